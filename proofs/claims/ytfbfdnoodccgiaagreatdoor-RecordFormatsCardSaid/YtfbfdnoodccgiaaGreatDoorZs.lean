/- Merged texts of this proof (walks and plain laws), printed by a program of the prover. -/
import Derived.Test.YtfbfdnoodccgiaaGreatDoorZr
import Derived.Test.YtfbfdnoodccgiaaGreatDoorZj
set_option maxHeartbeats 8000000
namespace Go.Proofs.YtfbfdnoodccgiaaGreatDoor
open Go.RowKit Go.Proofs
set_option maxRecDepth 100000
set_option linter.unusedVariables false
set_option linter.unusedSimpArgs false
theorem Jwt {w0 u:World} {L:List SA} {is:List Nat} {e1 e2 e3 e4:TypeId} {a b c v:Value} {xs ys zs:List Int} {rd:List Bool} {f:Value→Value} {x:PX} (hs:selo L is=some [oints e1 a xs,oints e2 b ys,oints e3 c zs,oT Jb2 e4 v rd]) (hx:((xs,ys,zs),rd)=x) (hu:St w0.heap.size w0 L u) :
  RetP w0 x f (.returned (f (.agg #[a,b,c,v]))) u:=by
 have h1:=St.toRo (A:=star [oints e1 a xs,oints e2 b ys,oints e3 c zs,oT Jb2 e4 v rd]) (p:=fun u=>PosOk u ⟨⟨⟨a,xs⟩,⟨b,ys⟩,⟨c,zs⟩⟩,⟨v,rd⟩⟩) (L:=[])
  (fun S u h=>⟨⟨SlI.tree (Star.oints (L:=[oints e1 a xs,oints e2 b ys,oints e3 c zs,oT Jb2 e4 v rd]) (j:=0) rfl h.1),SlI.tree (Star.oints (L:=[oints e1 a xs,oints e2 b ys,oints e3 c zs,oT Jb2 e4 v rd]) (j:=1) rfl h.1),SlI.tree (Star.oints (L:=[oints e1 a xs,oints e2 b ys,oints e3 c zs,oT Jb2 e4 v rd]) (j:=2) rfl h.1)⟩,J5f (Star.osl (L:=[oints e1 a xs,oints e2 b ys,oints e3 c zs,oT Jb2 e4 v rd]) (j:=3) rfl h.1)⟩)
  (St.pack (L2:=[]) (by simpa using hu.sel is hs))
 exact ⟨⟨⟨⟨a,xs⟩,⟨b,ys⟩,⟨c,zs⟩⟩,⟨v,rd⟩⟩,⟨hx,u,h1.ro (j:=0) rfl⟩,retF (j:=0) rfl u h1⟩
theorem Jf0 (bt mb:Nat) (G:Game) (p:Pos) (w:World) (hT:TeamOk w bt mb G p) (hm:(p.st.ths.l.length≤1000000∧p.st.prs.l.length≤1000000∧p.st.pls.l.length≤1000000)∧p.rd.l.length≤1000000) :
  Calls Tryz.prog 58 #[.pointer (some ⟨bt,0,none⟩)] w (RetP w p.x fun v=>v):=by
 have hTb:=hT.blk
 have hG:=hT.gm
 have hp:=hT.ps
 have klk:=hG.lks
 have krd:=hp.rd
 have llk:=klk.le
 have zth:=hp.st.ths.ints
 have zpr:=hp.st.prs.ints
 have zpl:=hp.st.pls.ints
 refine enter Tryz.func58 rfl rfl (Nat.le_of_ble_eq_true rfl) ?_
 refine Nz 0 ?_
 refine Wl 0 zv97 (fun _=>rfl) (fun _=>rfl) fun b2 hb2=>?_
 refine Wd (Qc (Cs ?_))
 refine CS.drawnTill 23 (k:=24) mixed rfl rfl ?_
 refine Tr 24 [0,1,2,3,4] ?_
 refine Tk 24 5 [7,8,9,10,11] rfl Ga ?_
 refine Tk 24 12 [14,15,16,17,18] rfl Ga ?_
 refine Tk 24 19 [] rfl Ga ?_
 refine AT.two (i:=6) (j:=22) (by kernel_rfl) rfl rfl (by first | (intro h; exact absurd h (by decide)) | exact fun _ _ h=>h | exact fun _ _ h=>h.sub (by repeat first | exact List.Sublist.refl _ | apply List.Sublist.cons_cons | apply List.Sublist.cons)) rfl rfl ?_ ?_
 ·
  refine Wc rfl rfl Jfj (fun u hu=>Jbp _ _ u (zth.st hu) (by omega)) (fun _=>rfl) ?_; intro v10 hv10
  refine Wd (Qt ?_)
  refine AT.two (i:=13) (j:=22) (by kernel_rfl) rfl rfl (by first | (intro h; exact absurd h (by decide)) | exact fun _ _ h=>h | exact fun _ _ h=>h.sub (by repeat first | exact List.Sublist.refl _ | apply List.Sublist.cons_cons | apply List.Sublist.cons)) rfl rfl ?_ ?_
  ·
   refine Wc rfl rfl Jfj (fun u hu=>Jbp _ _ u (zpr.st hu) (by omega)) (fun _=>rfl) ?_; intro v17 hv17
   refine Wd (Qt ?_)
   refine AT.two (i:=20) (j:=22) (by kernel_rfl) rfl rfl (by first | (intro h; exact absurd h (by decide)) | exact fun _ _ h=>h | exact fun _ _ h=>h.sub (by repeat first | exact List.Sublist.refl _ | apply List.Sublist.cons_cons | apply List.Sublist.cons)) rfl rfl ?_ ?_
   ·
    refine Wc rfl rfl Jfj (fun u hu=>Jbp _ _ u (zpl.st hu) (by omega)) (fun _=>rfl) ?_; intro v24 hv24
    refine Wd (Qt ?_)
    refine Tk 24 21 [] rfl (Db Jhs zv94) ?_
    refine To 22 rfl ?_
    refine Wl 0 zv94 (fun _=>rfl) (fun _=>rfl) fun b3 hb3=>?_
    refine Wd (Qt ?_)
    refine To 23 rfl ?_
    refine Wv 0 0 ?_
    refine Wd (Qt ?_)
    refine Te ?_
    refine Qc (Cs ?_)
    refine CS.drawnTill 8 (k:=9) mixed rfl rfl ?_
    refine Tk 9 0 [1,2,3,4] rfl (Bb 0) ?_
    refine Tk 9 5 [] rfl Ga ?_
    refine To 6 rfl ?_
    refine Wc rfl rfl Jpc (fun u hu=>Jd2 p.rd u (hp.rd.st hu) hm.2) (fun _=>rfl) ?_; intro v32 hv32
    refine Wd (Qt ?_)
    refine Tk 9 7 [] rfl (Jas Jgc zv97 (pcs:=[(0,[v10,v17,v24]),(1,[v32])]) rfl (CellsOf.agg (CellsOf.one hv32 CellsOf.nil)) rfl) ?_
    refine To 8 rfl ?_
    refine Wv 0 5 ?_
    refine Wd (Qt ?_)
    refine Te ?_
    exact Qc (Cr (outR (resc rfl (Jar (j:=5) rfl rfl tk97)) (fun u hu=>Jwt (f:=fun v=>v) (is:=[4,3,2,0]) rfl rfl hu)))
   refine Wl 0 zv94 (fun _=>rfl) (fun _=>rfl) fun b3 hb3=>?_
   refine Wd (Qt ?_)
   refine To 20 rfl ?_
   refine Wc rfl rfl Jfj (fun u hu=>Jbp _ _ u (zpl.st hu) (by omega)) (fun _=>rfl) ?_; intro v24 hv24
   refine Wd (Qt ?_)
   refine Tk 9 21 [] rfl (Db Jhs zv94) ?_
   refine To 23 rfl ?_
   refine Wv 0 1 ?_
   refine Wd (Qt ?_)
   refine Te ?_
   refine Qc (Cs ?_)
   refine CS.drawnTill 8 (k:=9) mixed rfl rfl ?_
   refine Tk 9 0 [1,2,3,4] rfl (Bb 1) ?_
   refine Tk 9 5 [] rfl Ga ?_
   refine To 6 rfl ?_
   refine Wc rfl rfl Jpc (fun u hu=>Jd2 p.rd u (hp.rd.st hu) hm.2) (fun _=>rfl) ?_; intro v32 hv32
   refine Wd (Qt ?_)
   refine Tk 9 7 [] rfl (Jas Jgc zv97 (pcs:=[(0,[v10,v17,v24]),(1,[v32])]) rfl (CellsOf.agg (CellsOf.one hv32 CellsOf.nil)) rfl) ?_
   refine To 8 rfl ?_
   refine Wv 0 5 ?_
   refine Wd (Qt ?_)
   refine Te ?_
   exact Qc (Cr (outR (resc rfl (Jar (j:=5) rfl rfl tk97)) (fun u hu=>Jwt (f:=fun v=>v) (is:=[4,3,1,0]) rfl rfl hu)))
  refine Wl 0 zv94 (fun _=>rfl) (fun _=>rfl) fun b3 hb3=>?_
  refine Wd (Qt ?_)
  refine To 13 rfl ?_
  refine Wc rfl rfl Jfj (fun u hu=>Jbp _ _ u (zpr.st hu) (by omega)) (fun _=>rfl) ?_; intro v17 hv17
  refine Wd (Qt ?_)
  refine To 20 rfl ?_
  refine Wc rfl rfl Jfj (fun u hu=>Jbp _ _ u (zpl.st hu) (by omega)) (fun _=>rfl) ?_; intro v24 hv24
  refine Wd (Qt ?_)
  refine Tk 9 21 [] rfl (Db Jhs zv94) ?_
  refine To 23 rfl ?_
  refine Wv 0 2 ?_
  refine Wd (Qt ?_)
  refine Te ?_
  refine Qc (Cs ?_)
  refine CS.drawnTill 8 (k:=9) mixed rfl rfl ?_
  refine Tk 9 0 [1,2,3,4] rfl (Bb 2) ?_
  refine Tk 9 5 [] rfl Ga ?_
  refine To 6 rfl ?_
  refine Wc rfl rfl Jpc (fun u hu=>Jd2 p.rd u (hp.rd.st hu) hm.2) (fun _=>rfl) ?_; intro v32 hv32
  refine Wd (Qt ?_)
  refine Tk 9 7 [] rfl (Jas Jgc zv97 (pcs:=[(0,[v10,v17,v24]),(1,[v32])]) rfl (CellsOf.agg (CellsOf.one hv32 CellsOf.nil)) rfl) ?_
  refine To 8 rfl ?_
  refine Wv 0 5 ?_
  refine Wd (Qt ?_)
  refine Te ?_
  exact Qc (Cr (outR (resc rfl (Jar (j:=5) rfl rfl tk97)) (fun u hu=>Jwt (f:=fun v=>v) (is:=[4,2,1,0]) rfl rfl hu)))
 refine Wl 0 zv94 (fun _=>rfl) (fun _=>rfl) fun b3 hb3=>?_
 refine Wd (Qt ?_)
 refine To 6 rfl ?_
 refine Wc rfl rfl Jfj (fun u hu=>Jbp _ _ u (zth.st hu) (by omega)) (fun _=>rfl) ?_; intro v10 hv10
 refine Wd (Qt ?_)
 refine To 13 rfl ?_
 refine Wc rfl rfl Jfj (fun u hu=>Jbp _ _ u (zpr.st hu) (by omega)) (fun _=>rfl) ?_; intro v17 hv17
 refine Wd (Qt ?_)
 refine To 20 rfl ?_
 refine Wc rfl rfl Jfj (fun u hu=>Jbp _ _ u (zpl.st hu) (by omega)) (fun _=>rfl) ?_; intro v24 hv24
 refine Wd (Qt ?_)
 refine Tk 9 21 [] rfl (Db Jhs zv94) ?_
 refine To 23 rfl ?_
 refine Wv 0 3 ?_
 refine Wd (Qt ?_)
 refine Te ?_
 refine Qc (Cs ?_)
 refine CS.drawnTill 8 (k:=9) mixed rfl rfl ?_
 refine Tk 9 0 [1,2,3,4] rfl (Bb 3) ?_
 refine Tk 9 5 [] rfl Ga ?_
 refine To 6 rfl ?_
 refine Wc rfl rfl Jpc (fun u hu=>Jd2 p.rd u (hp.rd.st hu) hm.2) (fun _=>rfl) ?_; intro v32 hv32
 refine Wd (Qt ?_)
 refine Tk 9 7 [] rfl (Jas Jgc zv97 (pcs:=[(0,[v10,v17,v24]),(1,[v32])]) rfl (CellsOf.agg (CellsOf.one hv32 CellsOf.nil)) rfl) ?_
 refine To 8 rfl ?_
 refine Wv 0 5 ?_
 refine Wd (Qt ?_)
 refine Te ?_
 exact Qc (Cr (outR (resc rfl (Jar (j:=5) rfl rfl tk97)) (fun u hu=>Jwt (f:=fun v=>v) (is:=[3,2,1,0]) rfl rfl hu)))
theorem KeptO.one {G:GP} {rd:List Bool} {f:Int→Int} (h:KeptO G rd f) (k:Int):KeptO G rd (updI (fun _=>0) k (f k)):=fun j=>by
 unfold updI
 split
 ·
  rename_i e; rw [e]; exact h k
 exact .inl rfl
theorem J0n {w u:World} (A B:List SA) (G:Game) (hG:GameOk w G) (hn:NearG G) (g:Sl ByteArray) (hW:GOk w g) (hV:GoodG G) (tb mb:Nat) (z:Stt) (Z:SA) (hZ:HasZ w Z z) (hI:StIn G.rm z.x) (rv:Value) (rd:List Bool) (hl:rd.length=G.nts.l.length) (f:Int→Int) (hf:KeptO G.p rd f) (m:Move) (hu:St w.heap.size w (A++[blk tb [G.rm.pls.v,G.rm.ths.v,G.rm.prs.v,G.rm.wys.v,G.rm.acs.v,G.rm.aus.v,.int .i64 G.rm.ply,G.rm.gl.v,G.lks.v,G.cds.v,G.nts.v,.int .i64 G.tr,z.ths.v,z.prs.v,z.pls.v,rv,.map (some mb)] 143,oT Jb2 4 rv rd,mapI mb f,Z]++B) u) :
  Calls Tryz.prog 61 #[.pointer (some ⟨tb,0,none⟩),.agg #[.int .i64 m.p,.int .i64 m.k,.int .i64 m.n]] u (fun e u'=>∃ q:Stt × (Int→Int) × SA × SA,(q.1.x=(Jb7 G.p (z.x,rd) m).1∧HasZ w q.2.2.1 q.1∧KeptO G.p (Jb7 G.p (z.x,rd) m).2 q.2.1∧((Ja6 G.p (z.x,rd) m=true∧q.2.2.2=Z)∨(Ja6 G.p (z.x,rd) m=false∧q.2.2.1=Z)))∧e = .returned (.bool (Ja6 G.p (z.x,rd) m))∧St w.heap.size w ([blk tb [G.rm.pls.v,G.rm.ths.v,G.rm.prs.v,G.rm.wys.v,G.rm.acs.v,G.rm.aus.v,.int .i64 G.rm.ply,G.rm.gl.v,G.lks.v,G.cds.v,G.nts.v,.int .i64 G.tr,q.1.ths.v,q.1.prs.v,q.1.pls.v,rv,.map (some mb)] 143,oT Jb2 4 rv (Jb7 G.p (z.x,rd) m).2,mapI mb q.2.1,q.2.2.1,q.2.2.2]++(A++B)) u'):=by
 refine Calls.mono (J1l (star (A++B)) G hG hn g hW hV tb mb z Z hZ hI rv rd hl f hf m hu.out4) ?_
 rintro e u' ⟨o,h1,h2,h3⟩
 refine ⟨o,h1,h2,?_⟩
 have h4:=(h3.perm (List.perm_append_comm (l₁:=[_,_,_,_,_]) (l₂:=[Go.Proofs.YtfbfdnoodccgiaaGreatDoor.star (A++B)]))).unpack
 exact h4.perm List.perm_append_comm
theorem Jm4 {G:Game} {p:Pos} {m:Move} (hP:GoodP G p) (h:Ja6 G.p p.x m=true):StIn G.rm (Jcw G.p p.x m).1:=by
 rw [Jyz h]; exact J0c hP h
theorem Jo8 {G:Game} (hV:GoodG G) {x:P3} (hI:StIn G.rm x) {rd:List Bool} (hl:rd.length=G.nts.l.length) {y:Stt} {m:Move} (hy:y.x=(Jb7 G.p (x,rd) m).1) (hin:StIn G.rm (Jb7 G.p (x,rd) m).1):(y.ths.l.length≤1000000∧y.prs.l.length≤1000000∧y.pls.l.length≤1000000)∧(Jb7 G.p (x,rd) m).2.length≤1000000:=by
 rw [← hy] at hin
 refine ⟨hin.small hV.ready,?_⟩
 have hnn:=hV.nn
 unfold Jb7
 split
 ·
  unfold Jcw; rw [Jc7]; show rd.length≤_; omega
 show rd.length≤_; omega
theorem Jo4 (G:Game) (w:World) (hG:GameOk w G) (g:Sl ByteArray) (hW:GOk w g) (hn:NearG G) (p:Pos) (hp:PosOk w p) (hq:¬ posG G.p p.x=0) :
  Calls Tryz.prog 60 #[.agg #[G.rm.pls.v,G.rm.ths.v,G.rm.prs.v,G.rm.wys.v,G.rm.acs.v,G.rm.aus.v,.int .i64 G.rm.ply,G.rm.gl.v,G.lks.v,G.cds.v,G.nts.v,.int .i64 G.tr],.agg #[p.st.ths.v,p.st.prs.v,p.st.pls.v,p.rd.v]] w (RetB w (.tuple #[.pointer none,.int .i64 (posG G.p p.x)])):=by
 refine enter Tryz.func60 rfl rfl (Nat.le_of_ble_eq_true rfl) ?_
 refine Nz 0 ?_
 refine Wb 0 rfl rfl (fun _=>rfl) (fun _=>rfl) fun b2 hb2=>?_
 refine Wb 2 rfl rfl (fun _=>rfl) (fun _=>rfl) fun b3 hb3=>?_
 refine Wd (Qc (Cs (Nz 0 ?_)))
 refine Wk 0 (Bb 1) ?_
 refine Wk 0 (Bb 0) ?_
 refine Wk 1 (Cb rfl rfl J47 (fun u hu=>Joy G u (hG.st hu) g (hW.st hu) hn p (hp.toSt hu))) ?_
 refine Wd (Qc (Nz 2 ?_))
 refine Wd (Qc (CS.cond rfl ?_ ?_))<;>intro hc1<;>try simp only [bq] at hc1
 ·
  refine Nz 3 ?_
  exact Wd (Qc (Cr (Qr (out2 rfl rfl rfl retB))))
 exact absurd hc1 hq
theorem Ju0 (G:Game) (w:World) (hG:GameOk w G) (g:Sl ByteArray) (hW:GOk w g) (hn:NearG G) (p:Pos) (hp:PosOk w p) (m:Move) (hq:posG G.p p.x=0) :
  Calls Tryz.prog 45 #[.agg #[G.rm.pls.v,G.rm.ths.v,G.rm.prs.v,G.rm.wys.v,G.rm.acs.v,G.rm.aus.v,.int .i64 G.rm.ply,G.rm.gl.v,G.lks.v,G.cds.v,G.nts.v,.int .i64 G.tr],.agg #[p.st.ths.v,p.st.prs.v,p.st.pls.v,p.rd.v],.agg #[.int .i64 m.p,.int .i64 m.k,.int .i64 m.n]] w (RetP w (Jam G.p p.x m).2 fun v=>.tuple #[v,.int .i64 (Jam G.p p.x m).1]):=by
 have hP:=Jeu hq
 have hV:=hP.toGoodG
 have hI:=hP.inn
 have hpl:=hP.ln
 refine enter Tryz.func45 rfl rfl (Nat.le_of_ble_eq_true rfl) ?_
 refine Nz 0 ?_
 refine Wb 0 rfl rfl (fun _=>rfl) (fun _=>rfl) fun b3 hb3=>?_
 refine Wb 0 rfl rfl (fun _=>rfl) (fun _=>rfl) fun b4 hb4=>?_
 refine Wb 0 rfl rfl (fun _=>rfl) (fun _=>rfl) fun b5 hb5=>?_
 refine Wl 1 zv97 (fun _=>rfl) (fun _=>rfl) fun b6 hb6=>?_
 refine Wd (Qc (Nz 0 ?_))
 refine Wk 0 (Bb 3) ?_
 refine Wk 0 (Bb 2) ?_
 refine Wc rfl rfl J33 (fun u hu=>Js5 G u (hG.st hu) g (hW.st hu) hn p (hp.toSt hu) hq) (fun _=>rfl) ?_; rintro ⟨bt,mb,rv⟩ hrv
 refine WS.unpack ?_
 refine WS.weak (fun u hu=>hu.osl0 (e:=0) (size:=1)) ?_
 refine WS.sel [1,1,1,0,0,0,0,0] rfl ?_
 refine Wz 5 ?_
 refine Wd (Qc (Cs (Nz 2 ?_)))
 refine Wd (Qc (CS.cond rfl ?_ ?_))<;>intro hc1<;>try simp only [bq] at hc1
 ·
  exact absurd hc1 (by simp)
 refine Ck (Qc (Cs (Nz 1 ?_)))
 refine Wk 0 (Bb 5) ?_
 refine WS.callS rfl rfl J6j (fun u hu=>J0n [] _ G hG hn g hW hV bt mb p.st _ (HasZ.old hp.st _) hI rv p.rd.l hpl (fun _=>0) KeptO.zero m hu) (fun _=>rfl) ?_; rintro ⟨y,f2,Z2,Z3⟩ ⟨hyx,hZ2,hf2, -⟩
 refine Wz 1 ?_
 refine Wd (Qc (CS.cond rfl ?_ ?_))<;>intro hc2<;>try simp only [bq] at hc2
 ·
  have hpn:¬ Ja6 G.p p.x m=true:=by rw [show Ja6 G.p p.x m=false from hc2]; decide
  refine Nz 0 ?_
  refine Wk 0 (Db Jgc zv97) ?_
  refine Wv 1 5 ?_
  refine Wd (Qc (Cr (Qr ?_)))
  exact outR (Jc3 rfl (Jar (j:=5) rfl rfl tk97) rfl) (by
    have hv:Jam G.p p.x m=(29,noP):=(if_pos hq).trans (if_neg hpn)
    rw [hv]
    exact fun u hu=>Jvv (f:=fun v=>.tuple #[v,.int .i64 29]) hu)
 have hpy:Ja6 G.p p.x m=true:=by first | exact hc2 | simpa using hc2
 have hsm:=Jo8 hV hI hpl hyx (by rw [Jbc (x:=(p.st.x,p.rd.l)) hpy]; exact Jm4 hP hpy)
 refine Ck (Qc (Nz 1 ?_))
 refine Wc rfl rfl Jy9 (fun u hu=>Jf0 bt mb G ⟨y,⟨rv,(Jb7 G.p (p.st.x,p.rd.l) m).2⟩⟩ u ⟨Jap hu (j:=0) rfl,hG.st hu,⟨hZ2.get (j:=3) rfl hu,Jim hu (j:=1) rfl fun _ _ ↦ trivial⟩⟩ hsm) (fun _=>rfl) ?_; rintro v ⟨hvx,uv,hvok⟩
 obtain ⟨hva,hvb,hvc⟩:=hvok.st.ones
 have hvd:=Sl.one hvok.rd
 refine Wv 1 6 ?_
 refine Wd (Qc (Cr ?_))
 exact outR (Jc3 rfl (Jar (j:=6) rfl rfl tk97) rfl) (by
   have hv:Jam G.p p.x m=(0,Jcw G.p p.x m):=(if_pos hq).trans (if_pos hpy)
   rw [hv]
   exact fun u hu=>Jy4 (f:=fun v=>.tuple #[v,.int .i64 0]) (j:=0) rfl (by rw [hvx,show ((⟨y,⟨rv,(Jb7 G.p (p.st.x,p.rd.l) m).2⟩⟩:Pos).x)=(y.x,(Jb7 G.p (p.st.x,p.rd.l) m).2) from rfl,hyx,Jbc (x:=(p.st.x,p.rd.l)) hpy]; rfl) hu)
theorem Jvu (G:Game) (w:World) (hG:GameOk w G) (g:Sl ByteArray) (hW:GOk w g) (hn:NearG G) (p:Pos) (hp:PosOk w p) (m:Move) (hq:¬ posG G.p p.x=0) :
  Calls Tryz.prog 45 #[.agg #[G.rm.pls.v,G.rm.ths.v,G.rm.prs.v,G.rm.wys.v,G.rm.acs.v,G.rm.aus.v,.int .i64 G.rm.ply,G.rm.gl.v,G.lks.v,G.cds.v,G.nts.v,.int .i64 G.tr],.agg #[p.st.ths.v,p.st.prs.v,p.st.pls.v,p.rd.v],.agg #[.int .i64 m.p,.int .i64 m.k,.int .i64 m.n]] w (RetP w (Jam G.p p.x m).2 fun v=>.tuple #[v,.int .i64 (Jam G.p p.x m).1]):=by
 refine enter Tryz.func45 rfl rfl (Nat.le_of_ble_eq_true rfl) ?_
 refine Nz 0 ?_
 refine Wb 0 rfl rfl (fun _=>rfl) (fun _=>rfl) fun b3 hb3=>?_
 refine Wb 0 rfl rfl (fun _=>rfl) (fun _=>rfl) fun b4 hb4=>?_
 refine Wb 0 rfl rfl (fun _=>rfl) (fun _=>rfl) fun b5 hb5=>?_
 refine Wl 1 zv97 (fun _=>rfl) (fun _=>rfl) fun b6 hb6=>?_
 refine Wd (Qc (Nz 0 ?_))
 refine Wk 0 (Bb 3) ?_
 refine Wk 0 (Bb 2) ?_
 refine Wk 5 (Cb rfl rfl J33 (fun u hu=>Jo4 G u (hG.st hu) g (hW.st hu) hn p (hp.toSt hu) hq)) ?_
 refine Wd (Qc (Cs (Nz 2 ?_)))
 refine Wd (Qc (CS.cond rfl ?_ ?_))<;>intro hc1<;>try simp only [bq] at hc1
 ·
  refine Nz 0 ?_
  refine Wk 1 (Db Jgc zv97) ?_
  refine Wv 1 0 ?_
  refine Wd (Qc (Cr (Qr ?_)))
  exact outR (Jc3 rfl (Jar (j:=0) rfl rfl tk97) rfl) (by
    have hv:Jam G.p p.x m=(posG G.p p.x,noP):=if_neg hq
    rw [hv]
    exact fun u hu=>Jvv (f:=fun v=>.tuple #[v,.int .i64 (posG G.p p.x)]) hu)
 exact absurd hc1 hq
theorem Jsf (G:Game) (w:World) (hG:GameOk w G) (g:Sl ByteArray) (hW:GOk w g) (hn:NearG G) (p:Pos) (hp:PosOk w p) (m:Move) :
  Calls Tryz.prog 45 #[.agg #[G.rm.pls.v,G.rm.ths.v,G.rm.prs.v,G.rm.wys.v,G.rm.acs.v,G.rm.aus.v,.int .i64 G.rm.ply,G.rm.gl.v,G.lks.v,G.cds.v,G.nts.v,.int .i64 G.tr],.agg #[p.st.ths.v,p.st.prs.v,p.st.pls.v,p.rd.v],.agg #[.int .i64 m.p,.int .i64 m.k,.int .i64 m.n]] w (RetP w (Jam G.p p.x m).2 fun v=>.tuple #[v,.int .i64 (Jam G.p p.x m).1]):=by
 by_cases hq:posG G.p p.x=0
 ·
  exact Ju0 G w hG g hW hn p hp m hq
 exact Jvu G w hG g hW hn p hp m hq
theorem Jn1 (G:Game) (w:World) (hG:GameOk w G) (g:Sl ByteArray) (hW:GOk w g) (hn:NearG G) :
  Calls Tryz.prog 43 #[.agg #[G.rm.pls.v,G.rm.ths.v,G.rm.prs.v,G.rm.wys.v,G.rm.acs.v,G.rm.aus.v,.int .i64 G.rm.ply,G.rm.gl.v,G.lks.v,G.cds.v,G.nts.v,.int .i64 G.tr]] w (RetP w (Jal G.p).2 fun v=>.tuple #[v,.int .i64 (Jal G.p).1]):=by
 have knt:=hG.nts
 have lnt:=hG.nts.le
 have hp0:=True.intro
 have hbv:BeginV G.p.rm=BeginV G.rm:=(G.p_alike.BeginV).symm
 have o1:=Sl.one hG.rm.pls
 have o2:=Sl.one hG.rm.ths
 have o3:=Sl.one hG.rm.prs
 have o4:=Sl.one hG.rm.wys
 have o5:=Sl.one hG.rm.acs
 have o6:=Sl.one hG.rm.aus
 have o7:=Sl.one hG.rm.gl
 have o8:=Sl.one hG.lks
 have o9:=Sl.one hG.cds
 have o10:=Sl.one hG.nts
 refine enter Tryz.func43 rfl rfl (Nat.le_of_ble_eq_true rfl) ?_
 refine Nz 0 ?_
 refine Wb 0 rfl rfl (fun _=>rfl) (fun _=>rfl) fun b1 hb1=>?_
 refine Wl 1 zv97 (fun _=>rfl) (fun _=>rfl) fun b2 hb2=>?_
 refine Wd (Qc (Cs (Nz 0 ?_)))
 refine Wk 0 (Bb 1) ?_
 refine Wk 1 (Cb rfl rfl J3d (fun u hu=>Jlb G u (hG.st hu) g (hW.st hu) hn)) ?_
 refine Wd (Qc (Nz 2 ?_))
 refine Wd (Qc (CS.cond rfl ?_ ?_))<;>intro hc1<;>try simp only [bq] at hc1
 ·
  refine Nz 0 ?_
  refine Wk 1 (Db Jgc zv97) ?_
  refine Wv 1 0 ?_
  refine Wd (Qc (Cr (Qr ?_)))
  exact outR (Jc3 rfl (Jar (j:=0) rfl rfl tk97) rfl) (by
    have hv:Jal G.p=(Jbl G.p,noP):=if_neg hc1
    rw [hv]
    exact fun u hu=>Jvv (f:=fun v=>.tuple #[v,.int .i64 (Jbl G.p)]) hu)
 have hV:=Jji hc1
 have hnn:=hV.nn
 refine Ck (Qc (Nz 1 ?_))
 refine Wk 0 (Bc 1) ?_
 refine Wc rfl rfl J5q (fun u hu=>Jxr G.rm u (hG.rm.st hu) g (hW.st hu) hn.rm) (fun _=>rfl) ?_; rintro y ⟨hyx,uy,hyok⟩
 obtain ⟨hya,hyb,hyc⟩:=hyok.ones
 refine Wz 3 ?_
 refine Wl 0 zv94 (fun _=>rfl) (fun _=>rfl) fun b5 hb5=>?_
 refine Wv 1 0 ?_
 refine Wd (Qc (Cs (Nz 2 ?_)))
 refine Wd (Qc (CS.cond rfl ?_ ?_))<;>intro hc2<;>try simp only [bq] at hc2
 ·
  refine Nz 0 ?_
  refine Wk 1 (Db Jgc zv97) ?_
  refine Wv 1 2 ?_
  refine Wd (Qc (Cr (Qr ?_)))
  exact outR (Jc3 rfl (Jar (j:=2) rfl rfl tk97) rfl) (by
    have hv:Jal G.p=((BeginV G.rm).1,noP):=(if_pos hc1).trans (by rw [hbv]; exact if_neg hc2)
    rw [hv]
    exact fun u hu=>Jvv (f:=fun v=>.tuple #[v,.int .i64 (BeginV G.rm).1]) hu)
 have hb0:(BeginV G.rm).1=0:=hc2
 have hIy:=Jkt hV.ck hb0
 have hIz:StIn G.rm y.x:=by rw [hyx]; exact hIy
 have hsm:=hIz.small hV.ready
 refine Ck (Qc (Cs ?_))
 refine CS.drawnAll (k:=11) mixed rfl rfl ?_
 refine Ak 0 [] rfl (Bb 3) ?_
 refine Ak 1 [2] rfl (Bb 0) ?_
 refine Ak 3 [] rfl (Ba 3) ?_
 refine Ak 4 [] rfl Nc ?_
 refine AS.two (i:=5) (j:=7) (by kernel_rfl) rfl rfl (by first | exact fun _ h=>h | exact fun _ h=>h.sub (by repeat first | exact List.Sublist.refl _ | apply List.Sublist.cons_cons | apply List.Sublist.cons)) rfl rfl ?_ ?_
 ·
  refine WS.makeB sl95 rfl rfl zv4 (by omega) (by omega) (by omega) (fun _=>rfl) ?_; intro v29; refine WS.oc (j:=0) rfl (fun hv29=>?_)
  refine Wd (Qa ?_)
  refine Ak 6 [] rfl (Jas Jgc zv97 (pcs:=[(0,[y.ths.v,y.prs.v,y.pls.v]),(1,[v29])]) rfl (CellsOf.agg (CellsOf.one hv29 CellsOf.nil)) rfl) ?_
  refine Ao 7 rfl ?_
  refine WS.makeMap (fun _=>rfl) fun b31 hb31=>?_
  refine Wd (Qa ?_)
  refine Ak 8 [] rfl (Jas Jm8 Jvd (pcs:=[(0,[G.rm.pls.v,G.rm.ths.v,G.rm.prs.v,G.rm.wys.v,G.rm.acs.v,G.rm.aus.v,.int .i64 G.rm.ply,G.rm.gl.v,G.lks.v,G.cds.v,G.nts.v,.int .i64 G.tr]),(1,[y.ths.v,y.prs.v,y.pls.v,v29]),(2,[.map (some b31)])]) rfl (CellsOf.agg (CellsOf.agg (CellsOf.one rfl CellsOf.nil))) rfl) ?_
  refine Ao 9 rfl ?_
  refine Wb 0 rfl rfl (fun _=>rfl) (fun _=>rfl) fun b33 hb33=>?_
  refine Wd (Qa ?_)
  refine Ar [10] ?_
  refine Ae ?_
  refine Qc (Nz 1 ?_)
  refine WS.sel [0,1,0,1,1] rfl ?_; refine WS.callS rfl rfl Jf9 (fun u hu=>Jso _ G hG hn g hW hV b33 b31 y _ HasZ.ro hIz v29 (List.replicate (G.nts.l.length:Int).toNat false) (by simp) (fun _=>0) KeptO.zero hu) (fun _=>rfl) ?_; rintro f2 hf2
  refine Wd (Qc (Nz 1 ?_))
  refine Wc rfl rfl Jy9 (fun u hu=>Jf0 b33 b31 G ⟨y,⟨v29,Jb3 G.p y.x (List.replicate (G.nts.l.length:Int).toNat false)⟩⟩ u ⟨Jap hu (j:=0) rfl,hG.st hu,⟨hu.ro (j:=3) rfl,Jim hu (j:=1) rfl fun _ _ ↦ trivial⟩⟩ ⟨hsm,by rw [Jc7]; simp; omega⟩) (fun _=>rfl) ?_; rintro v ⟨hvx,uv,hvok⟩
  obtain ⟨hva,hvb,hvc⟩:=hvok.st.ones
  have hvd:=Sl.one hvok.rd
  refine Wv 1 5 ?_
  refine Wd (Qc (Cr ?_))
  exact outR (Jc3 rfl (Jar (j:=5) rfl rfl tk97) rfl) (by
    have hv:Jal G.p=(0,(BeginV G.rm).2,Jb3 G.p (BeginV G.rm).2 (List.replicate G.nts.l.length false)):=(if_pos hc1).trans (by rw [hbv,Game.p_nlen]; exact if_pos hb0)
    rw [hv]
    exact fun u hu=>Jy4 (f:=fun v=>.tuple #[v,.int .i64 0]) (j:=0) rfl (by rw [hvx, ← hyx]; simp [Pos.x]) hu)
 refine WS.makeMap (fun _=>rfl) fun b31 hb31=>?_
 refine Wd (Qa ?_)
 refine Ao 5 rfl ?_
 refine WS.makeB sl95 rfl rfl zv4 (by omega) (by omega) (by omega) (fun _=>rfl) ?_; intro v29; refine WS.oc (j:=0) rfl (fun hv29=>?_)
 refine Wd (Qa ?_)
 refine Ak 6 [] rfl (Jas Jgc zv97 (pcs:=[(0,[y.ths.v,y.prs.v,y.pls.v]),(1,[v29])]) rfl (CellsOf.agg (CellsOf.one hv29 CellsOf.nil)) rfl) ?_
 refine Ak 8 [] rfl (Jas Jm8 Jvd (pcs:=[(0,[G.rm.pls.v,G.rm.ths.v,G.rm.prs.v,G.rm.wys.v,G.rm.acs.v,G.rm.aus.v,.int .i64 G.rm.ply,G.rm.gl.v,G.lks.v,G.cds.v,G.nts.v,.int .i64 G.tr]),(1,[y.ths.v,y.prs.v,y.pls.v,v29]),(2,[.map (some b31)])]) rfl (CellsOf.agg (CellsOf.agg (CellsOf.one rfl CellsOf.nil))) rfl) ?_
 refine Ao 9 rfl ?_
 refine Wb 0 rfl rfl (fun _=>rfl) (fun _=>rfl) fun b33 hb33=>?_
 refine Wd (Qa ?_)
 refine Ar [10] ?_
 refine Ae ?_
 refine Qc (Nz 1 ?_)
 refine WS.sel [0,0,0,1,1] rfl ?_; refine WS.callS rfl rfl Jf9 (fun u hu=>Jso _ G hG hn g hW hV b33 b31 y _ HasZ.ro hIz v29 (List.replicate (G.nts.l.length:Int).toNat false) (by simp) (fun _=>0) KeptO.zero hu) (fun _=>rfl) ?_; rintro f2 hf2
 refine Wd (Qc (Nz 1 ?_))
 refine Wc rfl rfl Jy9 (fun u hu=>Jf0 b33 b31 G ⟨y,⟨v29,Jb3 G.p y.x (List.replicate (G.nts.l.length:Int).toNat false)⟩⟩ u ⟨Jap hu (j:=0) rfl,hG.st hu,⟨hu.ro (j:=3) rfl,Jim hu (j:=1) rfl fun _ _ ↦ trivial⟩⟩ ⟨hsm,by rw [Jc7]; simp; omega⟩) (fun _=>rfl) ?_; rintro v ⟨hvx,uv,hvok⟩
 obtain ⟨hva,hvb,hvc⟩:=hvok.st.ones
 have hvd:=Sl.one hvok.rd
 refine Wv 1 5 ?_
 refine Wd (Qc (Cr ?_))
 exact outR (Jc3 rfl (Jar (j:=5) rfl rfl tk97) rfl) (by
   have hv:Jal G.p=(0,(BeginV G.rm).2,Jb3 G.p (BeginV G.rm).2 (List.replicate G.nts.l.length false)):=(if_pos hc1).trans (by rw [hbv,Game.p_nlen]; exact if_pos hb0)
   rw [hv]
   exact fun u hu=>Jy4 (f:=fun v=>.tuple #[v,.int .i64 0]) (j:=0) rfl (by rw [hvx, ← hyx]; simp [Pos.x]) hu)
end Go.Proofs.YtfbfdnoodccgiaaGreatDoor
