/- Merged texts of this proof (walks and plain laws), printed by a program of the prover. -/
import Derived.Test.YtmoojmgihdgceaaGreatDoorZr
import Derived.Test.YtmoojmgihdgceaaGreatDoorZj
import Derived.Test.YtmoojmgihdgceaaGreatDoorZk
set_option maxHeartbeats 8000000
namespace Go.Proofs.YtmoojmgihdgceaaGreatDoor
open Go.RowKit Go.Proofs Tryz
set_option maxRecDepth 100000
set_option linter.unusedVariables false
set_option linter.unusedSimpArgs false
theorem Sm {w0 u:World} {L:List SA} {is:List Nat} {e1 e2 e3 e4:TypeId} {a b c v:Value} {xs ys zs:List Int} {rd:List Bool} {f:Value→Value} {x:PX} (hs:selo L is=some [oints e1 a xs,oints e2 b ys,oints e3 c zs,oT cBool e4 v rd]) (hx:((xs,ys,zs),rd)=x) (hu:St w0.heap.size w0 L u):
  RetP w0 x f (.returned (f (.agg #[a,b,c,v]))) u:=by
 have h1:=St.toRo (A:=star [oints e1 a xs,oints e2 b ys,oints e3 c zs,oT cBool e4 v rd]) (p:=fun u=>PosOk u ⟨⟨⟨a,xs⟩,⟨b,ys⟩,⟨c,zs⟩⟩,⟨v,rd⟩⟩) (L:=[])
  (fun S u h=>⟨⟨SlI.tree (Star.oints (L:=[oints e1 a xs,oints e2 b ys,oints e3 c zs,oT cBool e4 v rd]) (j:=0) rfl h.1),SlI.tree (Star.oints (L:=[oints e1 a xs,oints e2 b ys,oints e3 c zs,oT cBool e4 v rd]) (j:=1) rfl h.1),SlI.tree (Star.oints (L:=[oints e1 a xs,oints e2 b ys,oints e3 c zs,oT cBool e4 v rd]) (j:=2) rfl h.1)⟩,X6 (Star.osl (L:=[oints e1 a xs,oints e2 b ys,oints e3 c zs,oT cBool e4 v rd]) (j:=3) rfl h.1)⟩)
  (St.pack (L2:=[]) (by simpa using hu.sel is hs))
 exact⟨⟨⟨⟨a,xs⟩,⟨b,ys⟩,⟨c,zs⟩⟩,⟨v,rd⟩⟩,⟨hx,u,h1.ro (j:=0) rfl⟩,retF (j:=0) rfl u h1⟩
theorem FZ (bt mb:Nat) (G:Game) (p:Pos) (w:World) (hT:TeamOk w bt mb G p) (hm:(p.st.ths.l.length≤1000000∧p.st.prs.l.length≤1000000∧p.st.pls.l.length≤1000000)∧p.rd.l.length≤1000000):
  Calls prog 103 #[.pointer (some ⟨bt,0,none⟩)] w (RetP w p.x fun v=>v):=by
 have hTb:=hT.blk;have hG:=hT.gm;have hp:=hT.ps;have klk:=hG.lks;have krd:=hp.rd;have llk:=klk.le;have zth:=hp.st.ths.ints;have zpr:=hp.st.prs.ints;have zpl:=hp.st.pls.ints;refine En func103 ?_;refine Nz 0 ?_;refine Wq 0 zv98 fun b2 hb2=>?_;refine Wd (Qc (Cs ?_));refine CS.drawnTill 23 (k:=24) mixed rfl rfl ?_;refine Tr 24 [0,1,2,3,4] ?_;refine Tk 24 5 [7,8,9,10,11] rfl Ga ?_;refine Tk 24 12 [14,15,16,17,18] rfl Ga ?_;refine Tk 24 19 [] rfl Ga ?_;refine AT.two (i:=6) (j:=22) (by kernel_rfl) rfl rfl (by exact fun _ _ h=>h) rfl rfl ?_ ?_
 ·refine Wc rfl rfl FS (fun u hu=>BQ _ _ u (zth.st hu) (by omega)) (fun _=>rfl) ?_;intro v10 hv10;refine Wd (Qt ?_);refine AT.two (i:=13) (j:=22) (by kernel_rfl) rfl rfl (by exact fun _ _ h=>h.sub (by repeat first|exact List.Sublist.refl _|apply List.Sublist.cons_cons|apply List.Sublist.cons)) rfl rfl ?_ ?_
  ·refine Wc rfl rfl FS (fun u hu=>BQ _ _ u (zpr.st hu) (by omega)) (fun _=>rfl) ?_;intro v17 hv17;refine Wd (Qt ?_);refine AT.two (i:=20) (j:=22) (by kernel_rfl) rfl rfl (by exact fun _ _ h=>h.sub (by repeat first|exact List.Sublist.refl _|apply List.Sublist.cons_cons|apply List.Sublist.cons)) rfl rfl ?_ ?_
   ·refine Wc rfl rfl FS (fun u hu=>BQ _ _ u (zpl.st hu) (by omega)) (fun _=>rfl) ?_;intro v24 hv24;refine Wd (Qt ?_);refine Tk 24 21 [] rfl (Db Ew zv95) ?_;refine To 22 rfl ?_;refine Wq 0 zv95 fun b3 hb3=>?_;refine Wd (Qt ?_);refine To 23 rfl ?_;refine Wv 0 0 ?_;refine Wd (Qt ?_);refine Te ?_;refine Qc (Cs ?_);refine CS.drawnTill 8 (k:=9) mixed rfl rfl ?_;refine Tk 9 0 [1,2,3,4] rfl (Bb 0) ?_;refine Tk 9 5 [] rfl Ga ?_;refine To 6 rfl ?_;refine Wc rfl rfl F3 (fun u hu=>CY p.rd u (hp.rd.st hu) hm.2) (fun _=>rfl) ?_;intro v32 hv32;refine Wd (Qt ?_);refine Tk 9 7 [] rfl (Aw C6 zv98 (pcs:=[(0,[v10,v17,v24]),(1,[v32])]) rfl (CellsOf.agg (CellsOf.one hv32 CellsOf.nil)) rfl) ?_;refine To 8 rfl ?_;refine Wv 0 5 ?_;refine Wd (Qt ?_);refine Te ?_;exact Qc (Cr (outR (resc rfl (Au (j:=5) rfl rfl tk98)) (fun u hu=>Sm (f:=fun v=>v) (is:=[4,3,2,0]) rfl rfl hu)))
   refine Wq 0 zv95 fun b3 hb3=>?_;refine Wd (Qt ?_);refine To 20 rfl ?_;refine Wc rfl rfl FS (fun u hu=>BQ _ _ u (zpl.st hu) (by omega)) (fun _=>rfl) ?_;intro v24 hv24;refine Wd (Qt ?_);refine Tk 9 21 [] rfl (Db Ew zv95) ?_;refine To 23 rfl ?_;refine Wv 0 1 ?_;refine Wd (Qt ?_);refine Te ?_;refine Qc (Cs ?_);refine CS.drawnTill 8 (k:=9) mixed rfl rfl ?_;refine Tk 9 0 [1,2,3,4] rfl (Bb 1) ?_;refine Tk 9 5 [] rfl Ga ?_;refine To 6 rfl ?_;refine Wc rfl rfl F3 (fun u hu=>CY p.rd u (hp.rd.st hu) hm.2) (fun _=>rfl) ?_;intro v32 hv32;refine Wd (Qt ?_);refine Tk 9 7 [] rfl (Aw C6 zv98 (pcs:=[(0,[v10,v17,v24]),(1,[v32])]) rfl (CellsOf.agg (CellsOf.one hv32 CellsOf.nil)) rfl) ?_;refine To 8 rfl ?_;refine Wv 0 5 ?_;refine Wd (Qt ?_);refine Te ?_;exact Qc (Cr (outR (resc rfl (Au (j:=5) rfl rfl tk98)) (fun u hu=>Sm (f:=fun v=>v) (is:=[4,3,1,0]) rfl rfl hu)))
  refine Wq 0 zv95 fun b3 hb3=>?_;refine Wd (Qt ?_);refine To 13 rfl ?_;refine Wc rfl rfl FS (fun u hu=>BQ _ _ u (zpr.st hu) (by omega)) (fun _=>rfl) ?_;intro v17 hv17;refine Wd (Qt ?_);refine To 20 rfl ?_;refine Wc rfl rfl FS (fun u hu=>BQ _ _ u (zpl.st hu) (by omega)) (fun _=>rfl) ?_;intro v24 hv24;refine Wd (Qt ?_);refine Tk 9 21 [] rfl (Db Ew zv95) ?_;refine To 23 rfl ?_;refine Wv 0 2 ?_;refine Wd (Qt ?_);refine Te ?_;refine Qc (Cs ?_);refine CS.drawnTill 8 (k:=9) mixed rfl rfl ?_;refine Tk 9 0 [1,2,3,4] rfl (Bb 2) ?_;refine Tk 9 5 [] rfl Ga ?_;refine To 6 rfl ?_;refine Wc rfl rfl F3 (fun u hu=>CY p.rd u (hp.rd.st hu) hm.2) (fun _=>rfl) ?_;intro v32 hv32;refine Wd (Qt ?_);refine Tk 9 7 [] rfl (Aw C6 zv98 (pcs:=[(0,[v10,v17,v24]),(1,[v32])]) rfl (CellsOf.agg (CellsOf.one hv32 CellsOf.nil)) rfl) ?_;refine To 8 rfl ?_;refine Wv 0 5 ?_;refine Wd (Qt ?_);refine Te ?_;exact Qc (Cr (outR (resc rfl (Au (j:=5) rfl rfl tk98)) (fun u hu=>Sm (f:=fun v=>v) (is:=[4,2,1,0]) rfl rfl hu)))
 refine Wq 0 zv95 fun b3 hb3=>?_;refine Wd (Qt ?_);refine To 6 rfl ?_;refine Wc rfl rfl FS (fun u hu=>BQ _ _ u (zth.st hu) (by omega)) (fun _=>rfl) ?_;intro v10 hv10;refine Wd (Qt ?_);refine To 13 rfl ?_;refine Wc rfl rfl FS (fun u hu=>BQ _ _ u (zpr.st hu) (by omega)) (fun _=>rfl) ?_;intro v17 hv17;refine Wd (Qt ?_);refine To 20 rfl ?_;refine Wc rfl rfl FS (fun u hu=>BQ _ _ u (zpl.st hu) (by omega)) (fun _=>rfl) ?_;intro v24 hv24;refine Wd (Qt ?_);refine Tk 9 21 [] rfl (Db Ew zv95) ?_;refine To 23 rfl ?_;refine Wv 0 3 ?_;refine Wd (Qt ?_);refine Te ?_;refine Qc (Cs ?_);refine CS.drawnTill 8 (k:=9) mixed rfl rfl ?_;refine Tk 9 0 [1,2,3,4] rfl (Bb 3) ?_;refine Tk 9 5 [] rfl Ga ?_;refine To 6 rfl ?_;refine Wc rfl rfl F3 (fun u hu=>CY p.rd u (hp.rd.st hu) hm.2) (fun _=>rfl) ?_;intro v32 hv32;refine Wd (Qt ?_);refine Tk 9 7 [] rfl (Aw C6 zv98 (pcs:=[(0,[v10,v17,v24]),(1,[v32])]) rfl (CellsOf.agg (CellsOf.one hv32 CellsOf.nil)) rfl) ?_;refine To 8 rfl ?_;refine Wv 0 5 ?_;refine Wd (Qt ?_);refine Te ?_;exact Qc (Cr (outR (resc rfl (Au (j:=5) rfl rfl tk98)) (fun u hu=>Sm (f:=fun v=>v) (is:=[3,2,1,0]) rfl rfl hu)))
def bptr:Bool→Nat→Value
 |true,b=>.pointer (some ⟨b,0,none⟩)
 |false,_=>.pointer none
theorem KeptO.one {G:GP} {rd:List Bool} {f:Int→Int} (h:KeptO G rd f) (k:Int):KeptO G rd (updI (fun _=>0) k (f k)):=fun j=>by
 unfold updI;split
 ·rename_i e;rw[e];exact h k
 exact .inl rfl
theorem Hm {w u:World} (A B:List SA) (G:Game) (hG:GameOk w G) (hn:NearG G) (g:Sl ByteArray) (hW:GOk w g) (hV:GoodG G) (tb mb:Nat) (z:Stt) (Z:SA) (hZ:HasZ w Z z) (hI:StIn G.rm z.x) (rv:Value) (rd:List Bool) (hl:rd.length=G.nts.l.length) (f:Int→Int) (hf:KeptO G.p rd f) (m:Move) (hu:St w.heap.size w (A++[blk tb [G.rm.pls.v,G.rm.ths.v,G.rm.prs.v,G.rm.wys.v,G.rm.acs.v,G.rm.aus.v,.int .i64 G.rm.ply,G.rm.gl.v,G.lks.v,G.cds.v,G.nts.v,.int .i64 G.tr,z.ths.v,z.prs.v,z.pls.v,rv,.map (some mb)] 190,oT cBool 4 rv rd,mapI mb f,Z]++B) u):
  Calls prog 105 #[.pointer (some ⟨tb,0,none⟩),.agg #[.int .i64 m.p,.int .i64 m.k,.int .i64 m.n]] u (fun e u'=>∃q:Stt×(Int→Int)×SA×SA,(q.1.x=(B4 G.p (z.x,rd) m).1∧HasZ w q.2.2.1 q.1∧KeptO G.p (B4 G.p (z.x,rd) m).2 q.2.1∧((AE G.p (z.x,rd) m=true∧q.2.2.2=Z)∨(AE G.p (z.x,rd) m=false∧q.2.2.1=Z)))∧e = .returned (.bool (AE G.p (z.x,rd) m))∧St w.heap.size w ([blk tb [G.rm.pls.v,G.rm.ths.v,G.rm.prs.v,G.rm.wys.v,G.rm.acs.v,G.rm.aus.v,.int .i64 G.rm.ply,G.rm.gl.v,G.lks.v,G.cds.v,G.nts.v,.int .i64 G.tr,q.1.ths.v,q.1.prs.v,q.1.pls.v,rv,.map (some mb)] 190,oT cBool 4 rv (B4 G.p (z.x,rd) m).2,mapI mb q.2.1,q.2.2.1,q.2.2.2]++(A++B)) u'):=by
 refine Calls.mono (XU (star (A++B)) G hG hn g hW hV tb mb z Z hZ hI rv rd hl f hf m hu.out4) ?_;rintro e u' ⟨o,h1,h2,h3⟩;refine⟨o,h1,h2,?_⟩;have h4:=(h3.perm (List.perm_append_comm (l₁:=[_,_,_,_,_]) (l₂:=[YtmoojmgihdgceaaGreatDoor.star (A++B)]))).unpack;exact h4.perm List.perm_append_comm
theorem Mg {G:Game} {p:Pos} {m:Move} (hP:GoodP G p) (h:AE G.p p.x m=true):StIn G.rm (AM G.p p.x m).1:=by
 rw[Pd h];exact Re hP h
theorem NH {G:Game} (hV:GoodG G) {x:P3} (hI:StIn G.rm x) {rd:List Bool} (hl:rd.length=G.nts.l.length) {y:Stt} {m:Move} (hy:y.x=(B4 G.p (x,rd) m).1) (hin:StIn G.rm (B4 G.p (x,rd) m).1):(y.ths.l.length≤1000000∧y.prs.l.length≤1000000∧y.pls.l.length≤1000000)∧(B4 G.p (x,rd) m).2.length≤1000000:=by
 rw[←hy]at hin;refine⟨hin.small hV.ready,?_⟩;have hnn:=hV.nn;unfold B4;split
 ·unfold AM;rw[Do];show rd.length≤_;omega
 show rd.length≤_;omega
theorem HU (G:Game) (w:World) (hG:GameOk w G) (g:Sl ByteArray) (hW:GOk w g) (hn:NearG G) (p:Pos) (hp:PosOk w p) (hq:¬posG G.p p.x=0):
  Calls prog 104 #[.agg (gcl G).toArray,.agg #[p.st.ths.v,p.st.prs.v,p.st.pls.v,p.rd.v]] w (RetB w (.tuple #[.pointer none,.int .i64 (posG G.p p.x)])):=by
 refine En func104 ?_;refine Nz 0 ?_;refine Wr 0 fun b2 hb2=>?_;refine Wr 2 fun b3 hb3=>?_;refine Nv 0 ?_;refine Wk 0 (Bb 1) ?_;refine Wk 0 (Bb 0) ?_;refine Wk 1 (Cb rfl rfl Un (fun u hu=>Mc G u (hG.st hu) g (hW.st hu) hn p (hp.toSt hu))) ?_;refine Nx 2 ?_;refine Wp ?_ ?_<;>intro hc1
 ·refine Nz 3 ?_;exact Wd (Qc (Cr (Qr (out2 rfl rfl rfl retB))))
 exact absurd hc1 hq
theorem SF (G:Game) (w:World) (hG:GameOk w G) (g:Sl ByteArray) (hW:GOk w g) (hn:NearG G) (p:Pos) (hp:PosOk w p) (m:Move) (hq:posG G.p p.x=0):
  Calls prog 66 #[.agg (gcl G).toArray,.agg #[p.st.ths.v,p.st.prs.v,p.st.pls.v,p.rd.v],.agg #[.int .i64 m.p,.int .i64 m.k,.int .i64 m.n]] w (RetP w (Ap G.p p.x m).2 fun v=>.tuple #[v,.int .i64 (Ap G.p p.x m).1]):=by
 have hP:=BJ hq;have hV:=hP.toGoodG;have hI:=hP.inn;have hpl:=hP.ln;refine En func66 ?_;refine Nz 0 ?_;refine Wr 0 fun b3 hb3=>?_;refine Wr 0 fun b4 hb4=>?_;refine Wr 0 fun b5 hb5=>?_;refine Wq 1 zv98 fun b6 hb6=>?_;refine Nx 0 ?_;refine Wk 0 (Bb 3) ?_;refine Wk 0 (Bb 2) ?_;refine Wc rfl rfl M1 (fun u hu=>JZ G u (hG.st hu) g (hW.st hu) hn p (hp.toSt hu) hq) (fun _=>rfl) ?_;rintro⟨bt,mb,rv⟩ hrv;refine WS.unpack ?_;refine WS.weak (fun u hu=>hu.osl0 (e:=0) (size:=1)) ?_;refine WS.sel [1,1,1,0,0,0,0,0] rfl ?_;refine Wz 5 ?_;refine Nv 2 ?_;refine Wp ?_ ?_<;>intro hc1
 ·exact absurd hc1 (by simp)
 refine Ck (Qc (Cs (Nz 1 ?_)));refine Wk 0 (Bb 5) ?_;refine WS.callS rfl rfl JD (fun u hu=>Hm [] _ G hG hn g hW hV bt mb p.st _ (HasZ.old hp.st _) hI rv p.rd.l hpl (fun _=>0) KeptO.zero m hu) (fun _=>rfl) ?_;rintro⟨y,f2,Z2,Z3⟩ ⟨hyx,hZ2,hf2,-⟩;refine Wz 1 ?_;refine Wp ?_ ?_<;>intro hc2
 ·have hpn:¬AE G.p p.x m=true:=by rw[show AE G.p p.x m=false from hc2];decide
  refine Nz 0 ?_;refine Wk 0 (Db C6 zv98) ?_;refine Wv 1 5 ?_;refine Wd (Qc (Cr (Qr ?_)))
  exact outR (Bx rfl (Au (j:=5) rfl rfl tk98) rfl) (by
    have hv:Ap G.p p.x m=(29,noP):=(if_pos hq).trans (if_neg hpn);rw[hv]
    exact fun u hu=>Oj (f:=fun v=>.tuple #[v,.int .i64 29]) hu)
 have hpy:AE G.p p.x m=true:=by first|exact hc2|simpa using hc2
 have hsm:=NH hV hI hpl hyx (by rw[Bw (x:=(p.st.x,p.rd.l)) hpy];exact Mg hP hpy);refine Ck (Qc (Nz 1 ?_));refine Wc rfl rfl OP (fun u hu=>FZ bt mb G ⟨y,⟨rv,(B4 G.p (p.st.x,p.rd.l) m).2⟩⟩ u ⟨AD hu (j:=0) rfl,hG.st hu,⟨hZ2.get (j:=3) rfl hu,CF hu (j:=1) rfl fun _ _↦trivial⟩⟩ hsm) (fun _=>rfl) ?_;rintro v ⟨hvx,uv,hvok⟩;obtain⟨hva,hvb,hvc⟩:=hvok.st.ones;have hvd:=Sl.one hvok.rd;refine Wv 1 6 ?_;refine Wd (Qc (Cr ?_))
 exact outR (Bx rfl (Au (j:=6) rfl rfl tk98) rfl) (by
   have hv:Ap G.p p.x m=(0,AM G.p p.x m):=(if_pos hq).trans (if_pos hpy);rw[hv]
   exact fun u hu=>RI (f:=fun v=>.tuple #[v,.int .i64 0]) (j:=0) rfl (by rw[hvx,show((⟨y,⟨rv,(B4 G.p (p.st.x,p.rd.l) m).2⟩⟩:Pos).x)=(y.x,(B4 G.p (p.st.x,p.rd.l) m).2)from rfl,hyx,Bw (x:=(p.st.x,p.rd.l)) hpy];rfl) hu)
theorem Sh (G:Game) (w:World) (hG:GameOk w G) (g:Sl ByteArray) (hW:GOk w g) (hn:NearG G) (p:Pos) (hp:PosOk w p) (m:Move) (hq:¬posG G.p p.x=0):
  Calls prog 66 #[.agg (gcl G).toArray,.agg #[p.st.ths.v,p.st.prs.v,p.st.pls.v,p.rd.v],.agg #[.int .i64 m.p,.int .i64 m.k,.int .i64 m.n]] w (RetP w (Ap G.p p.x m).2 fun v=>.tuple #[v,.int .i64 (Ap G.p p.x m).1]):=by
 refine En func66 ?_;refine Nz 0 ?_;refine Wr 0 fun b3 hb3=>?_;refine Wr 0 fun b4 hb4=>?_;refine Wr 0 fun b5 hb5=>?_;refine Wq 1 zv98 fun b6 hb6=>?_;refine Nx 0 ?_;refine Wk 0 (Bb 3) ?_;refine Wk 0 (Bb 2) ?_;refine Wk 5 (Cb rfl rfl M1 (fun u hu=>HU G u (hG.st hu) g (hW.st hu) hn p (hp.toSt hu) hq)) ?_;refine Nv 2 ?_;refine Wp ?_ ?_<;>intro hc1
 ·refine Nz 0 ?_;refine Wk 1 (Db C6 zv98) ?_;refine Wv 1 0 ?_;refine Wd (Qc (Cr (Qr ?_)))
  exact outR (Bx rfl (Au (j:=0) rfl rfl tk98) rfl) (by
    have hv:Ap G.p p.x m=(posG G.p p.x,noP):=if_neg hq;rw[hv]
    exact fun u hu=>Oj (f:=fun v=>.tuple #[v,.int .i64 (posG G.p p.x)]) hu)
 exact absurd hc1 hq
theorem Iv (G:Game) (w:World) (hG:GameOk w G) (g:Sl ByteArray) (hW:GOk w g) (hn:NearG G) (p:Pos) (hp:PosOk w p) (m:Move):
  Calls prog 66 #[.agg (gcl G).toArray,.agg #[p.st.ths.v,p.st.prs.v,p.st.pls.v,p.rd.v],.agg #[.int .i64 m.p,.int .i64 m.k,.int .i64 m.n]] w (RetP w (Ap G.p p.x m).2 fun v=>.tuple #[v,.int .i64 (Ap G.p p.x m).1]):=by
 by_cases hq:posG G.p p.x=0
 ·exact SF G w hG g hW hn p hp m hq
 exact Sh G w hG g hW hn p hp m hq
theorem Jj (G:Game) (w:World) (hG:GameOk w G) (g:Sl ByteArray) (hW:GOk w g) (hn:NearG G):
  Calls prog 64 #[.agg (gcl G).toArray] w (RetP w (Ac G.p).2 fun v=>.tuple #[v,.int .i64 (Ac G.p).1]):=by
 have knt:=hG.nts;have lnt:=hG.nts.le;have hp0:=True.intro;have hbv:BeginV G.p.rm=BeginV G.rm:=(G.p_alike.BeginV).symm;have o1:=Sl.one hG.rm.pls;have o2:=Sl.one hG.rm.ths;have o3:=Sl.one hG.rm.prs;have o4:=Sl.one hG.rm.wys;have o5:=Sl.one hG.rm.acs;have o6:=Sl.one hG.rm.aus;have o7:=Sl.one hG.rm.gl;have o8:=Sl.one hG.lks;have o9:=Sl.one hG.cds;have o10:=Sl.one hG.nts;refine En func64 ?_;refine Nz 0 ?_;refine Wr 0 fun b1 hb1=>?_;refine Wq 1 zv98 fun b2 hb2=>?_;refine Nv 0 ?_;refine Wk 0 (Bb 1) ?_;refine Wk 1 (Cb rfl rfl Uv (fun u hu=>Kn G u (hG.st hu) g (hW.st hu) hn)) ?_;refine Nx 2 ?_;refine Wp ?_ ?_<;>intro hc1
 ·refine Nz 0 ?_;refine Wk 1 (Db C6 zv98) ?_;refine Wv 1 0 ?_;refine Wd (Qc (Cr (Qr ?_)))
  exact outR (Bx rfl (Au (j:=0) rfl rfl tk98) rfl) (by
    have hv:Ac G.p=(Bj G.p,noP):=if_neg hc1;rw[hv]
    exact fun u hu=>Oj (f:=fun v=>.tuple #[v,.int .i64 (Bj G.p)]) hu)
 have hV:=GE hc1;have hnn:=hV.nn;refine Ck (Qc (Nz 1 ?_));refine Wk 0 (Bc 1) ?_;refine Wc rfl rfl Xq (fun u hu=>RM G.rm u (hG.rm.st hu) g (hW.st hu) hn.rm) (fun _=>rfl) ?_;rintro y ⟨hyx,uy,hyok⟩;obtain⟨hya,hyb,hyc⟩:=hyok.ones;refine Wz 3 ?_;refine Wq 0 zv95 fun b5 hb5=>?_;refine Wv 1 0 ?_;refine Nv 2 ?_;refine Wp ?_ ?_<;>intro hc2
 ·refine Nz 0 ?_;refine Wk 1 (Db C6 zv98) ?_;refine Wv 1 2 ?_;refine Wd (Qc (Cr (Qr ?_)))
  exact outR (Bx rfl (Au (j:=2) rfl rfl tk98) rfl) (by
    have hv:Ac G.p=((BeginV G.rm).1,noP):=(if_pos hc1).trans (by rw[hbv];exact if_neg hc2);rw[hv]
    exact fun u hu=>Oj (f:=fun v=>.tuple #[v,.int .i64 (BeginV G.rm).1]) hu)
 have hb0:(BeginV G.rm).1=0:=hc2;have hIy:=GO hV.ck hb0;have hIz:StIn G.rm y.x:=by rw[hyx];exact hIy
 have hsm:=hIz.small hV.ready;refine Ck (Qc (Cs ?_));refine CS.drawnAll (k:=11) mixed rfl rfl ?_;refine Ak 0 [] rfl (Bb 3) ?_;refine Ak 1 [2] rfl (Bb 0) ?_;refine Ak 3 [] rfl (Ba 3) ?_;refine Ak 4 [] rfl Nc ?_;refine AS.two (i:=5) (j:=7) (by kernel_rfl) rfl rfl (by exact fun _ h=>h) rfl rfl ?_ ?_
 ·refine WS.makeB sl96 rfl rfl zv4 (by omega) (by omega) (by omega) (fun _=>rfl) ?_;intro v29;refine WS.oc (j:=0) rfl (fun hv29=>?_);refine Wd (Qa ?_);refine Ak 6 [] rfl (Aw C6 zv98 (pcs:=[(0,[y.ths.v,y.prs.v,y.pls.v]),(1,[v29])]) rfl (CellsOf.agg (CellsOf.one hv29 CellsOf.nil)) rfl) ?_;refine Ao 7 rfl ?_;refine WS.makeMap (fun _=>rfl) fun b31 hb31=>?_;refine Wd (Qa ?_);refine Ak 8 [] rfl (Aw H7 NB (pcs:=[(0,(gcl G)),(1,[y.ths.v,y.prs.v,y.pls.v,v29]),(2,[.map (some b31)])]) rfl (CellsOf.agg (CellsOf.agg (CellsOf.one rfl CellsOf.nil))) rfl) ?_;refine Ao 9 rfl ?_;refine Wr 0 fun b33 hb33=>?_;refine Wd (Qa ?_);refine Ar [10] ?_;refine Ae ?_;refine Qc (Nz 1 ?_);refine WS.sel [0,1,0,1,1] rfl ?_;refine WS.callS rfl rfl DN (fun u hu=>QL _ G hG hn g hW hV b33 b31 y _ HasZ.ro hIz v29 (List.replicate (G.nts.l.length:Int).toNat false) (by simp) (fun _=>0) KeptO.zero hu) (fun _=>rfl) ?_;rintro f2 hf2;refine Nx 1 ?_;refine Wc rfl rfl OP (fun u hu=>FZ b33 b31 G ⟨y,⟨v29,BT G.p y.x (List.replicate (G.nts.l.length:Int).toNat false)⟩⟩ u ⟨AD hu (j:=0) rfl,hG.st hu,⟨hu.ro (j:=3) rfl,CF hu (j:=1) rfl fun _ _↦trivial⟩⟩ ⟨hsm,by rw[Do];simp;omega⟩) (fun _=>rfl) ?_;rintro v ⟨hvx,uv,hvok⟩;obtain⟨hva,hvb,hvc⟩:=hvok.st.ones;have hvd:=Sl.one hvok.rd;refine Wv 1 5 ?_;refine Wd (Qc (Cr ?_))
  exact outR (Bx rfl (Au (j:=5) rfl rfl tk98) rfl) (by
    have hv:Ac G.p=(0,(BeginV G.rm).2,BT G.p (BeginV G.rm).2 (List.replicate G.nts.l.length false)):=(if_pos hc1).trans (by rw[hbv,Game.p_nlen];exact if_pos hb0);rw[hv]
    exact fun u hu=>RI (f:=fun v=>.tuple #[v,.int .i64 0]) (j:=0) rfl (by rw[hvx,←hyx];simp[Pos.x]) hu)
 refine WS.makeMap (fun _=>rfl) fun b31 hb31=>?_;refine Wd (Qa ?_);refine Ao 5 rfl ?_;refine WS.makeB sl96 rfl rfl zv4 (by omega) (by omega) (by omega) (fun _=>rfl) ?_;intro v29;refine WS.oc (j:=0) rfl (fun hv29=>?_);refine Wd (Qa ?_);refine Ak 6 [] rfl (Aw C6 zv98 (pcs:=[(0,[y.ths.v,y.prs.v,y.pls.v]),(1,[v29])]) rfl (CellsOf.agg (CellsOf.one hv29 CellsOf.nil)) rfl) ?_;refine Ak 8 [] rfl (Aw H7 NB (pcs:=[(0,(gcl G)),(1,[y.ths.v,y.prs.v,y.pls.v,v29]),(2,[.map (some b31)])]) rfl (CellsOf.agg (CellsOf.agg (CellsOf.one rfl CellsOf.nil))) rfl) ?_;refine Ao 9 rfl ?_;refine Wr 0 fun b33 hb33=>?_;refine Wd (Qa ?_);refine Ar [10] ?_;refine Ae ?_;refine Qc (Nz 1 ?_);refine WS.sel [0,0,0,1,1] rfl ?_;refine WS.callS rfl rfl DN (fun u hu=>QL _ G hG hn g hW hV b33 b31 y _ HasZ.ro hIz v29 (List.replicate (G.nts.l.length:Int).toNat false) (by simp) (fun _=>0) KeptO.zero hu) (fun _=>rfl) ?_;rintro f2 hf2;refine Nx 1 ?_;refine Wc rfl rfl OP (fun u hu=>FZ b33 b31 G ⟨y,⟨v29,BT G.p y.x (List.replicate (G.nts.l.length:Int).toNat false)⟩⟩ u ⟨AD hu (j:=0) rfl,hG.st hu,⟨hu.ro (j:=3) rfl,CF hu (j:=1) rfl fun _ _↦trivial⟩⟩ ⟨hsm,by rw[Do];simp;omega⟩) (fun _=>rfl) ?_;rintro v ⟨hvx,uv,hvok⟩;obtain⟨hva,hvb,hvc⟩:=hvok.st.ones;have hvd:=Sl.one hvok.rd;refine Wv 1 5 ?_;refine Wd (Qc (Cr ?_))
 exact outR (Bx rfl (Au (j:=5) rfl rfl tk98) rfl) (by
   have hv:Ac G.p=(0,(BeginV G.rm).2,BT G.p (BeginV G.rm).2 (List.replicate G.nts.l.length false)):=(if_pos hc1).trans (by rw[hbv,Game.p_nlen];exact if_pos hb0);rw[hv]
   exact fun u hu=>RI (f:=fun v=>.tuple #[v,.int .i64 0]) (j:=0) rfl (by rw[hvx,←hyx];simp[Pos.x]) hu)
theorem HasZ.pack {w:World} {z:Stt} {Z:SA} {B:List SA} {j:Nat} (hZ:HasZ w Z z) (hj:B[j]? = some Z):HasZ w (YtmoojmgihdgceaaGreatDoor.star B) z:=⟨fun{L} {u} {i} hi hu=>by
 have h1:St w.heap.size w (YtmoojmgihdgceaaGreatDoor.star B::L.eraseIdx i) u:=hu.perm (CL hi);have hjl:=(List.getElem?_eq_some_iff.1 hj).1
 exact hZ.get (L:=B++L.eraseIdx i) (j:=j) (by rw[List.getElem?_append_left hjl];exact hj) h1.unpack⟩
theorem St.tail3 {n0:Nat} {w0 u:World} {a b c:SA} {B:List SA} (h:St n0 w0 (a::b::c::B) u):St n0 w0 [a,b,c,YtmoojmgihdgceaaGreatDoor.star B] u:=by
 have h1:St n0 w0 (B++[a,b,c]) u:=h.perm (List.perm_append_comm (l₁:=[a,b,c]) (l₂:=B));exact h1.pack.perm (List.perm_append_comm (l₁:=[YtmoojmgihdgceaaGreatDoor.star B]) (l₂:=[a,b,c]))
theorem SQ {w u:World} (R:SA) (G:Game) (hG:GameOk w G) (hn:NearG G) (g:Sl ByteArray) (hW:GOk w g) (hV:GoodG G) (tb mb:Nat) (z:Stt) (Z:SA) (hZ:HasZ w Z z) (hI:StIn G.rm z.x) (rv:Value) (rd:List Bool) (hl:rd.length=G.nts.l.length) (f:Int→Int) (hf:KeptO G.p rd f) (m:Move) (hu:St w.heap.size w [blk tb [G.rm.pls.v,G.rm.ths.v,G.rm.prs.v,G.rm.wys.v,G.rm.acs.v,G.rm.aus.v,.int .i64 G.rm.ply,G.rm.gl.v,G.lks.v,G.cds.v,G.nts.v,.int .i64 G.tr,z.ths.v,z.prs.v,z.pls.v,rv,.map (some mb)] 190,oT cBool 4 rv rd,mapI mb f,Z,R] u):
  Calls prog 133 #[.pointer (some ⟨tb,0,none⟩),.agg #[.int .i64 m.p,.int .i64 m.k,.int .i64 m.n]] u (fun e u'=>∃q:(Int→Int)×Nat,KeptO G.p rd q.1∧e = .returned (bptr (AE G.p (z.x,rd) m) q.2)∧St w.heap.size w [blk tb [G.rm.pls.v,G.rm.ths.v,G.rm.prs.v,G.rm.wys.v,G.rm.acs.v,G.rm.aus.v,.int .i64 G.rm.ply,G.rm.gl.v,G.lks.v,G.cds.v,G.nts.v,.int .i64 G.tr,z.ths.v,z.prs.v,z.pls.v,rv,.map (some mb)] 190,oT cBool 4 rv rd,mapI mb q.1,Z,R] u'):=by
 have o1:=Sl.one hG.rm.pls;have o2:=Sl.one hG.rm.ths;have o3:=Sl.one hG.rm.prs;have o4:=Sl.one hG.rm.wys;have o5:=Sl.one hG.rm.acs;have o6:=Sl.one hG.rm.aus;have o7:=Sl.one hG.rm.gl;have o8:=Sl.one hG.lks;have o9:=Sl.one hG.cds;have o10:=Sl.one hG.nts;have kac:=hG.rm.acs;have lac:=hG.rm.acs.le;have hnn:=hV.nn;obtain⟨o11,o12,o13⟩:=(hZ.get (j:=3) rfl hu).ones;refine Ei hu func133 ?_;refine Nz 0 ?_;refine Wr 1 fun b3 hb3=>?_;refine Wd (Qc (Cs ?_));refine CS.drawnAll (k:=20) mixed rfl rfl ?_;refine Ar [0,1,2] ?_;refine Ak 3 [4,5,6,7] rfl (Bc 1) ?_;refine Ak 8 [9,10,11,12] rfl (Bc 1) ?_;refine Ak 13 [] rfl (Ba 1) ?_;refine AS.two (i:=14) (j:=16) (by kernel_rfl) rfl rfl (by exact fun _ h=>h) rfl rfl ?_ ?_
 ·refine Wc rfl rfl F3 (fun u hu=>CY ⟨rv,rd⟩ u (CF hu (j:=2) rfl fun _ _↦trivial) (by show rd.length≤1000000;omega)) (fun _=>rfl) ?_;intro v21 hv21;refine Wd (Qa ?_);refine Ak 15 [] rfl (Aw C6 zv98 (pcs:=[(0,[z.ths.v,z.prs.v,z.pls.v]),(1,[v21])]) rfl (CellsOf.agg (CellsOf.one hv21 CellsOf.nil)) rfl) ?_;refine Ao 16 rfl ?_;refine WS.makeMap (fun _=>rfl) fun b23 hb23=>?_;refine Wd (Qa ?_);refine Ak 17 [] rfl (Aw H7 NB (pcs:=[(0,(gcl G)),(1,[z.ths.v,z.prs.v,z.pls.v,v21]),(2,[.map (some b23)])]) rfl (CellsOf.agg (CellsOf.agg (CellsOf.one rfl CellsOf.nil))) rfl) ?_;refine Ao 18 rfl ?_;refine Wr 0 fun b25 hb25=>?_;refine Wd (Qa ?_);refine Ar [19] ?_;refine Ae ?_;refine Qc (Cs (Cs (Dr mixed 1 ?_)));refine Dk 2 (Ba 3) ?_;refine Dj 0 ?_;refine Dj 0 ?_;refine Dj 0 ?_;refine Dj 0 ?_;refine Dj 0 ?_;refine Dj 0 ?_;refine Dj 0 ?_;refine Dj 0 ?_;refine Dj 0 ?_;refine Dj 0 ?_;refine Dt 0 rfl rfl (fun hg=>Cb rfl (ec_ (eg_ hg rfl) (ec_ rfl (ec_ (eg_ hg rfl) en_))) Fo (fun u hu=>B8 _ _ _ u)) ?_;refine Dk 0 Pa ?_;refine Dd (Qc (Cn ?_ ?_))<;>intro hc1
  ·have hac2:m.k=4∧0≤m.n∧m.n<G.rm.acs.l.length:=by omega
   refine Cs (Dr mixed 5 ?_);refine Dk 1 (Ba 4) ?_;refine Dk 0 (Ba 3) ?_;refine Dk 1 Xc ?_;refine Dk 1 (Uc 8 2) ?_;refine Dd (Qc (Nz 2 ?_));refine WS.callS rfl rfl Rb (fun u hu=>I8 [_,_,_,_] [R] G hG hV tb mb z Z hZ rv rd hl f hf (nth G.rm.acs.l m.n).lk (hV.alk hac2.2.1 hac2.2.2) hu) (fun _=>rfl) ?_;rintro f1 hf1;refine Wd (Qc ?_);refine CS.drawnTill 11 (k:=12) mixed rfl rfl ?_;refine Tr 12 [0,1,2] ?_;refine Tk 12 3 [4,5,6,7] rfl (Ba 0) ?_;refine Tk 12 8 [9] rfl (Ba 4) ?_;refine Tk 12 10 [] rfl (CM mapT mapK mapZ rfl (j:=6) rfl rfl) ?_;refine To 11 rfl ?_;refine WS.mapUpdate mapT mapK rfl (j:=1) rfl rfl rfl rfl ?_;refine Wd (Qt ?_);refine Te ?_;refine Qc (Cs (Nz 1 ?_));refine Wk 0 (Bb 3) ?_;refine WS.sel [0,1,0,4,1,1,1,1] rfl ?_;refine WS.weak (fun u hu=>St.tail3 hu) ?_;refine WS.callS rfl rfl JD (fun u hu=>Hm [] [] G hG hn g hW hV b25 b23 z _ (hZ.pack (j:=0) rfl) hI v21 rd hl _ (by exact hf1.one _) m hu) (fun _=>rfl) ?_;rintro⟨y,f2,Z2,Z3⟩ ⟨-,-,-,hcase⟩;refine Wz 1 ?_;refine Wp ?_ ?_<;>intro hc2
   ·have hpn:AE G.p (z.x,rd) m=false:=hc2;have hZ3:=(hcase.resolve_left fun h=>absurd (hpn.symm.trans h.1) (by decide)).2;subst hZ3;refine Nz 1 ?_;refine Wd (Qc (Cr (Qr ?_)))
    exact out1 rfl rfl (by exact fun u hu=>⟨(f1,b25),hf1,by rw[hpn];rfl,by
       have h9:=(hu.sel [3] rfl).unpack
       exact h9.sel [1,1,1,0,0] rfl⟩)
   have hpy:AE G.p (z.x,rd) m=true:=by first|exact hc2|simpa using hc2
   have hZ3:=(hcase.resolve_right fun h=>absurd (hpy.symm.trans h.1) (by decide)).2;subst hZ3;refine Ck (Qc (Nz 2 ?_));refine Wd (Qc (Cr ?_))
   exact out1 rfl rfl (by exact fun u hu=>⟨(f1,b25),hf1,by rw[hpy];rfl,by
      have h9:=(hu.sel [4] rfl).unpack
      exact h9.sel [1,1,1,0,0] rfl⟩)
  refine Ck (Qc (Cs (Nz 1 ?_)));refine Wk 0 (Bb 3) ?_;refine WS.sel [0,1,0,4,1,1,1,1] rfl ?_;refine WS.weak (fun u hu=>St.tail3 hu) ?_;refine WS.callS rfl rfl JD (fun u hu=>Hm [] [] G hG hn g hW hV b25 b23 z _ (hZ.pack (j:=0) rfl) hI v21 rd hl _ (by exact KeptO.zero) m hu) (fun _=>rfl) ?_;rintro⟨y,f2,Z2,Z3⟩ ⟨-,-,-,hcase⟩;refine Wz 1 ?_;refine Wp ?_ ?_<;>intro hc2
  ·have hpn:AE G.p (z.x,rd) m=false:=hc2;have hZ3:=(hcase.resolve_left fun h=>absurd (hpn.symm.trans h.1) (by decide)).2;subst hZ3;refine Nz 1 ?_;refine Wd (Qc (Cr (Qr ?_)))
   exact out1 rfl rfl (by exact fun u hu=>⟨(f,b25),hf,by rw[hpn];rfl,by
      have h9:=(hu.sel [3] rfl).unpack
      exact h9.sel [1,1,1,0,0] rfl⟩)
  have hpy:AE G.p (z.x,rd) m=true:=by first|exact hc2|simpa using hc2
  have hZ3:=(hcase.resolve_right fun h=>absurd (hpy.symm.trans h.1) (by decide)).2;subst hZ3;refine Ck (Qc (Nz 2 ?_));refine Wd (Qc (Cr ?_))
  exact out1 rfl rfl (by exact fun u hu=>⟨(f,b25),hf,by rw[hpy];rfl,by
     have h9:=(hu.sel [4] rfl).unpack
     exact h9.sel [1,1,1,0,0] rfl⟩)
 refine WS.makeMap (fun _=>rfl) fun b23 hb23=>?_;refine Wd (Qa ?_);refine Ao 14 rfl ?_;refine Wc rfl rfl F3 (fun u hu=>CY ⟨rv,rd⟩ u (CF hu (j:=3) rfl fun _ _↦trivial) (by show rd.length≤1000000;omega)) (fun _=>rfl) ?_;intro v21 hv21;refine Wd (Qa ?_);refine Ak 15 [] rfl (Aw C6 zv98 (pcs:=[(0,[z.ths.v,z.prs.v,z.pls.v]),(1,[v21])]) rfl (CellsOf.agg (CellsOf.one hv21 CellsOf.nil)) rfl) ?_;refine Ak 17 [] rfl (Aw H7 NB (pcs:=[(0,(gcl G)),(1,[z.ths.v,z.prs.v,z.pls.v,v21]),(2,[.map (some b23)])]) rfl (CellsOf.agg (CellsOf.agg (CellsOf.one rfl CellsOf.nil))) rfl) ?_;refine Ao 18 rfl ?_;refine Wr 0 fun b25 hb25=>?_;refine Wd (Qa ?_);refine Ar [19] ?_;refine Ae ?_;refine Qc (Cs (Cs (Dr mixed 1 ?_)));refine Dk 2 (by exact Aj (j:=3) rfl rfl rfl tk3) ?_;refine Dj 0 ?_;refine Dt 0 rfl rfl (fun hg=>by exact Aj (j:=3) (eg_ hg rfl) rfl rfl tk3) ?_;refine Dj 0 ?_;refine Dj 0 ?_;refine Dj 0 ?_;refine Dj 0 ?_;refine Dj 0 ?_;refine Dt 0 rfl rfl (fun hg=>by exact Aj (j:=4) (eg_ hg rfl) rfl rfl tk26) ?_;refine Dj 0 ?_;refine Dj 0 ?_;refine Dt 0 rfl rfl (fun hg=>Cb rfl (ec_ (eg_ hg rfl) (ec_ rfl (ec_ (eg_ hg rfl) en_))) Fo (fun u hu=>B8 _ _ _ u)) ?_;refine Dk 0 Pa ?_;refine Dd (Qc (Cn ?_ ?_))<;>intro hc1
 ·have hac2:m.k=4∧0≤m.n∧m.n<G.rm.acs.l.length:=by omega
  refine Cs (Dr mixed 5 ?_);refine Dk 1 (by exact Aj (j:=4) rfl rfl rfl tk26) ?_;refine Dk 0 (by exact Aj (j:=3) rfl rfl rfl tk3) ?_;refine Dk 1 Xc ?_;refine Dk 1 (Uc 8 2) ?_;refine Dd (Qc (Nz 2 ?_));refine WS.callS rfl rfl Rb (fun u hu=>I8 [_,_,_,_] [R] G hG hV tb mb z Z hZ rv rd hl f hf (nth G.rm.acs.l m.n).lk (hV.alk hac2.2.1 hac2.2.2) hu) (fun _=>rfl) ?_;rintro f1 hf1;refine Wd (Qc ?_);refine CS.drawnTill 11 (k:=12) mixed rfl rfl ?_;refine Tr 12 [0,1,2] ?_;refine Tk 12 3 [4,5,6,7] rfl (by exact Aj (j:=0) rfl rfl rfl Zl) ?_;refine Tk 12 8 [9] rfl (by exact Aj (j:=4) rfl rfl rfl Zl) ?_;refine Tk 12 10 [] rfl (CM mapT mapK mapZ rfl (j:=6) rfl rfl) ?_;refine To 11 rfl ?_;refine WS.mapUpdate mapT mapK rfl (j:=2) rfl rfl rfl rfl ?_;refine Wd (Qt ?_);refine Te ?_;refine Qc (Cs (Nz 1 ?_));refine Wk 0 (by exact AK (j:=3) rfl rfl tk49) ?_;refine WS.sel [0,0,0,4,1,1,1,1] rfl ?_;refine WS.weak (fun u hu=>St.tail3 hu) ?_;refine WS.callS rfl rfl JD (fun u hu=>Hm [] [] G hG hn g hW hV b25 b23 z _ (hZ.pack (j:=0) rfl) hI v21 rd hl _ (by exact hf1.one _) m hu) (fun _=>rfl) ?_;rintro⟨y,f2,Z2,Z3⟩ ⟨-,-,-,hcase⟩;refine Wz 1 ?_;refine Wp ?_ ?_<;>intro hc2
  ·have hpn:AE G.p (z.x,rd) m=false:=hc2;have hZ3:=(hcase.resolve_left fun h=>absurd (hpn.symm.trans h.1) (by decide)).2;subst hZ3;refine Nz 1 ?_;refine Wd (Qc (Cr (Qr ?_)))
   exact out1 rfl rfl (by exact fun u hu=>⟨(f1,b25),hf1,by rw[hpn];rfl,by
      have h9:=(hu.sel [3] rfl).unpack
      exact h9.sel [1,1,1,0,0] rfl⟩)
  have hpy:AE G.p (z.x,rd) m=true:=by first|exact hc2|simpa using hc2
  have hZ3:=(hcase.resolve_right fun h=>absurd (hpy.symm.trans h.1) (by decide)).2;subst hZ3;refine Ck (Qc (Nz 2 ?_));refine Wd (Qc (Cr ?_))
  exact out1 rfl rfl (by exact fun u hu=>⟨(f1,b25),hf1,by rw[hpy];rfl,by
     have h9:=(hu.sel [4] rfl).unpack
     exact h9.sel [1,1,1,0,0] rfl⟩)
 refine Ck (Qc (Cs (Nz 1 ?_)));refine Wk 0 (by exact AK (j:=3) rfl rfl tk49) ?_;refine WS.sel [0,0,0,4,1,1,1,1] rfl ?_;refine WS.weak (fun u hu=>St.tail3 hu) ?_;refine WS.callS rfl rfl JD (fun u hu=>Hm [] [] G hG hn g hW hV b25 b23 z _ (hZ.pack (j:=0) rfl) hI v21 rd hl _ (by exact KeptO.zero) m hu) (fun _=>rfl) ?_;rintro⟨y,f2,Z2,Z3⟩ ⟨-,-,-,hcase⟩;refine Wz 1 ?_;refine Wp ?_ ?_<;>intro hc2
 ·have hpn:AE G.p (z.x,rd) m=false:=hc2;have hZ3:=(hcase.resolve_left fun h=>absurd (hpn.symm.trans h.1) (by decide)).2;subst hZ3;refine Nz 1 ?_;refine Wd (Qc (Cr (Qr ?_)))
  exact out1 rfl rfl (by exact fun u hu=>⟨(f,b25),hf,by rw[hpn];rfl,by
     have h9:=(hu.sel [3] rfl).unpack
     exact h9.sel [1,1,1,0,0] rfl⟩)
 have hpy:AE G.p (z.x,rd) m=true:=by first|exact hc2|simpa using hc2
 have hZ3:=(hcase.resolve_right fun h=>absurd (hpy.symm.trans h.1) (by decide)).2;subst hZ3;refine Ck (Qc (Nz 2 ?_));refine Wd (Qc (Cr ?_))
 exact out1 rfl rfl (by exact fun u hu=>⟨(f,b25),hf,by rw[hpy];rfl,by
    have h9:=(hu.sel [4] rfl).unpack
    exact h9.sel [1,1,1,0,0] rfl⟩)
theorem SM {P:Program} {C:World→Prop} {l:List Value} {d:Option Tmp} {ty:TypeId} {ps:String} {af:Array Edge} {g:Option (Nat×Bool)} {T T':TypeId} {x y:Operand} {b:Bool} {n:Nat} (hx:evo l x=some (bptr b n)) (hy:evo l y=some (.pointer none)) (hT:P.underlying T=some (.pointer (P.pointee T))):
  Det P C ⟨d,.binOp .neq T x y T',ty,ps,af,g⟩ l (.bool b):=fun u _=>by
 (replace hx:=Am hx;replace hy:=Am hy)
 cases b<;>simp[bptr]at hx<;>simp[execOp,Av,hx,hy,eqGuard,run_neq_pointer_nil _ T _ hT]
theorem ZI:prog.underlying 188=some (.pointer (prog.pointee 188)):=by kernel_rfl
theorem OH {w u:World} (A B:List SA) (G:Game) (hG:GameOk w G) (hn:NearG G) (g:Sl ByteArray) (hW:GOk w g) (hV:GoodG G) (tb mb:Nat) (z:Stt) (Z:SA) (hZ:HasZ w Z z) (hI:StIn G.rm z.x) (rv:Value) (rd:List Bool) (hl:rd.length=G.nts.l.length) (f:Int→Int) (hf:KeptO G.p rd f) (m:Move) (hu:St w.heap.size w (A++[blk tb [G.rm.pls.v,G.rm.ths.v,G.rm.prs.v,G.rm.wys.v,G.rm.acs.v,G.rm.aus.v,.int .i64 G.rm.ply,G.rm.gl.v,G.lks.v,G.cds.v,G.nts.v,.int .i64 G.tr,z.ths.v,z.prs.v,z.pls.v,rv,.map (some mb)] 190,oT cBool 4 rv rd,mapI mb f,Z]++B) u):
  Calls prog 133 #[.pointer (some ⟨tb,0,none⟩),.agg #[.int .i64 m.p,.int .i64 m.k,.int .i64 m.n]] u (fun e u'=>∃q:(Int→Int)×Nat,KeptO G.p rd q.1∧e = .returned (bptr (AE G.p (z.x,rd) m) q.2)∧St w.heap.size w (A++[blk tb [G.rm.pls.v,G.rm.ths.v,G.rm.prs.v,G.rm.wys.v,G.rm.acs.v,G.rm.aus.v,.int .i64 G.rm.ply,G.rm.gl.v,G.lks.v,G.cds.v,G.nts.v,.int .i64 G.tr,z.ths.v,z.prs.v,z.pls.v,rv,.map (some mb)] 190,oT cBool 4 rv rd,mapI mb q.1,Z]++B) u'):=by
 refine Calls.mono (SQ (star (A++B)) G hG hn g hW hV tb mb z Z hZ hI rv rd hl f hf m hu.out4) ?_;rintro e u' ⟨o,h1,h2,h3⟩;exact⟨o,h1,h2,h3.in4⟩
theorem WV (G:Game) (w:World) (hG:GameOk w G) (g:Sl ByteArray) (hW:GOk w g) (hn:NearG G) (p:Pos) (hp:PosOk w p) (hq:posG G.p p.x=0):
  Calls prog 96 #[.agg (gcl G).toArray,.agg #[p.st.ths.v,p.st.prs.v,p.st.pls.v,p.rd.v]] w (RetM w (CanV G.p p.x).2 fun v=>.tuple #[v,.int .i64 (CanV G.p p.x).1]):=by
 have hP:=BJ hq;have hV:=hP.toGoodG;have hI:=hP.inn;have hpl:=hP.ln;have hll:=GQ hV.ready p.st.x;have hS:stL G.rm p.st.x=0:=CR.2 ⟨hV.ck,hI⟩;have hl2:(LegalV G.rm p.st.x).2=AF G.rm p.st.x:=by unfold LegalV;rw[if_pos hS]
 have hl1:(LegalV G.rm p.st.x).1=0:=by unfold LegalV;rw[if_pos hS]
 refine En func96 ?_;refine Nz 0 ?_;refine Wr 0 fun b2 hb2=>?_;refine Wr 2 fun b3 hb3=>?_;refine Nx 0 ?_;refine Wk 0 (by exact AK (j:=1) rfl rfl tk36) ?_;refine Wk 0 (by exact AK (j:=0) rfl rfl tk98) ?_;refine Wc rfl rfl M1 (fun u hu=>JZ G u (hG.st hu) g (hW.st hu) hn p (hp.toSt hu) hq) (fun _=>rfl) ?_;rintro⟨bt,mb,rv⟩ hrv;refine WS.unpack ?_;refine WS.weak (fun u hu=>hu.osl0 (e:=0) (size:=1)) ?_;refine WS.sel [1,1,1,0,0,0] rfl ?_;refine Wz 5 ?_;refine Nv 2 ?_;refine Wp ?_ ?_<;>intro hc1
 ·exact absurd hc1 (by simp)
 refine Ck (Qc (Nz 1 ?_));refine Wk 1 (by exact CK (n:=8) (j:=5) rfl rfl rfl rfl tk31) ?_;refine Wk 0 (by exact CK (n:=3) (j:=4) rfl rfl rfl rfl tk95) ?_;refine Wc rfl rfl XZ (fun u hu=>Sp G.rm u (hG.rm.st hu) g (hW.st hu) hn.rm p.st (hp.st.st hu)) (fun _=>rfl) ?_;rintro ml ⟨uml,hml⟩;rw[hl2]at hml⊢;refine Wz 5 ?_;refine Nv 2 ?_;refine Wp ?_ ?_<;>intro hc2
 ·exact absurd hl1 hc2
 refine Ck (Qc (Cs (Nz 1 ?_)));refine Wk 1 (Nc (s:=⟨ml,AF G.rm p.st.x⟩)) ?_;refine Nu ?_;refine CS.weak (fun _ hu=>hu.osl0 (e:=49) (size:=3)) ?_;refine CS.loopM (σ:=Int×Value×(Int→Int)) (rsL [9,9,33,44]) (fun s=>[(32,.int .i64 s.1),(4,s.2.1)]) (fun s=>[oT cMove 49 s.2.1 (((AF G.rm p.st.x).take s.1.toNat).filter (AE G.p p.x)),roT cMove ⟨ml,AF G.rm p.st.x⟩,blk bt [G.rm.pls.v,G.rm.ths.v,G.rm.prs.v,G.rm.wys.v,G.rm.acs.v,G.rm.aus.v,.int .i64 G.rm.ply,G.rm.gl.v,G.lks.v,G.cds.v,G.nts.v,.int .i64 G.tr,p.st.ths.v,p.st.prs.v,p.st.pls.v,rv,.map (some mb)] 190,oT cBool 4 rv p.rd.l,mapI mb s.2.2,YtmoojmgihdgceaaGreatDoor.osl 0 1 (.slice none 0 0) 0 [],blk b3 [p.st.ths.v,p.st.prs.v,p.st.pls.v,p.rd.v] 98,blk b2 (gcl G) 36]) (fun s=>0≤s.1∧s.1≤(AF G.rm p.st.x).length∧KeptO G.p p.rd.l s.2.2) (fun s=>((AF G.rm p.st.x).length-s.1).toNat) (0,.slice none 0 0,fun _=>0) (fun _ _=>rfl) rfl rfl ⟨by simp,by simp,KeptO.zero⟩ ?_;intro a t hs;obtain⟨ha1,ha2,ha3⟩:=hs;refine Nz 1 ?_;refine Wd (Qc (Cs (Cn ?_ ?_)))<;>intro hc3
 ·have hfl:=MT (p:=AE G.p p.x) (l:=AF G.rm p.st.x) (n:=a.1.toNat);refine Ck (Qc (Cs (Ce (Nz 0 ?_))));refine Wk 0 (Xc (s:=⟨ml,AF G.rm p.st.x⟩)) ?_;refine Wk 0 (CZ (jj:=1) (s:=⟨ml,AF G.rm p.st.x⟩) rfl rfl rfl ⟨(by omega),(by omega)⟩ rfl tk49) ?_;refine Wq 0 zv49 fun b9 hb9=>?_;refine Wv 0 0 ?_;refine Nx 1 ?_;refine Wk 0 (by exact AK (j:=0) rfl rfl tk49) ?_;refine WS.callS rfl rfl Zy (fun u hu=>OH [_,_,_] _ G hG hn g hW hV bt mb p.st _ (HasZ.old hp.st _) hI rv p.rd.l hpl _ ha3 (nth (AF G.rm p.st.x) a.1) hu) (fun _=>rfl) ?_;rintro⟨f1,nb⟩ hf1;refine Wk 0 (SM rfl rfl ZI) ?_;refine Wp ?_ ?_<;>intro hc4
  ·have hpb:AE G.p p.x (nth (AF G.rm p.st.x) a.1)=true:=hc4;refine Ny 1 ?_;refine Wk 0 (by exact AK (j:=0) rfl rfl tk49) ?_;refine WS.buildT1 cMove (a:=(nth (AF G.rm p.st.x) a.1)) sl42 zv49 rfl (by decide) (fun _=>rfl) ?_;intro v42;refine WS.appendT1 (j:=2) (jz:=0) sl42 zv49 rfl (by decide) rfl rfl rfl rfl (w:=w) trivial (by omega) (by omega) (fun _=>rfl) (fun _=>rfl) ?_;intro v43 hv43;refine Wz 1 ?_;refine Wd (Qb (Qc (Ny 0 ?_)));refine Wk 1 Za ?_;refine Wd ?_;refine QS.sel [2,2,2,2,2,2,2,2] rfl ?_;exact QS.head ((a.1+1,v43,f1)) rfl (by simp only[Ja ha1 (show a.1<(AF G.rm p.st.x).length by omega) hpb]) ⟨⟨by simp;omega,by simp;omega,hf1⟩,by simp;omega⟩
  have hpb:AE G.p p.x (nth (AF G.rm p.st.x) a.1)=false:=by first|exact hc4|simpa using hc4
  refine Ck (Qb (Qc (Ny 0 ?_)));refine Wk 1 Za ?_;refine Wd ?_;refine QS.sel [1,1,1,1,1,1,1,1] rfl ?_;exact QS.head ((a.1+1,a.2.1,f1)) rfl (by simp only[←K7 ha1 (show a.1<(AF G.rm p.st.x).length by omega) hpb]) ⟨⟨by simp;omega,by simp;omega,hf1⟩,by simp;omega⟩
 have hta:(AF G.rm p.st.x).take a.1.toNat=AF G.rm p.st.x:=List.take_of_length_le (by omega);refine Cv (Qe (Qe (Qx (Qc (Nz 3 ?_)))));refine Wd (Qc (Cr ?_))
 exact out2 rfl rfl rfl (by
   have hv:CanV G.p p.x=(0,Ai G.p p.x):=if_pos hq;rw[hv,Fs,show(AF G.rm p.x.1).filter (AE G.p p.x)=((AF G.rm p.st.x).take a.1.toNat).filter (AE G.p p.x) by rw[hta];rfl]
   exact fun u hu=>retM (f:=fun v=>.tuple #[v,.int .i64 0]) (j:=0) rfl hu)
theorem Vt (G:Game) (w:World) (hG:GameOk w G) (g:Sl ByteArray) (hW:GOk w g) (hn:NearG G) (p:Pos) (hp:PosOk w p) (hq:¬posG G.p p.x=0):
  Calls prog 96 #[.agg (gcl G).toArray,.agg #[p.st.ths.v,p.st.prs.v,p.st.pls.v,p.rd.v]] w (RetM w (CanV G.p p.x).2 fun v=>.tuple #[v,.int .i64 (CanV G.p p.x).1]):=by
 refine En func96 ?_;refine Nz 0 ?_;refine Wr 0 fun b2 hb2=>?_;refine Wr 2 fun b3 hb3=>?_;refine Nx 0 ?_;refine Wk 0 (by exact AK (j:=1) rfl rfl tk36) ?_;refine Wk 0 (by exact AK (j:=0) rfl rfl tk98) ?_;refine Wk 5 (Cb rfl rfl M1 (fun u hu=>HU G u (hG.st hu) g (hW.st hu) hn p (hp.toSt hu) hq)) ?_;refine Nv 2 ?_;refine Wp ?_ ?_<;>intro hc1
 ·refine Nz 3 ?_;refine Wd (Qc (Cr (Qr ?_)))
  exact out2 rfl rfl rfl (by
    have hv:CanV G.p p.x=(posG G.p p.x,[]):=if_neg hq;rw[hv]
    exact fun u hu=>Yu (f:=fun v=>.tuple #[v,.int .i64 (posG G.p p.x)]) hu)
 exact absurd hc1 hq
theorem ZB (G:Game) (w:World) (hG:GameOk w G) (g:Sl ByteArray) (hW:GOk w g) (hn:NearG G) (p:Pos) (hp:PosOk w p):
  Calls prog 96 #[.agg (gcl G).toArray,.agg #[p.st.ths.v,p.st.prs.v,p.st.pls.v,p.rd.v]] w (RetM w (CanV G.p p.x).2 fun v=>.tuple #[v,.int .i64 (CanV G.p p.x).1]):=by
 by_cases hq:posG G.p p.x=0
 ·exact WV G w hG g hW hn p hp hq
 exact Vt G w hG g hW hn p hp hq
theorem Ui {G:Game} {p:Pos} (hc:Bj G.p=0) (hI:StIn G.rm p.st.x) (hl:p.rd.l.length=G.nts.l.length):posG G.p p.x=0:=by
 rw[HP,Bm hc,Bm (show CX G.rm p.st=0 from CR.2 ⟨(GE hc).ck,hI⟩),if_pos (by omega)]
theorem V8 {G:GP} {x:PX} (h:posG G x=0):Bj G=0:=(BH h).1
theorem SG {G:Game} {p:Pos} {m:Move} (hP:GoodP G p):StIn G.rm (B4 G.p p.x m).1∧(B4 G.p p.x m).2.length=G.nts.l.length:=by
 unfold B4;split
 ·rename_i h;exact⟨Mg hP h,by unfold AM;rw[Do];exact hP.ln⟩
 exact⟨hP.inn,hP.ln⟩
end Go.Proofs.YtmoojmgihdgceaaGreatDoor
