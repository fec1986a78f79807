/- Merged texts of this proof (walks and plain laws), printed by a program of the prover. -/
import Derived.Test.YtmoojmgihdgceaaGreatDoorXj
import Derived.Test.YtmoojmgihdgceaaGreatDoorXd
set_option maxHeartbeats 8000000
namespace Go.Proofs.YtmoojmgihdgceaaGreatDoor
open Go.RowKit Go.Proofs Tryz
set_option maxRecDepth 100000
set_option linter.unusedVariables false
set_option linter.unusedSimpArgs false
def Le (b7 b6 fb:Nat) (y:Pos) (acc:List Pos):SA:=exS fun v:Value=>star [blk b7 [v] 66,oT cPos 98 v (y::acc),blk b6 [.pointer (some ⟨fb,0,none⟩)] 90]
theorem St.pathI {n0:Nat} {w0 u:World} {L:List SA} {b7 b6 fb:Nat} {y:Pos} {acc:List Pos} {v:Value} (h:St n0 w0 (YtmoojmgihdgceaaGreatDoor.blk b7 [v] 66::oT cPos 98 v (y::acc)::YtmoojmgihdgceaaGreatDoor.blk b6 [.pointer (some ⟨fb,0,none⟩)] 90::L) u):St n0 w0 (Le b7 b6 fb y acc::L) u:=
 St.exI (f:=fun v:Value=>YtmoojmgihdgceaaGreatDoor.star [YtmoojmgihdgceaaGreatDoor.blk b7 [v] 66,oT cPos 98 v (y::acc),YtmoojmgihdgceaaGreatDoor.blk b6 [.pointer (some ⟨fb,0,none⟩)] 90]) v (St.pack (L1:=[_,_,_]) h)
theorem II {w u:World} (R:SA) (G:Game) (b7 b6 fb:Nat) (y:Pos) (acc:List Pos) (z:Pos) (f:Film) (hzx:z.x=f.x) (hac:acc.length≤1000) (hu:St w.heap.size w [blk fb (fcl G z f) 100,(roS fun u=>PosOk u z∧∀p∈y::acc,PosOk u p),Le b7 b6 fb y acc,R] u):
  Calls prog 32 #[.pointer (some ⟨b7,0,none⟩),.pointer (some ⟨b6,0,none⟩)] u (fun e u'=>e = .returned (.tuple #[])∧St w.heap.size w [blk fb (fcl G z f) 100,(roS fun u=>PosOk u z∧∀p∈y::(acc++[z]),PosOk u p),Le b7 b6 fb y (acc++[z]),R] u'):=by
 obtain⟨v,hu2⟩:=(hu.sel [2,0,0,0] rfl).ex;have hu3:=hu2.unpack;refine Ei hu3 func32 ?_;refine CS.drawnTill 6 (k:=8) mixed rfl rfl ?_;refine Tk 8 0 [] rfl (Ba 0) ?_;refine Tk 8 1 [2,3] rfl (Ba 2) ?_;refine Tk 8 4 [] rfl (Bc 3) ?_;refine To 5 rfl ?_;refine WS.buildT1 cPos (a:=z) sl66 zv98 rfl (by decide) (fun _=>rfl) ?_;intro v7;refine Wd (Qt ?_);refine To 6 rfl ?_;refine WS.known (fun u hu=>(show PosOk u z from(hu.ro (j:=5) rfl).1).one4) fun hz4=>?_;refine WS.appendT2 (C:=cPos) (a:=z) (j:=2) (jz:=0) sl66 zv98 rfl (by decide) rfl rfl rfl rfl hz4 (by simp;omega) (by simp;omega) (fun _=>rfl) (fun _=>rfl) ?_;intro v8 hv8;refine Wd (Qt ?_);refine To 7 rfl ?_;refine Ws 0 1 ?_;refine Wd (Qt ?_);refine Te ?_;exact out0 (Or.inr rfl) rfl (fun u hu=>⟨rfl,(((hu.sel [1,1,1,1,1,1] rfl).pathI (acc:=acc++[z])).sel [1,1,0,0] rfl).seenK⟩)
theorem S5 (p q:Pos) (b3:Nat) (e:TypeId) (w:World) (hb:BlkAt w b3 [p.st.ths.v,p.st.prs.v,p.st.pls.v,p.rd.v] e) (hp:PosOk w p) (hq:PosOk w q):
  Calls prog 37 #[.agg #[q.st.ths.v,q.st.prs.v,q.st.pls.v,q.rd.v],.pointer (some ⟨b3,0,none⟩)] w (RetB w (.bool (decide (p.x=q.x)))):=by
 refine En func37 ?_;refine Nz 0 ?_;refine Wr 1 fun b2 hb2=>?_;refine Nx 2 ?_;refine Wk 2 (BM (i:=0) rfl (fun u hu=>hb.st hu) rfl tk37) ?_;refine Wk 0 (Ba 0) ?_;refine Wk 1 (Cb rfl rfl WQ (fun u hu=>IV p.st.ths.l q.st.ths.l _ _ u (hp.toSt hu).st.ths.ints (hq.toSt hu).st.ths.ints)) ?_;refine Wj 0 ?_;refine Wj 0 ?_;refine Wt 0 rfl rfl (fun hg=>BM (i:=1) (eg_ hg rfl) (fun u hu=>hb.st hu) rfl tk37) ?_;refine Wj 0 ?_;refine Wj 0 ?_;refine Wj 0 ?_;refine Wt 0 rfl rfl (fun hg=>Cb rfl (ec_ (eg_ hg rfl) (ec_ (eg_ hg rfl) en_)) WQ (fun u hu=>IV p.st.prs.l q.st.prs.l _ _ u (hp.toSt hu).st.prs.ints (hq.toSt hu).st.prs.ints)) ?_;refine Wk 1 Pa ?_;refine Wj 0 ?_;refine Wj 0 ?_;refine Wt 0 rfl rfl (fun hg=>BM (i:=2) (eg_ hg rfl) (fun u hu=>hb.st hu) rfl tk37) ?_;refine Wj 0 ?_;refine Wj 0 ?_;refine Wj 0 ?_;refine Wt 0 rfl rfl (fun hg=>Cb rfl (ec_ (eg_ hg rfl) (ec_ (eg_ hg rfl) en_)) WQ (fun u hu=>IV p.st.pls.l q.st.pls.l _ _ u (hp.toSt hu).st.pls.ints (hq.toSt hu).st.pls.ints)) ?_;refine Wk 1 Pa ?_;refine Wj 0 ?_;refine Wt 0 rfl rfl (fun hg=>BM (i:=3) (eg_ hg rfl) (fun u hu=>hb.st hu) rfl tk96) ?_;refine Wj 0 ?_;refine Wj 0 ?_;refine Wt 0 rfl rfl (fun hg=>Cb rfl (ec_ (eg_ hg rfl) (ec_ (eg_ hg rfl) en_)) Jap (fun u hu=>T8 p.rd q.rd u (hp.toSt hu).rd (hq.toSt hu).rd)) ?_;refine Wk 1 Pa ?_;exact Wd (Qc (Cr (out1 rfl rfl (Ab (congrArg Value.bool (by unfold Pos.x Stt.x;rw[Bool.eq_iff_iff];simp[and_assoc]))))))
theorem Ma (X:GraphD) (d:Sl Int) (p:Pos) (b10 b11:Nat) (e10 e11:TypeId) (w:World) (h11:BlkAt w b11 [d.v] e11) (h10:BlkAt w b10 [X.ps.v,X.es.v] e10) (hX:SlT cPos w X.ps) (hd:SlT cInt w d) (hp:PosOk w p) (hnd:X.xs.Nodup) (hm:p.x∈X.xs) (hdl:d.l.length=X.ps.l.length):
  Calls prog 35 #[.agg #[p.st.ths.v,p.st.prs.v,p.st.pls.v,p.rd.v],.pointer (some ⟨b11,0,none⟩),.pointer (some ⟨b10,0,none⟩)] w (RetB w (.int .i64 (dOf X.xs d.l p.x))):=by
 have hdi:=hd.ints;have hxl:X.xs.length=X.ps.l.length:=List.length_map _;obtain⟨hn0,hn1,hn2⟩:=F2 hm;rw[hxl]at hn1;have hnx:∀j:Int,nth X.xs j=(nth X.ps.l j).x:=fun j=>Gz X.ps.l j;refine En func35 ?_;refine Nz 0 ?_;refine Wr 1 fun b3 hb3=>?_;refine Wd (Qc (Cs (Dr mixed 0 ?_)));refine Dk 1 (BM (i:=0) rfl (fun u hu=>h11.st hu) rfl tk37) ?_;refine Dk 0 (BM (i:=0) rfl (fun u hu=>h10.st hu) rfl tk66) ?_;refine Dk 0 (Al rfl) ?_;refine Dk 0 (Cb rfl rfl Jah (fun u hu=>Tv X.ps u (hX.st hu) 37 [.pointer (some ⟨b3,0,none⟩)] Ja8 (fun q=>decide (p.x=q.x)) (fun q u2 hb2 hq=>S5 p q b3 _ u2 ((AD hu (j:=0) rfl).ext hb2) ((hp.toSt hu).ext hb2) hq) (idxI X.xs p.x) ⟨hn0,hn1⟩ (fun j j0 j1=>decide_eq_false fun h=>by have h9:=GM hnd j0 (by omega) ((hnx j).trans h.symm);omega) (decide_eq_true (by rw[←hnx];exact hn2.symm)))) ?_;refine Dk 0 Xa ?_;refine Dk 1 Ia ?_;exact Dd (Qc (Cr (out1 rfl rfl (Ab rfl))))
theorem St.run0 {n0:Nat} {w0 u:World} {T R:SA} {b7 b6 fb:Nat} {y:Pos} {v:Value} (h:St n0 w0 [YtmoojmgihdgceaaGreatDoor.blk b7 [v] 66,oT cPos 98 v [y],YtmoojmgihdgceaaGreatDoor.blk b6 [.pointer (some ⟨fb,0,none⟩)] 90,T,(roS fun u=>PosOk u y),R] u):
  St n0 w0 [T,(roS fun u=>PosOk u y∧∀p∈y::[],PosOk u p),Le b7 b6 fb y [],R] u:=
 ((St.roMap (q:=fun u=>PosOk u y∧∀p∈y::[],PosOk u p) (fun _ hu=>⟨hu,fun p hp=>by rw[List.mem_singleton.1 hp];exact hu⟩) ((h.pathI (acc:=[])).sel [2,0,0,0] rfl)).sel [2,0,0,0] rfl)
theorem V1 {u:World} {v:Value} {y:Pos} {acc:List Pos} (h:SlT cPos u ⟨v,y::acc⟩):SlT cPos u ⟨sub2 4 v 1 (y::acc).length,acc⟩:=by
 have h9:=h.cut (lo:=1) (hi:=(y::acc).length) (by simp) (Nat.le_refl _)
 have h8:SlT cPos u ⟨sub2 cPos.k v 1 (acc.length+1),acc⟩:=by
  unfold Sl.cut at h9
  simpa using h9
 exact h8
theorem LT {P:Program} {n0:Nat} {w0:World} {L:List SA} {l:List Value} {d:Option Tmp} {ty:TypeId} {ps:String} {af:Array Edge} {g:Option (Nat×Bool)} {T:TypeId} {x:Operand} {v:Value} {xs:List Pos} {i:Int} (hC:∀u,St n0 w0 L u→SlT cPos u ⟨v,xs⟩)
  (hx:evo l x=some (.pointer (some (sla v (i.toNat*4))))) (h:0≤i∧i<xs.length) (hT:tk P T=some (true,4)):Det P (St n0 w0 L) ⟨d,.load T x,ty,ps,af,g⟩ l (.agg #[(nth xs i).st.ths.v,(nth xs i).st.prs.v,(nth xs i).st.pls.v,(nth xs i).rd.v]):=by
 show Det P _ _ l (.agg (cPos.cells (nth xs i)).toArray);refine Ci hx (fun u hu=>(hC u hu).sp) (fun f y hy=>?_) (by rw[cPos.len];exact hT);have hf:f<4:=by have:=(List.getElem?_eq_some_iff.1 hy).1;rwa [cPos.len]at this
 exact(BK cPos h.1 h.2 f hf).trans hy
abbrev Ja9 (G:Game) (l:List Entr) (n:Int):Prop:=0≤n∧n≤500∧∃d:List Int,DR G d∧n=Ev (dOf (Af G.p).2.1 d) (Ac G.p).2 (CU G.p l (A4 G.p))
theorem NQ {δ:PX→Int} {x:PX} {l:List Pos} {i:Int} (h0:0≤i) (h1:i<l.length):Ev δ x ((l.drop i.toNat).map Pos.x)=(if δ (nth l i).x<0∨δ x≤δ (nth l i).x then 1 else 0)+Ev δ (nth l i).x ((l.drop (i+1).toNat).map Pos.x):=by
 rw[AO h0 h1];rfl
theorem UW {y:Pos} {l:List Pos} {i:Int} (h0:0≤i):nth (y::l) (i+1)=nth l i:=by
 unfold nth;rw[show(i+1).toNat=i.toNat+1 by omega];rfl
theorem RF (G:Game) (w:World) (hG:GameOk w G) (hn:NearG G) (g:Sl ByteArray) (hW:GOk w g) (ht:Lib.TabIs prog w "internal/strconv.uint64pow10" .u64 Lib.pow10Tab) (l:Sl Entr) (hk:SlT cEntry w l) (hB:¬(Ac G.p).1=0):
  Calls prog 11 #[.agg (gcl G).toArray,l.v] w (RetB w (.tuple #[.int .i64 0,.int .i64 (Ac G.p).1])):=by
 refine En func11 ?_;refine Nz 0 ?_;refine Wr 2 fun b2 hb2=>?_;refine Nx 0 ?_;refine Wk 0 (Bb 0) ?_;refine Wk 3 (Cb rfl rfl Jm (fun u hu=>Hp G u (hG.st hu) hn g (hW.st hu) hB)) ?_;refine Wq 0 zv90 fun b6 hb6=>?_;refine Ws 1 0 ?_;refine Nv 2 ?_;refine Wp ?_ ?_<;>intro hc1
 ·refine Nz 3 ?_;exact Wd (Qc (Cr (Qr (out2 rfl rfl rfl (Ab rfl)))))
 exact absurd hc1 hB
theorem Oz (G:Game) (w:World) (hG:GameOk w G) (hn:NearG G) (g:Sl ByteArray) (hW:GOk w g) (ht:Lib.TabIs prog w "internal/strconv.uint64pow10" .u64 Lib.pow10Tab) (l:Sl Entr) (hk:SlT cEntry w l) (hE:¬(AC G.p l.l).1=0) (hB:(Ac G.p).1=0):
  Calls prog 11 #[.agg (gcl G).toArray,l.v] w (RetB w (.tuple #[.int .i64 0,.int .i64 (AC G.p l.l).1])):=by
 refine En func11 ?_;refine Nz 0 ?_;refine Wr 2 fun b2 hb2=>?_;refine Nx 0 ?_;refine Wk 0 (Bb 0) ?_;refine Wc rfl rfl Jm (fun u hu=>C8 G u (hG.st hu) hn g (hW.st hu) hB) (fun _=>rfl) ?_;rintro⟨fb,y⟩ ⟨hyx,uy,hyok⟩;refine WS.unpack ?_;refine Wz 3 ?_;refine Wq 0 zv90 fun b6 hb6=>?_;refine Ws 1 0 ?_;refine Nv 2 ?_;refine Wp ?_ ?_<;>intro hc1
 ·exact absurd trivial hc1
 refine Ck (Qc (Nz 0 ?_));refine Wk 2 (Ba 0) ?_;refine Wk 0 (Bc 1) ?_;refine WS.buildT1 cPos (a:=y) sl66 zv98 rfl (by decide) (fun _=>rfl) ?_;intro v29;refine WS.oc (j:=0) rfl (fun hv29=>?_);refine Wq 0 zv66 fun b7 hb7=>?_;refine Ws 0 0 ?_;refine Nv 0 ?_;refine Wk 1 (Ba 2) ?_;refine Wk 0 (Al rfl) ?_;refine WS.sel [0,0,0,0,0,0] rfl ?_;refine WS.weak (fun u hu=>St.run0 hu) ?_;refine WS.callS rfl rfl Q9 (fun u hu=>Pp _ (Le b7 b6 fb y) G hG hn g hW fb y hyx hB l hk 32 [.pointer (some ⟨b7,0,none⟩),.pointer (some ⟨b6,0,none⟩)] VQ (fun acc z f u hzx hq hac hu=>II _ G b7 b6 fb y acc z f hzx hac hu) hu) (fun _=>rfl) ?_;rintro⟨y2,f2,acc⟩ ⟨hy2x,⟨uy2,hy2ok⟩,hfin⟩;dsimp only at hfin hy2x hy2ok;refine WS.sel [2,0,0,0] rfl ?_;refine WS.ex ?_;intro v70;refine WS.unpack ?_;refine WS.known (p:=∀p∈y::acc,∀v∈[p.st.ths.v,p.st.prs.v,p.st.pls.v,p.rd.v],v.oneCell'=true) (fun u hu=>fun p hp=>((hu.ro (j:=4) rfl).2 p hp).one4) fun hP4=>?_;refine Wz 5 ?_;refine Nx 2 ?_;refine Wp ?_ ?_<;>intro hc2
 ·refine Nz 3 ?_;exact Wd (Qc (Cr (Qr (out2 rfl rfl rfl retB))))
 exact absurd hc2 hE
theorem QP (G:Game) (w:World) (hG:GameOk w G) (hn:NearG G) (g:Sl ByteArray) (hW:GOk w g) (ht:Lib.TabIs prog w "internal/strconv.uint64pow10" .u64 Lib.pow10Tab) (l:Sl Entr) (hk:SlT cEntry w l) (hE:(AC G.p l.l).1=0) (hX0:¬(Af G.p).1=0):
  Calls prog 11 #[.agg (gcl G).toArray,l.v] w (RetB w (.tuple #[.int .i64 0,.int .i64 (Af G.p).1])):=by
 have hB:=(FL hE).1;refine En func11 ?_;refine Nz 0 ?_;refine Wr 2 fun b2 hb2=>?_;refine Nx 0 ?_;refine Wk 0 (Bb 0) ?_;refine Wc rfl rfl Jm (fun u hu=>C8 G u (hG.st hu) hn g (hW.st hu) hB) (fun _=>rfl) ?_;rintro⟨fb,y⟩ ⟨hyx,uy,hyok⟩;refine WS.unpack ?_;refine Wz 3 ?_;refine Wq 0 zv90 fun b6 hb6=>?_;refine Ws 1 0 ?_;refine Nv 2 ?_;refine Wp ?_ ?_<;>intro hc1
 ·exact absurd trivial hc1
 refine Ck (Qc (Nz 0 ?_));refine Wk 2 (Ba 0) ?_;refine Wk 0 (Bc 1) ?_;refine WS.buildT1 cPos (a:=y) sl66 zv98 rfl (by decide) (fun _=>rfl) ?_;intro v29;refine WS.oc (j:=0) rfl (fun hv29=>?_);refine Wq 0 zv66 fun b7 hb7=>?_;refine Ws 0 0 ?_;refine Nv 0 ?_;refine Wk 1 (Ba 2) ?_;refine Wk 0 (Al rfl) ?_;refine WS.sel [0,0,0,0,0,0] rfl ?_;refine WS.weak (fun u hu=>St.run0 hu) ?_;refine WS.callS rfl rfl Q9 (fun u hu=>Pp _ (Le b7 b6 fb y) G hG hn g hW fb y hyx hB l hk 32 [.pointer (some ⟨b7,0,none⟩),.pointer (some ⟨b6,0,none⟩)] VQ (fun acc z f u hzx hq hac hu=>II _ G b7 b6 fb y acc z f hzx hac hu) hu) (fun _=>rfl) ?_;rintro⟨y2,f2,acc⟩ ⟨hy2x,⟨uy2,hy2ok⟩,hfin⟩;dsimp only at hfin hy2x hy2ok;refine WS.sel [2,0,0,0] rfl ?_;refine WS.ex ?_;intro v70;refine WS.unpack ?_;refine WS.known (p:=∀p∈y::acc,∀v∈[p.st.ths.v,p.st.prs.v,p.st.pls.v,p.rd.v],v.oneCell'=true) (fun u hu=>fun p hp=>((hu.ro (j:=4) rfl).2 p hp).one4) fun hP4=>?_;refine Wz 5 ?_;refine Nx 2 ?_;refine Wp ?_ ?_<;>intro hc2
 ·exact absurd hE hc2
 refine Ck (Qc (Nz 0 ?_));refine Wk 0 (Bb 5) ?_;refine Wc rfl rfl Ze (fun u hu=>Ij G u (hG.st hu) hn g (hW.st hu) (D2 ht hu)) (fun _=>rfl) ?_;rintro X ⟨hXv,uX,hX⟩;have oXp:=Sl.one hX.ps;have oXe:=Sl.one hX.es;refine Wz 3 ?_;refine Wq 0 zv69 fun b10 hb10=>?_;refine Wv 1 0 ?_;refine Nv 2 ?_;refine Wp ?_ ?_<;>intro hc3
 ·refine Nz 3 ?_;exact Wd (Qc (Cr (Qr (out2 rfl rfl rfl retB))))
 exact absurd hc3 hX0
theorem Oy (G:Game) (w:World) (hG:GameOk w G) (hn:NearG G) (g:Sl ByteArray) (hW:GOk w g) (ht:Lib.TabIs prog w "internal/strconv.uint64pow10" .u64 Lib.pow10Tab) (l:Sl Entr) (hk:SlT cEntry w l) (hE:(AC G.p l.l).1=0) (hX0:(Af G.p).1=0):
  Calls prog 11 #[.agg (gcl G).toArray,l.v] w (fun e w'=>∃n:Int,Ja9 G l.l n∧RetB w (.tuple #[.int .i64 n,.int .i64 0]) e w'):=by
 have hB:=(FL hE).1;refine En func11 ?_;refine Nz 0 ?_;refine Wr 2 fun b2 hb2=>?_;refine Nx 0 ?_;refine Wk 0 (Bb 0) ?_;refine Wc rfl rfl Jm (fun u hu=>C8 G u (hG.st hu) hn g (hW.st hu) hB) (fun _=>rfl) ?_;rintro⟨fb,y⟩ ⟨hyx,uy,hyok⟩;refine WS.unpack ?_;refine Wz 3 ?_;refine Wq 0 zv90 fun b6 hb6=>?_;refine Ws 1 0 ?_;refine Nv 2 ?_;refine Wp ?_ ?_<;>intro hc1
 ·exact absurd trivial hc1
 refine Ck (Qc (Nz 0 ?_));refine Wk 2 (Ba 0) ?_;refine Wk 0 (Bc 1) ?_;refine WS.buildT1 cPos (a:=y) sl66 zv98 rfl (by decide) (fun _=>rfl) ?_;intro v29;refine WS.oc (j:=0) rfl (fun hv29=>?_);refine Wq 0 zv66 fun b7 hb7=>?_;refine Ws 0 0 ?_;refine Nv 0 ?_;refine Wk 1 (Ba 2) ?_;refine Wk 0 (Al rfl) ?_;refine WS.sel [0,0,0,0,0,0] rfl ?_;refine WS.weak (fun u hu=>St.run0 hu) ?_;refine WS.callS rfl rfl Q9 (fun u hu=>Pp _ (Le b7 b6 fb y) G hG hn g hW fb y hyx hB l hk 32 [.pointer (some ⟨b7,0,none⟩),.pointer (some ⟨b6,0,none⟩)] VQ (fun acc z f u hzx hq hac hu=>II _ G b7 b6 fb y acc z f hzx hac hu) hu) (fun _=>rfl) ?_;rintro⟨y2,f2,acc⟩ ⟨hy2x,⟨uy2,hy2ok⟩,hfin⟩;dsimp only at hfin hy2x hy2ok;refine WS.sel [2,0,0,0] rfl ?_;refine WS.ex ?_;intro v70;refine WS.unpack ?_;refine WS.known (p:=∀p∈y::acc,∀v∈[p.st.ths.v,p.st.prs.v,p.st.pls.v,p.rd.v],v.oneCell'=true) (fun u hu=>fun p hp=>((hu.ro (j:=4) rfl).2 p hp).one4) fun hP4=>?_;refine Wz 5 ?_;refine Nx 2 ?_;refine Wp ?_ ?_<;>intro hc2
 ·exact absurd hE hc2
 refine Ck (Qc (Nz 0 ?_));refine Wk 0 (Bb 5) ?_;refine Wc rfl rfl Ze (fun u hu=>Ij G u (hG.st hu) hn g (hW.st hu) (D2 ht hu)) (fun _=>rfl) ?_;rintro X ⟨hXv,uX,hX⟩;have oXp:=Sl.one hX.ps;have oXe:=Sl.one hX.es;refine Wz 3 ?_;refine Wq 0 zv69 fun b10 hb10=>?_;refine Wv 1 0 ?_;refine Nv 2 ?_;refine Wp ?_ ?_<;>intro hc3
 ·exact absurd hX0 hc3
 refine Ck (Qc (Nz 0 ?_));refine Wk 0 (Bb 7) ?_;refine Wc rfl rfl ZU (fun u hu=>V0 G u (hG.st hu) hn g (hW.st hu) (D2 ht hu) hX0) (fun _=>rfl) ?_;rintro d ⟨hd,ud,hdk⟩;have od:=Sl.one hdk;have hXp2:X.xs=(Af G.p).2.1:=congrArg Prod.fst hXv;have hXe2:X.ed=(Af G.p).2.2:=congrArg Prod.snd hXv;have hgr:GrAll G.p (Ac G.p).2 X.xs X.ed:=by rw[hXp2,hXe2];exact(E3 hX0).2
 have hd2:K8 G.p X.xs X.ed d.l:=by rw[hXp2,hXe2];exact hd
 have hxl:X.xs.length=X.ps.l.length:=List.length_map _;have hdl:d.l.length=X.ps.l.length:=by rw[hd2.len,hgr.len,hxl]
 obtain⟨hff,hpp⟩:=hfin hE;have hwy:WayF G.p y.x (acc.map Pos.x):=by rw[←hpp,hyx];obtain⟨_,_,f9,hr9,_⟩:=FL hE;exact Gt _ _ _ (A4 G.p) f9 (CC hB) hr9
 have hy0:y.x∈X.xs:=by rw[hyx,←hgr.ok.pk.first];exact Ad (by omega) (by have:=hgr.ok.pk.pos;omega)
 have hPx:∀p∈y::acc,p.x∈X.xs:=fun p hp=>by
  rcases List.mem_cons.1 hp with rfl|hp
  ·exact hy0
  exact hgr.way_mem _ _ hy0 hwy _ (List.mem_map.2 ⟨p,hp,rfl⟩)
 have hal:acc.length≤500:=by
  obtain⟨_,h8,f9,hr9,_⟩:=FL hE;have h7:=IX _ _ _ _ _ hr9;rw[hpp,List.length_map]at h7;have h6:=List.length_filter_le (fun e:Entr=>decide (e.k=1)) l.l;omega
 refine Wz 3 ?_;refine Wq 0 zv37 fun b11 hb11=>?_;refine Ws 1 0 ?_;refine Nv 2 ?_;refine Wp ?_ ?_<;>intro hc4
 ·exact absurd trivial hc4
 refine Ck (Qc (Nz 0 ?_));refine Wk 1 (Al rfl) ?_;refine Nv 0 ?_;refine Wk 0 (Ba 4) ?_;refine Wk 0 (Hy sl66 rfl rfl (j:=5) rfl (by decide) (by simp;omega)) ?_;refine Wk 1 (fun u hu=>Bi sl66 rfl (V1 (CF hu (j:=5) rfl (hu.ro (j:=8) rfl).2)).sp u hu) ?_;refine Nu ?_;refine CS.loopM (σ:=Int×Int) (rsL [13,16,61,83]) (fun s=>[(60,.int .i64 s.1),(4,.int .i64 s.2)]) (fun _=>_) (fun s=>0≤s.1∧s.1≤acc.length∧0≤s.2∧s.2≤s.1∧s.2+Ev (dOf X.xs d.l) (nth (y::acc) s.1).x ((acc.drop s.1.toNat).map Pos.x)=Ev (dOf X.xs d.l) y.x (acc.map Pos.x)) (fun s=>(acc.length-s.1).toNat) (0,0) (fun _ _=>rfl) rfl rfl ⟨by simp,by simp,by simp,by simp,by simp;rfl⟩ ?_;intro s t hs;obtain⟨hs1,hs2,hs3,hs4,hs5⟩:=hs;refine Nz 1 ?_;refine Wd (Qc (Cs (Cn ?_ ?_)))<;>intro hc5
 ·have hia:s.1<acc.length:=by first|exact hc5|(simp at hc5;omega)
  have hm1:nth (y::acc) s.1∈y::acc:=Ad hs1 (by simp;omega);have hm2:nth acc s.1∈y::acc:=List.mem_cons_of_mem _ (Ad hs1 hia);obtain⟨hza,hzb,hzc,hzd⟩:(nth acc s.1).st.ths.v.oneCell'=true∧(nth acc s.1).st.prs.v.oneCell'=true∧(nth acc s.1).st.pls.v.oneCell'=true∧(nth acc s.1).rd.v.oneCell'=true:=⟨hP4 _ hm2 _ (by simp),hP4 _ hm2 _ (by simp),hP4 _ hm2 _ (by simp),hP4 _ hm2 _ (by simp)⟩;have hst:=NQ (δ:=(dOf X.xs d.l)) (x:=(nth (y::acc) s.1).x) hs1 hia;refine Ck (Qc (Cs (Ce (Nz 1 ?_))));refine Wk 0 (fun u hu=>BN sl66 rfl rfl (V1 (CF hu (j:=5) rfl (hu.ro (j:=8) rfl).2)).sp (by omega) (by omega) u hu) ?_;refine Wk 0 (LT (xs:=acc) (fun u hu=>V1 (CF hu (j:=5) rfl (hu.ro (j:=8) rfl).2)) rfl ⟨by omega,by omega⟩ tk98) ?_;refine Wq 1 zv98 fun b14 hb14=>?_;refine Wv 0 0 ?_;refine Wd (Qc (Cs (Dr mixed 1 ?_)));refine Dk 1 (Ba 5) ?_;refine Dk 0 (fun u hu=>BN sl66 rfl rfl (CF hu (j:=6) rfl (hu.ro (j:=9) rfl).2).sp (by omega) (by simp;omega) u hu) ?_;refine Dk 0 (LT (xs:=y::acc) (fun u hu=>(CF hu (j:=6) rfl (hu.ro (j:=9) rfl).2)) rfl ⟨by omega,by simp;omega⟩ tk98) ?_;refine Dk 1 (Cb rfl rfl Zi (fun u hu=>Ma X d (nth (y::acc) s.1) b10 b11 _ _ u (AD hu (j:=1) rfl) (AD hu (j:=3) rfl) (hu.ro (j:=4) rfl).ps (hu.ro (j:=2) rfl) ((hu.ro (j:=9) rfl).2 _ hm1) hgr.ok.pk.nd (hPx _ hm1) hdl)) ?_;refine Dk 0 (Bb 0) ?_;refine Dk 2 (Cb rfl rfl Zi (fun u hu=>Ma X d (nth acc s.1) b10 b11 _ _ u (AD hu (j:=1) rfl) (AD hu (j:=3) rfl) (hu.ro (j:=4) rfl).ps (hu.ro (j:=2) rfl) ((hu.ro (j:=9) rfl).2 _ hm2) hgr.ok.pk.nd (hPx _ hm2) hdl)) ?_;refine Dd (Qc (Nz 3 ?_));refine We 0 ?_;refine We 0 ?_;refine We 0 ?_;refine Wk 0 Po ?_;refine Wp ?_ ?_<;>intro hc6
  ·have hcc:(dOf X.xs d.l) (nth acc s.1).x<0∨(dOf X.xs d.l) (nth (y::acc) s.1).x≤(dOf X.xs d.l) (nth acc s.1).x:=by first|exact hc6|simpa using hc6
   rw[if_pos hcc]at hst;refine Ny 1 ?_;refine Wk 1 Za ?_;refine Wd (Qb (Qc (Ny 0 ?_)));refine Wk 1 Za ?_;refine Wd ?_;refine QS.sel [1,1,1,1,1,1,1,1,1,1] rfl ?_;exact QS.head ((s.1+1,s.2+1)) rfl rfl ⟨⟨by simp;omega,by simp;omega,by simp;omega,by simp;omega,by simp only;rw[UW hs1];omega⟩,by simp;omega⟩
  have hcc:¬((dOf X.xs d.l) (nth acc s.1).x<0∨(dOf X.xs d.l) (nth (y::acc) s.1).x≤(dOf X.xs d.l) (nth acc s.1).x):=by first|exact hc6|simpa using hc6
  rw[if_neg hcc]at hst;refine Ck (Qb (Qc (Ny 0 ?_)));refine Wk 1 Za ?_;refine Wd ?_;refine QS.sel [1,1,1,1,1,1,1,1,1,1] rfl ?_;exact QS.head ((s.1+1,s.2)) rfl rfl ⟨⟨by simp;omega,by simp;omega,by simp;omega,by simp;omega,by simp only;rw[UW hs1];omega⟩,by simp;omega⟩
 refine Cv (Qe (Qe (Qx (Qc (Nz 3 ?_)))));exact Wd (Qc (Cr (out2 rfl rfl rfl (fun u hu=>⟨s.2,⟨hs3,by omega,d.l,hd,by rw[←hXp2,←hyx,hpp,←hs5,List.drop_of_length_le (by omega)];simp[Ev]⟩,rfl,hu.below⟩))))
def ToE (E:List EdgeD) (m:Move) (at_ k to:Int):Prop:=(to=at_∧∀j:Int,0≤j→j<k→(nth E j).m≠m)∨∃j:Int,0≤j∧j<k∧(nth E j).m=m∧to=(nth E j).to
theorem ToE.miss {E:List EdgeD} {m:Move} {a k to:Int} (h:¬(nth E k).m=m) (ht:ToE E m a k to):ToE E m a (k+1) to:=by
 rcases ht with⟨h1,h2⟩|⟨j,j0,j1,j2,j3⟩
 ·refine .inl ⟨h1,fun j j0 j1=>?_⟩
  by_cases hj:j=k
  ·rw[hj];exact h
  exact h2 j j0 (by omega)
 exact .inr ⟨j,j0,by omega,j2,j3⟩
theorem ToE.end_ {G:Game} {x0:PX} {ps:List PX} {es:List (List EdgeD)} (h:GrAll G.p x0 ps es) {x:PX} (hx:x∈ps) {m:Move} (hm:m∈Ai G.p x) {to:Int} (ht:ToE (nth es (idxI ps x)) m (idxI ps x) (nth es (idxI ps x)).length to):to=idxI ps (AM G.p x m):=by
 obtain⟨a,b,c⟩:=F2 hx;have hk:=h.ok.es (idxI ps x) a (by rw[h.len];exact b);rw[c]at hk;rcases ht with⟨_,h2⟩|⟨j,j0,j1,j2,j3⟩
 ·rw[←hk.mv]at hm;obtain⟨e,he,rfl⟩:=List.mem_map.1 hm;obtain⟨q,hq,rfl⟩:=List.getElem_of_mem he;have h9:=LN (xs:=nth es (idxI ps x)) (i:=(q:Int)) (by omega) (by omega);rw[show((q:Int)).toNat=q by omega,List.getElem?_eq_getElem hq]at h9;exact absurd (by rw[←Option.some.inj h9]) (h2 q (by omega) (by omega))
 obtain⟨t0,t1,t2⟩:=hk.to _ (Ad j0 j1);rw[j2]at t2;rw[j3];exact(GM h.ok.pk.nd t0 t1 t2).symm
def WErr (P:GP) (l:List Entr):Int:=if(AC P l).1=0 then(Af P).1 else(AC P l).1
def WRes (P:GP) (l:List Entr) (n:Int):Prop:=(WErr P l=0→0≤n∧n≤500∧∃d:List Int,K8 P (Af P).2.1 (Af P).2.2 d∧n=Ev (dOf (Af P).2.1 d) (Ac P).2 (CU P l (A4 P)))∧(¬WErr P l=0→n=0)
theorem WRes.uniq {P:GP} {l:List Entr} {a b:Int} (h:WRes P l a) (h2:WRes P l b):a=b:=by
 by_cases hz:WErr P l=0
 ·obtain⟨_,_,d,hd,e1⟩:=h.1 hz;obtain⟨_,_,d2,hd2,e2⟩:=h2.1 hz;rw[e1,e2,hd.uniq hd2]
 rw[h.2 hz,h2.2 hz]
theorem WErr.no {P:GP} {l:List Entr} (h:¬(AC P l).1=0):WErr P l=(AC P l).1:=if_neg h
theorem WErr.yes {P:GP} {l:List Entr} (h:(AC P l).1=0):WErr P l=(Af P).1:=if_pos h
theorem WErr.ok {P:GP} {l:List Entr} (h:WErr P l=0):(AC P l).1=0∧(Af P).1=0:=by
 by_cases h0:(AC P l).1=0
 ·exact⟨h0,by rwa [WErr.yes h0]at h⟩
 rw[WErr.no h0]at h;exact absurd h h0
theorem WRes.zero {P:GP} {l:List Entr} (h:¬WErr P l=0):WRes P l 0:=⟨fun q=>absurd q h,fun _=>rfl⟩
theorem RO (G:Game) (w:World) (hG:GameOk w G) (hn:NearG G) (g:Sl ByteArray) (hW:GOk w g) (ht:Lib.TabIs prog w "internal/strconv.uint64pow10" .u64 Lib.pow10Tab) (l:Sl Entr) (hk:SlT cEntry w l):Calls prog 11 #[.agg (gcl G).toArray,l.v] w (fun e w'=>∃n:Int,WRes G.p l.l n∧RetB w (.tuple #[.int .i64 n,.int .i64 (WErr G.p l.l)]) e w'):=by
 by_cases hE:(AC G.p l.l).1=0
 ·by_cases hX:(Af G.p).1=0
  ·refine(Oy G w hG hn g hW ht l hk hE hX).mono ?_;rintro e w' ⟨n,h1,h2⟩;exact⟨n,⟨fun _=>h1,fun q=>absurd (by rw[WErr.yes hE];exact hX) q⟩,by rw[WErr.yes hE,hX];exact h2⟩
  refine(QP G w hG hn g hW ht l hk hE hX).mono ?_;rintro e w' h2;exact⟨0,WRes.zero (by rw[WErr.yes hE];exact hX),by rw[WErr.yes hE];exact h2⟩
 by_cases hB:(Ac G.p).1=0
 ·refine(Oz G w hG hn g hW ht l hk hE hB).mono ?_;rintro e w' h2;exact⟨0,WRes.zero (by rw[WErr.no hE];exact hE),by rw[WErr.no hE];exact h2⟩
 refine(RF G w hG hn g hW ht l hk hB).mono ?_;rintro e w' h2;exact⟨0,WRes.zero (by rw[WErr.no hE];exact hE),by rw[WErr.no hE,O4 hB];exact h2⟩
theorem SW (G:Game) (w:World) (hG:GameOk w G):
  Calls prog 5 #[.agg (gcl G).toArray] w (fun e w'=>∃b:Bool,(b=false→clB (NearG G)=true)∧RetB w (.bool b) e w'):=by
 have klk:=hG.lks;have llk:=hG.lks.le;have kcd:=hG.cds;have lcd:=hG.cds.le;have knt:=hG.nts;have lnt:=hG.nts.le;have kpl:=hG.rm.pls;have lpl:=hG.rm.pls.le;have kth:=hG.rm.ths;have lth:=hG.rm.ths.le;have kac:=hG.rm.acs;have lac:=hG.rm.acs.le;have o1:=Sl.one hG.rm.pls;have o2:=Sl.one hG.rm.ths;have o3:=Sl.one hG.rm.prs;have o4:=Sl.one hG.rm.wys;have o5:=Sl.one hG.rm.acs;have o6:=Sl.one hG.rm.aus;have o7:=Sl.one hG.rm.gl;have o8:=Sl.one hG.lks;have o9:=Sl.one hG.cds;have o10:=Sl.one hG.nts;have kpr:=hG.rm.prs;have lpr:=hG.rm.prs.le;have kau:=hG.rm.aus;have lau:=hG.rm.aus.le;refine En func5 ?_;refine Nz 0 ?_;refine Wr 1 fun b1 hb1=>?_;refine Nx 1 ?_;refine Wk 0 (Bc 0) ?_;refine Wq 0 zv31 fun b3 hb3=>?_;refine Wv 0 0 ?_;refine Nv 0 ?_;refine Wk 0 (Bb 1) ?_;refine Wk 1 (Cb rfl rfl Xg (fun u hu=>UO G u (hG.st hu))) ?_;refine We 0 ?_;refine Wf 0 rfl rfl (fun hg=>Cb rfl (ec_ (eg_ hg rfl) en_) Ya (fun u hu=>JS G u (hG.st hu) (EJ.1 (by simpa [bq]using hg)))) ?_;refine We 0 ?_;refine Wk 0 Po ?_;refine Wp ?_ ?_<;>intro hc1
 ·refine Nz 0 ?_;refine Wk 0 (Bb 1) ?_;refine Wk 1 (Cb rfl rfl Xg (fun u hu=>UO G u (hG.st hu))) ?_;exact Wd (Qc (Cr (Qr (out1 rfl rfl (fun u hu=>⟨_,fun h=>by simpa using h,rfl,hu.below⟩)))))
 have hn:NearG G:=EJ.1 hc1.1;refine Ck (Qc (Cs (Nz 1 ?_)));refine Wk 0 (Ba 0) ?_;refine Wk 2 Nc ?_;refine We 0 ?_;refine We 0 ?_;refine We 0 ?_;refine We 0 ?_;refine Wk 1 Po ?_;refine We 0 ?_;refine We 0 ?_;refine We 0 ?_;refine We 0 ?_;refine Wk 1 Po ?_;refine We 0 ?_;refine We 0 ?_;refine We 0 ?_;refine Wk 1 Po ?_;refine We 0 ?_;refine We 0 ?_;refine We 0 ?_;refine We 0 ?_;refine Wk 1 Po ?_;refine We 0 ?_;refine We 0 ?_;refine We 0 ?_;refine We 0 ?_;refine Wk 1 Po ?_;refine We 0 ?_;refine We 0 ?_;refine We 0 ?_;refine We 0 ?_;refine Wk 1 Po ?_;refine We 0 ?_;refine We 0 ?_;refine We 0 ?_;refine We 0 ?_;refine Wk 0 Po ?_;refine Wp ?_ ?_<;>intro hc2
 ·refine Nz 1 ?_;exact Wd (Qc (Cr (Qr (out1 rfl rfl (fun u hu=>⟨true,fun h=>(Bool.noConfusion h),rfl,hu.below⟩)))))
 refine Ck (Qc (Nz 0 ?_));refine Wk 0 (Bb 1) ?_;refine Wc rfl rfl Jau (fun u hu=>Oi G u (hG.st hu) hn) (fun _=>rfl) ?_;rintro X ⟨hXv,uX,hX⟩;have oXp:=Sl.one hX.ps;have oXe:=Sl.one hX.es;refine Wz 3 ?_;refine Wq 0 zv69 fun b4 hb4=>?_;refine Wv 1 0 ?_;refine Nx 3 ?_;refine We 0 ?_;refine We 0 ?_;refine Wf 0 rfl rfl (fun hg=>Gs (s:=X.ps) sl66 (eg_ hg rfl) hX.ps) ?_;refine We 0 ?_;refine Wk 1 Po ?_;exact Wd (Qc (Cr (out1 rfl rfl (fun u hu=>⟨_,fun _=>EJ.2 hn,rfl,hu.below⟩))))
end Go.Proofs.YtmoojmgihdgceaaGreatDoor
