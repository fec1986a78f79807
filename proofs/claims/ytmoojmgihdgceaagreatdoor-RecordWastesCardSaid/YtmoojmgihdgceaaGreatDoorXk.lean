/- Merged texts of this proof (walks and plain laws), printed by a program of the prover. -/
import Derived.Test.YtmoojmgihdgceaaGreatDoorXj
import Derived.Test.YtmoojmgihdgceaaGreatDoorXd
set_option maxHeartbeats 8000000
namespace Go.Proofs.YtmoojmgihdgceaaGreatDoor
open Go.RowKit Go.Proofs Tryz
set_option maxRecDepth 100000
set_option linter.unusedVariables false
set_option linter.unusedSimpArgs false
def Jpz (b7 b6 fb:Nat) (y:Pos) (acc:List Pos):SA:=exS fun v:Value=>star [blk b7 [v] 66,oT cPos 98 v (y::acc),blk b6 [.pointer (some ⟨fb,0,none⟩)] 90]
theorem St.pathI {n0:Nat} {w0 u:World} {L:List SA} {b7 b6 fb:Nat} {y:Pos} {acc:List Pos} {v:Value} (h:St n0 w0 (YtmoojmgihdgceaaGreatDoor.blk b7 [v] 66::oT cPos 98 v (y::acc)::YtmoojmgihdgceaaGreatDoor.blk b6 [.pointer (some ⟨fb,0,none⟩)] 90::L) u):St n0 w0 (Jpz b7 b6 fb y acc::L) u:=
 St.exI (f:=fun v:Value=>YtmoojmgihdgceaaGreatDoor.star [YtmoojmgihdgceaaGreatDoor.blk b7 [v] 66,oT cPos 98 v (y::acc),YtmoojmgihdgceaaGreatDoor.blk b6 [.pointer (some ⟨fb,0,none⟩)] 90]) v (St.pack (L1:=[_,_,_]) h)
theorem Jm7 {w u:World} (R:SA) (G:Game) (b7 b6 fb:Nat) (y:Pos) (acc:List Pos) (z:Pos) (f:Film) (hzx:z.x=f.x) (hac:acc.length≤1000) (hu:St w.heap.size w [blk fb (fcl G z f) 100,(roS fun u=>PosOk u z∧∀p∈y::acc,PosOk u p),Jpz b7 b6 fb y acc,R] u):
  Calls prog 32 #[.pointer (some ⟨b7,0,none⟩),.pointer (some ⟨b6,0,none⟩)] u (fun e u'=>e = .returned (.tuple #[])∧St w.heap.size w [blk fb (fcl G z f) 100,(roS fun u=>PosOk u z∧∀p∈y::(acc++[z]),PosOk u p),Jpz b7 b6 fb y (acc++[z]),R] u'):=by
 obtain⟨v,hu2⟩:=(hu.sel [2,0,0,0] rfl).ex;have hu3:=hu2.unpack;refine Ei hu3 func32 ?_;refine CS.drawnTill 6 (k:=8) mixed rfl rfl ?_;refine Tk 8 0 [] rfl (Ba 0) ?_;refine Tk 8 1 [2,3] rfl (Ba 2) ?_;refine Tk 8 4 [] rfl (Bc 3) ?_;refine To 5 rfl ?_;refine WS.buildT1 cPos (a:=z) sl66 zv98 rfl (by decide) (fun _=>rfl) ?_;intro v7;refine Wd (Qt ?_);refine To 6 rfl ?_;refine WS.known (fun u hu=>(show PosOk u z from(hu.ro (j:=5) rfl).1).one4) fun hz4=>?_;refine WS.appendT2 (C:=cPos) (a:=z) (j:=2) (jz:=0) sl66 zv98 rfl (by decide) rfl rfl rfl rfl hz4 (by simp;omega) (by simp;omega) (fun _=>rfl) (fun _=>rfl) ?_;intro v8 hv8;refine Wd (Qt ?_);refine To 7 rfl ?_;refine Ws 0 1 ?_;refine Wd (Qt ?_);refine Te ?_;exact out0 (Or.inr rfl) rfl (fun u hu=>⟨rfl,(((hu.sel [1,1,1,1,1,1] rfl).pathI (acc:=acc++[z])).sel [1,1,0,0] rfl).seenK⟩)
theorem J3g (p q:Pos) (b3:Nat) (e:TypeId) (w:World) (hb:BlkAt w b3 [p.st.ths.v,p.st.prs.v,p.st.pls.v,p.rd.v] e) (hp:PosOk w p) (hq:PosOk w q):
  Calls prog 37 #[.agg #[q.st.ths.v,q.st.prs.v,q.st.pls.v,q.rd.v],.pointer (some ⟨b3,0,none⟩)] w (RetB w (.bool (decide (p.x=q.x)))):=by
 refine En func37 ?_;refine Nz 0 ?_;refine Wr 1 fun b2 hb2=>?_;refine Nx 2 ?_;refine Wk 2 (Jdk (i:=0) rfl (fun u hu=>hb.st hu) rfl tk37) ?_;refine Wk 0 (Ba 0) ?_;refine Wk 1 (Cb rfl rfl J8d (fun u hu=>Jng p.st.ths.l q.st.ths.l _ _ u (hp.toSt hu).st.ths.ints (hq.toSt hu).st.ths.ints)) ?_;refine Wj 0 ?_;refine Wj 0 ?_;refine Wt 0 rfl rfl (fun hg=>Jdk (i:=1) (eg_ hg rfl) (fun u hu=>hb.st hu) rfl tk37) ?_;refine Wj 0 ?_;refine Wj 0 ?_;refine Wj 0 ?_;refine Wt 0 rfl rfl (fun hg=>Cb rfl (ec_ (eg_ hg rfl) (ec_ (eg_ hg rfl) en_)) J8d (fun u hu=>Jng p.st.prs.l q.st.prs.l _ _ u (hp.toSt hu).st.prs.ints (hq.toSt hu).st.prs.ints)) ?_;refine Wk 1 Pa ?_;refine Wj 0 ?_;refine Wj 0 ?_;refine Wt 0 rfl rfl (fun hg=>Jdk (i:=2) (eg_ hg rfl) (fun u hu=>hb.st hu) rfl tk37) ?_;refine Wj 0 ?_;refine Wj 0 ?_;refine Wj 0 ?_;refine Wt 0 rfl rfl (fun hg=>Cb rfl (ec_ (eg_ hg rfl) (ec_ (eg_ hg rfl) en_)) J8d (fun u hu=>Jng p.st.pls.l q.st.pls.l _ _ u (hp.toSt hu).st.pls.ints (hq.toSt hu).st.pls.ints)) ?_;refine Wk 1 Pa ?_;refine Wj 0 ?_;refine Wt 0 rfl rfl (fun hg=>Jdk (i:=3) (eg_ hg rfl) (fun u hu=>hb.st hu) rfl tk96) ?_;refine Wj 0 ?_;refine Wj 0 ?_;refine Wt 0 rfl rfl (fun hg=>Cb rfl (ec_ (eg_ hg rfl) (ec_ (eg_ hg rfl) en_)) Kew (fun u hu=>J4b p.rd q.rd u (hp.toSt hu).rd (hq.toSt hu).rd)) ?_;refine Wk 1 Pa ?_;exact Wd (Qc (Cr (out1 rfl rfl (Jab (congrArg Value.bool (by unfold Pos.x Stt.x;rw[Bool.eq_iff_iff];simp[and_assoc]))))))
theorem Jtt (X:GraphD) (d:Sl Int) (p:Pos) (b10 b11:Nat) (e10 e11:TypeId) (w:World) (h11:BlkAt w b11 [d.v] e11) (h10:BlkAt w b10 [X.ps.v,X.es.v] e10) (hX:SlT cPos w X.ps) (hd:SlT cInt w d) (hp:PosOk w p) (hnd:X.xs.Nodup) (hm:p.x∈X.xs) (hdl:d.l.length=X.ps.l.length):
  Calls prog 35 #[.agg #[p.st.ths.v,p.st.prs.v,p.st.pls.v,p.rd.v],.pointer (some ⟨b11,0,none⟩),.pointer (some ⟨b10,0,none⟩)] w (RetB w (.int .i64 (dOf X.xs d.l p.x))):=by
 have hdi:=hd.ints;have hxl:X.xs.length=X.ps.l.length:=List.length_map _;obtain⟨hn0,hn1,hn2⟩:=Jf6 hm;rw[hxl]at hn1;have hnx:∀j:Int,nth X.xs j=(nth X.ps.l j).x:=fun j=>Ji9 X.ps.l j;refine En func35 ?_;refine Nz 0 ?_;refine Wr 1 fun b3 hb3=>?_;refine Wd (Qc (Cs (Dr mixed 0 ?_)));refine Dk 1 (Jdk (i:=0) rfl (fun u hu=>h11.st hu) rfl tk37) ?_;refine Dk 0 (Jdk (i:=0) rfl (fun u hu=>h10.st hu) rfl tk66) ?_;refine Dk 0 (Jal rfl) ?_;refine Dk 0 (Cb rfl rfl Kgh (fun u hu=>J31 X.ps u (hX.st hu) 37 [.pointer (some ⟨b3,0,none⟩)] Kf8 (fun q=>decide (p.x=q.x)) (fun q u2 hb2 hq=>J3g p q b3 _ u2 ((Jaw hu (j:=0) rfl).ext hb2) ((hp.toSt hu).ext hb2) hq) (idxI X.xs p.x) ⟨hn0,hn1⟩ (fun j j0 j1=>decide_eq_false fun h=>by have h9:=Jjp hnd j0 (by omega) ((hnx j).trans h.symm);omega) (decide_eq_true (by rw[←hnx];exact hn2.symm)))) ?_;refine Dk 0 Xa ?_;refine Dk 1 Ia ?_;exact Dd (Qc (Cr (out1 rfl rfl (Jab rfl))))
theorem St.run0 {n0:Nat} {w0 u:World} {T R:SA} {b7 b6 fb:Nat} {y:Pos} {v:Value} (h:St n0 w0 [YtmoojmgihdgceaaGreatDoor.blk b7 [v] 66,oT cPos 98 v [y],YtmoojmgihdgceaaGreatDoor.blk b6 [.pointer (some ⟨fb,0,none⟩)] 90,T,(roS fun u=>PosOk u y),R] u):
  St n0 w0 [T,(roS fun u=>PosOk u y∧∀p∈y::[],PosOk u p),Jpz b7 b6 fb y [],R] u:=
 ((St.roMap (q:=fun u=>PosOk u y∧∀p∈y::[],PosOk u p) (fun _ hu=>⟨hu,fun p hp=>by rw[List.mem_singleton.1 hp];exact hu⟩) ((h.pathI (acc:=[])).sel [2,0,0,0] rfl)).sel [2,0,0,0] rfl)
theorem J7z {u:World} {v:Value} {y:Pos} {acc:List Pos} (h:SlT cPos u ⟨v,y::acc⟩):SlT cPos u ⟨sub2 4 v 1 (y::acc).length,acc⟩:=by
 have h9:=h.cut (lo:=1) (hi:=(y::acc).length) (by simp) (Nat.le_refl _)
 have h8:SlT cPos u ⟨sub2 cPos.k v 1 (acc.length+1),acc⟩:=by
  unfold Sl.cut at h9
  simpa using h9
 exact h8
theorem Jtb {P:Program} {n0:Nat} {w0:World} {L:List SA} {l:List Value} {d:Option Tmp} {ty:TypeId} {ps:String} {af:Array Edge} {g:Option (Nat×Bool)} {T:TypeId} {x:Operand} {v:Value} {xs:List Pos} {i:Int} (hC:∀u,St n0 w0 L u→SlT cPos u ⟨v,xs⟩)
  (hx:evo l x=some (.pointer (some (sla v (i.toNat*4))))) (h:0≤i∧i<xs.length) (hT:tk P T=some (true,4)):Det P (St n0 w0 L) ⟨d,.load T x,ty,ps,af,g⟩ l (.agg #[(nth xs i).st.ths.v,(nth xs i).st.prs.v,(nth xs i).st.pls.v,(nth xs i).rd.v]):=by
 show Det P _ _ l (.agg (cPos.cells (nth xs i)).toArray);refine Jc4 hx (fun u hu=>(hC u hu).sp) (fun f y hy=>?_) (by rw[cPos.len];exact hT);have hf:f<4:=by have:=(List.getElem?_eq_some_iff.1 hy).1;rwa [cPos.len]at this
 exact(Jcb cPos h.1 h.2 f hf).trans hy
abbrev Kb0 (G:Game) (l:List Entr) (n:Int):Prop:=0≤n∧n≤500∧∃d:List Int,Jvo G d∧n=Je6 (dOf (Jai G.p).2.1 d) (Jad G.p).2 (Jek G.p l (Jbg G.p))
theorem Ju2 {δ:PX→Int} {x:PX} {l:List Pos} {i:Int} (h0:0≤i) (h1:i<l.length):Je6 δ x ((l.drop i.toNat).map Pos.x)=(if δ (nth l i).x<0∨δ x≤δ (nth l i).x then 1 else 0)+Je6 δ (nth l i).x ((l.drop (i+1).toNat).map Pos.x):=by
 rw[Ja0 h0 h1];rfl
theorem J49 {y:Pos} {l:List Pos} {i:Int} (h0:0≤i):nth (y::l) (i+1)=nth l i:=by
 unfold nth;rw[show(i+1).toNat=i.toNat+1 by omega];rfl
theorem J03 (G:Game) (w:World) (hG:GameOk w G) (hn:NearG G) (g:Sl ByteArray) (hW:GOk w g) (ht:Lib.TabIs prog w "internal/strconv.uint64pow10" .u64 Lib.pow10Tab) (l:Sl Entr) (hk:SlT cEntry w l) (hB:¬(Jad G.p).1=0):
  Calls prog 11 #[.agg (gcl G).toArray,l.v] w (RetB w (.tuple #[.int .i64 0,.int .i64 (Jad G.p).1])):=by
 refine En func11 ?_;refine Nz 0 ?_;refine Wr 2 fun b2 hb2=>?_;refine Nx 0 ?_;refine Wk 0 (Bb 0) ?_;refine Wk 3 (Cb rfl rfl Jmp (fun u hu=>Jjo G u (hG.st hu) hn g (hW.st hu) hB)) ?_;refine Wq 0 zv90 fun b6 hb6=>?_;refine Ws 1 0 ?_;refine Nv 2 ?_;refine Wp ?_ ?_<;>intro hc1
 ·refine Nz 3 ?_;exact Wd (Qc (Cr (Qr (out2 rfl rfl rfl (Jab rfl)))))
 exact absurd hc1 hB
theorem J0b (G:Game) (w:World) (hG:GameOk w G) (hn:NearG G) (g:Sl ByteArray) (hW:GOk w g) (ht:Lib.TabIs prog w "internal/strconv.uint64pow10" .u64 Lib.pow10Tab) (l:Sl Entr) (hk:SlT cEntry w l) (hE:¬(Jau G.p l.l).1=0) (hB:(Jad G.p).1=0):
  Calls prog 11 #[.agg (gcl G).toArray,l.v] w (RetB w (.tuple #[.int .i64 0,.int .i64 (Jau G.p l.l).1])):=by
 refine En func11 ?_;refine Nz 0 ?_;refine Wr 2 fun b2 hb2=>?_;refine Nx 0 ?_;refine Wk 0 (Bb 0) ?_;refine Wc rfl rfl Jmp (fun u hu=>Jet G u (hG.st hu) hn g (hW.st hu) hB) (fun _=>rfl) ?_;rintro⟨fb,y⟩ ⟨hyx,uy,hyok⟩;refine WS.unpack ?_;refine Wz 3 ?_;refine Wq 0 zv90 fun b6 hb6=>?_;refine Ws 1 0 ?_;refine Nv 2 ?_;refine Wp ?_ ?_<;>intro hc1
 ·exact absurd trivial hc1
 refine Ck (Qc (Nz 0 ?_));refine Wk 2 (Ba 0) ?_;refine Wk 0 (Bc 1) ?_;refine WS.buildT1 cPos (a:=y) sl66 zv98 rfl (by decide) (fun _=>rfl) ?_;intro v29;refine WS.oc (j:=0) rfl (fun hv29=>?_);refine Wq 0 zv66 fun b7 hb7=>?_;refine Ws 0 0 ?_;refine Nv 0 ?_;refine Wk 1 (Ba 2) ?_;refine Wk 0 (Jal rfl) ?_;refine WS.sel [0,0,0,0,0,0] rfl ?_;refine WS.weak (fun u hu=>St.run0 hu) ?_;refine WS.callS rfl rfl Jz1 (fun u hu=>Jw7 _ (Jpz b7 b6 fb y) G hG hn g hW fb y hyx hB l hk 32 [.pointer (some ⟨b7,0,none⟩),.pointer (some ⟨b6,0,none⟩)] J9b (fun acc z f u hzx hq hac hu=>Jm7 _ G b7 b6 fb y acc z f hzx hac hu) hu) (fun _=>rfl) ?_;rintro⟨y2,f2,acc⟩ ⟨hy2x,⟨uy2,hy2ok⟩,hfin⟩;dsimp only at hfin hy2x hy2ok;refine WS.sel [2,0,0,0] rfl ?_;refine WS.ex ?_;intro v70;refine WS.unpack ?_;refine WS.known (p:=∀p∈y::acc,∀v∈[p.st.ths.v,p.st.prs.v,p.st.pls.v,p.rd.v],v.oneCell'=true) (fun u hu=>fun p hp=>((hu.ro (j:=4) rfl).2 p hp).one4) fun hP4=>?_;refine Wz 5 ?_;refine Nx 2 ?_;refine Wp ?_ ?_<;>intro hc2
 ·refine Nz 3 ?_;exact Wd (Qc (Cr (Qr (out2 rfl rfl rfl retB))))
 exact absurd hc2 hE
theorem Jzk (G:Game) (w:World) (hG:GameOk w G) (hn:NearG G) (g:Sl ByteArray) (hW:GOk w g) (ht:Lib.TabIs prog w "internal/strconv.uint64pow10" .u64 Lib.pow10Tab) (l:Sl Entr) (hk:SlT cEntry w l) (hE:(Jau G.p l.l).1=0) (hX0:¬(Jai G.p).1=0):
  Calls prog 11 #[.agg (gcl G).toArray,l.v] w (RetB w (.tuple #[.int .i64 0,.int .i64 (Jai G.p).1])):=by
 have hB:=(Jg4 hE).1;refine En func11 ?_;refine Nz 0 ?_;refine Wr 2 fun b2 hb2=>?_;refine Nx 0 ?_;refine Wk 0 (Bb 0) ?_;refine Wc rfl rfl Jmp (fun u hu=>Jet G u (hG.st hu) hn g (hW.st hu) hB) (fun _=>rfl) ?_;rintro⟨fb,y⟩ ⟨hyx,uy,hyok⟩;refine WS.unpack ?_;refine Wz 3 ?_;refine Wq 0 zv90 fun b6 hb6=>?_;refine Ws 1 0 ?_;refine Nv 2 ?_;refine Wp ?_ ?_<;>intro hc1
 ·exact absurd trivial hc1
 refine Ck (Qc (Nz 0 ?_));refine Wk 2 (Ba 0) ?_;refine Wk 0 (Bc 1) ?_;refine WS.buildT1 cPos (a:=y) sl66 zv98 rfl (by decide) (fun _=>rfl) ?_;intro v29;refine WS.oc (j:=0) rfl (fun hv29=>?_);refine Wq 0 zv66 fun b7 hb7=>?_;refine Ws 0 0 ?_;refine Nv 0 ?_;refine Wk 1 (Ba 2) ?_;refine Wk 0 (Jal rfl) ?_;refine WS.sel [0,0,0,0,0,0] rfl ?_;refine WS.weak (fun u hu=>St.run0 hu) ?_;refine WS.callS rfl rfl Jz1 (fun u hu=>Jw7 _ (Jpz b7 b6 fb y) G hG hn g hW fb y hyx hB l hk 32 [.pointer (some ⟨b7,0,none⟩),.pointer (some ⟨b6,0,none⟩)] J9b (fun acc z f u hzx hq hac hu=>Jm7 _ G b7 b6 fb y acc z f hzx hac hu) hu) (fun _=>rfl) ?_;rintro⟨y2,f2,acc⟩ ⟨hy2x,⟨uy2,hy2ok⟩,hfin⟩;dsimp only at hfin hy2x hy2ok;refine WS.sel [2,0,0,0] rfl ?_;refine WS.ex ?_;intro v70;refine WS.unpack ?_;refine WS.known (p:=∀p∈y::acc,∀v∈[p.st.ths.v,p.st.prs.v,p.st.pls.v,p.rd.v],v.oneCell'=true) (fun u hu=>fun p hp=>((hu.ro (j:=4) rfl).2 p hp).one4) fun hP4=>?_;refine Wz 5 ?_;refine Nx 2 ?_;refine Wp ?_ ?_<;>intro hc2
 ·exact absurd hE hc2
 refine Ck (Qc (Nz 0 ?_));refine Wk 0 (Bb 5) ?_;refine Wc rfl rfl Kai (fun u hu=>Jl8 G u (hG.st hu) hn g (hW.st hu) (Jlf ht hu)) (fun _=>rfl) ?_;rintro X ⟨hXv,uX,hX⟩;have oXp:=Sl.one hX.ps;have oXe:=Sl.one hX.es;refine Wz 3 ?_;refine Wq 0 zv69 fun b10 hb10=>?_;refine Wv 1 0 ?_;refine Nv 2 ?_;refine Wp ?_ ?_<;>intro hc3
 ·refine Nz 3 ?_;exact Wd (Qc (Cr (Qr (out2 rfl rfl rfl retB))))
 exact absurd hc3 hX0
theorem Jxz (G:Game) (w:World) (hG:GameOk w G) (hn:NearG G) (g:Sl ByteArray) (hW:GOk w g) (ht:Lib.TabIs prog w "internal/strconv.uint64pow10" .u64 Lib.pow10Tab) (l:Sl Entr) (hk:SlT cEntry w l) (hE:(Jau G.p l.l).1=0) (hX0:(Jai G.p).1=0):
  Calls prog 11 #[.agg (gcl G).toArray,l.v] w (fun e w'=>∃n:Int,Kb0 G l.l n∧RetB w (.tuple #[.int .i64 n,.int .i64 0]) e w'):=by
 have hB:=(Jg4 hE).1;refine En func11 ?_;refine Nz 0 ?_;refine Wr 2 fun b2 hb2=>?_;refine Nx 0 ?_;refine Wk 0 (Bb 0) ?_;refine Wc rfl rfl Jmp (fun u hu=>Jet G u (hG.st hu) hn g (hW.st hu) hB) (fun _=>rfl) ?_;rintro⟨fb,y⟩ ⟨hyx,uy,hyok⟩;refine WS.unpack ?_;refine Wz 3 ?_;refine Wq 0 zv90 fun b6 hb6=>?_;refine Ws 1 0 ?_;refine Nv 2 ?_;refine Wp ?_ ?_<;>intro hc1
 ·exact absurd trivial hc1
 refine Ck (Qc (Nz 0 ?_));refine Wk 2 (Ba 0) ?_;refine Wk 0 (Bc 1) ?_;refine WS.buildT1 cPos (a:=y) sl66 zv98 rfl (by decide) (fun _=>rfl) ?_;intro v29;refine WS.oc (j:=0) rfl (fun hv29=>?_);refine Wq 0 zv66 fun b7 hb7=>?_;refine Ws 0 0 ?_;refine Nv 0 ?_;refine Wk 1 (Ba 2) ?_;refine Wk 0 (Jal rfl) ?_;refine WS.sel [0,0,0,0,0,0] rfl ?_;refine WS.weak (fun u hu=>St.run0 hu) ?_;refine WS.callS rfl rfl Jz1 (fun u hu=>Jw7 _ (Jpz b7 b6 fb y) G hG hn g hW fb y hyx hB l hk 32 [.pointer (some ⟨b7,0,none⟩),.pointer (some ⟨b6,0,none⟩)] J9b (fun acc z f u hzx hq hac hu=>Jm7 _ G b7 b6 fb y acc z f hzx hac hu) hu) (fun _=>rfl) ?_;rintro⟨y2,f2,acc⟩ ⟨hy2x,⟨uy2,hy2ok⟩,hfin⟩;dsimp only at hfin hy2x hy2ok;refine WS.sel [2,0,0,0] rfl ?_;refine WS.ex ?_;intro v70;refine WS.unpack ?_;refine WS.known (p:=∀p∈y::acc,∀v∈[p.st.ths.v,p.st.prs.v,p.st.pls.v,p.rd.v],v.oneCell'=true) (fun u hu=>fun p hp=>((hu.ro (j:=4) rfl).2 p hp).one4) fun hP4=>?_;refine Wz 5 ?_;refine Nx 2 ?_;refine Wp ?_ ?_<;>intro hc2
 ·exact absurd hE hc2
 refine Ck (Qc (Nz 0 ?_));refine Wk 0 (Bb 5) ?_;refine Wc rfl rfl Kai (fun u hu=>Jl8 G u (hG.st hu) hn g (hW.st hu) (Jlf ht hu)) (fun _=>rfl) ?_;rintro X ⟨hXv,uX,hX⟩;have oXp:=Sl.one hX.ps;have oXe:=Sl.one hX.es;refine Wz 3 ?_;refine Wq 0 zv69 fun b10 hb10=>?_;refine Wv 1 0 ?_;refine Nv 2 ?_;refine Wp ?_ ?_<;>intro hc3
 ·exact absurd hX0 hc3
 refine Ck (Qc (Nz 0 ?_));refine Wk 0 (Bb 7) ?_;refine Wc rfl rfl Ke0 (fun u hu=>J6l G u (hG.st hu) hn g (hW.st hu) (Jlf ht hu) hX0) (fun _=>rfl) ?_;rintro d ⟨hd,ud,hdk⟩;have od:=Sl.one hdk;have hXp2:X.xs=(Jai G.p).2.1:=congrArg Prod.fst hXv;have hXe2:X.ed=(Jai G.p).2.2:=congrArg Prod.snd hXv;have hgr:GrAll G.p (Jad G.p).2 X.xs X.ed:=by rw[hXp2,hXe2];exact(Jho hX0).2
 have hd2:Jmt G.p X.xs X.ed d.l:=by rw[hXp2,hXe2];exact hd
 have hxl:X.xs.length=X.ps.l.length:=List.length_map _;have hdl:d.l.length=X.ps.l.length:=by rw[hd2.len,hgr.len,hxl]
 obtain⟨hff,hpp⟩:=hfin hE;have hwy:WayF G.p y.x (acc.map Pos.x):=by rw[←hpp,hyx];obtain⟨_,_,f9,hr9,_⟩:=Jg4 hE;exact Jja _ _ _ (Jbg G.p) f9 (Jcz hB) hr9
 have hy0:y.x∈X.xs:=by rw[hyx,←hgr.ok.pk.first];exact Jac (by omega) (by have:=hgr.ok.pk.pos;omega)
 have hPx:∀p∈y::acc,p.x∈X.xs:=fun p hp=>by
  rcases List.mem_cons.1 hp with rfl|hp
  ·exact hy0
  exact hgr.way_mem _ _ hy0 hwy _ (List.mem_map.2 ⟨p,hp,rfl⟩)
 have hal:acc.length≤500:=by
  obtain⟨_,h8,f9,hr9,_⟩:=Jg4 hE;have h7:=Jnp _ _ _ _ _ hr9;rw[hpp,List.length_map]at h7;have h6:=List.length_filter_le (fun e:Entr=>decide (e.k=1)) l.l;omega
 refine Wz 3 ?_;refine Wq 0 zv37 fun b11 hb11=>?_;refine Ws 1 0 ?_;refine Nv 2 ?_;refine Wp ?_ ?_<;>intro hc4
 ·exact absurd trivial hc4
 refine Ck (Qc (Nz 0 ?_));refine Wk 1 (Jal rfl) ?_;refine Nv 0 ?_;refine Wk 0 (Ba 4) ?_;refine Wk 0 (Jj4 sl66 rfl rfl (j:=5) rfl (by decide) (by simp;omega)) ?_;refine Wk 1 (fun u hu=>Jbt sl66 rfl (J7z (Jds hu (j:=5) rfl (hu.ro (j:=8) rfl).2)).sp u hu) ?_;refine Nu ?_;refine CS.loopM (σ:=Int×Int) (rsL [13,16,61,83]) (fun s=>[(60,.int .i64 s.1),(4,.int .i64 s.2)]) (fun _=>_) (fun s=>0≤s.1∧s.1≤acc.length∧0≤s.2∧s.2≤s.1∧s.2+Je6 (dOf X.xs d.l) (nth (y::acc) s.1).x ((acc.drop s.1.toNat).map Pos.x)=Je6 (dOf X.xs d.l) y.x (acc.map Pos.x)) (fun s=>(acc.length-s.1).toNat) (0,0) (fun _ _=>rfl) rfl rfl ⟨by simp,by simp,by simp,by simp,by simp;rfl⟩ ?_;intro s t hs;obtain⟨hs1,hs2,hs3,hs4,hs5⟩:=hs;refine Nz 1 ?_;refine Wd (Qc (Cs (Cn ?_ ?_)))<;>intro hc5
 ·have hia:s.1<acc.length:=by first|exact hc5|(simp at hc5;omega)
  have hm1:nth (y::acc) s.1∈y::acc:=Jac hs1 (by simp;omega);have hm2:nth acc s.1∈y::acc:=List.mem_cons_of_mem _ (Jac hs1 hia);obtain⟨hza,hzb,hzc,hzd⟩:(nth acc s.1).st.ths.v.oneCell'=true∧(nth acc s.1).st.prs.v.oneCell'=true∧(nth acc s.1).st.pls.v.oneCell'=true∧(nth acc s.1).rd.v.oneCell'=true:=⟨hP4 _ hm2 _ (by simp),hP4 _ hm2 _ (by simp),hP4 _ hm2 _ (by simp),hP4 _ hm2 _ (by simp)⟩;have hst:=Ju2 (δ:=(dOf X.xs d.l)) (x:=(nth (y::acc) s.1).x) hs1 hia;refine Ck (Qc (Cs (Ce (Nz 1 ?_))));refine Wk 0 (fun u hu=>Jcs sl66 rfl rfl (J7z (Jds hu (j:=5) rfl (hu.ro (j:=8) rfl).2)).sp (by omega) (by omega) u hu) ?_;refine Wk 0 (Jtb (xs:=acc) (fun u hu=>J7z (Jds hu (j:=5) rfl (hu.ro (j:=8) rfl).2)) rfl ⟨by omega,by omega⟩ tk98) ?_;refine Wq 1 zv98 fun b14 hb14=>?_;refine Wv 0 0 ?_;refine Wd (Qc (Cs (Dr mixed 1 ?_)));refine Dk 1 (Ba 5) ?_;refine Dk 0 (fun u hu=>Jcs sl66 rfl rfl (Jds hu (j:=6) rfl (hu.ro (j:=9) rfl).2).sp (by omega) (by simp;omega) u hu) ?_;refine Dk 0 (Jtb (xs:=y::acc) (fun u hu=>(Jds hu (j:=6) rfl (hu.ro (j:=9) rfl).2)) rfl ⟨by omega,by simp;omega⟩ tk98) ?_;refine Dk 1 (Cb rfl rfl Kau (fun u hu=>Jtt X d (nth (y::acc) s.1) b10 b11 _ _ u (Jaw hu (j:=1) rfl) (Jaw hu (j:=3) rfl) (hu.ro (j:=4) rfl).ps (hu.ro (j:=2) rfl) ((hu.ro (j:=9) rfl).2 _ hm1) hgr.ok.pk.nd (hPx _ hm1) hdl)) ?_;refine Dk 0 (Bb 0) ?_;refine Dk 2 (Cb rfl rfl Kau (fun u hu=>Jtt X d (nth acc s.1) b10 b11 _ _ u (Jaw hu (j:=1) rfl) (Jaw hu (j:=3) rfl) (hu.ro (j:=4) rfl).ps (hu.ro (j:=2) rfl) ((hu.ro (j:=9) rfl).2 _ hm2) hgr.ok.pk.nd (hPx _ hm2) hdl)) ?_;refine Dd (Qc (Nz 3 ?_));refine We 0 ?_;refine We 0 ?_;refine We 0 ?_;refine Wk 0 Po ?_;refine Wp ?_ ?_<;>intro hc6
  ·have hcc:(dOf X.xs d.l) (nth acc s.1).x<0∨(dOf X.xs d.l) (nth (y::acc) s.1).x≤(dOf X.xs d.l) (nth acc s.1).x:=by first|exact hc6|simpa using hc6
   rw[if_pos hcc]at hst;refine Ny 1 ?_;refine Wk 1 Za ?_;refine Wd (Qb (Qc (Ny 0 ?_)));refine Wk 1 Za ?_;refine Wd ?_;refine QS.sel [1,1,1,1,1,1,1,1,1,1] rfl ?_;exact QS.head ((s.1+1,s.2+1)) rfl rfl ⟨⟨by simp;omega,by simp;omega,by simp;omega,by simp;omega,by simp only;rw[J49 hs1];omega⟩,by simp;omega⟩
  have hcc:¬((dOf X.xs d.l) (nth acc s.1).x<0∨(dOf X.xs d.l) (nth (y::acc) s.1).x≤(dOf X.xs d.l) (nth acc s.1).x):=by first|exact hc6|simpa using hc6
  rw[if_neg hcc]at hst;refine Ck (Qb (Qc (Ny 0 ?_)));refine Wk 1 Za ?_;refine Wd ?_;refine QS.sel [1,1,1,1,1,1,1,1,1,1] rfl ?_;exact QS.head ((s.1+1,s.2)) rfl rfl ⟨⟨by simp;omega,by simp;omega,by simp;omega,by simp;omega,by simp only;rw[J49 hs1];omega⟩,by simp;omega⟩
 refine Cv (Qe (Qe (Qx (Qc (Nz 3 ?_)))));exact Wd (Qc (Cr (out2 rfl rfl rfl (fun u hu=>⟨s.2,⟨hs3,by omega,d.l,hd,by rw[←hXp2,←hyx,hpp,←hs5,List.drop_of_length_le (by omega)];simp[Je6]⟩,rfl,hu.below⟩))))
section
variable {α:Type} [Inhabited α] {C:Cel α} {P:Program} {n0:Nat} {w0:World} {L:List SA} {l:List Value} {d:Option Tmp} {ty:TypeId} {ps:String} {af:Array Edge} {g:Option (Nat×Bool)}
theorem J2n {T:TypeId} (k j n:Nat) {x:Operand} {s:Sl α} {i:Int} {cs:List Value} (hC:∀u,St n0 w0 L u→SlT C u s) (hx:evo l x=some (.pointer (some ⟨slb s.v,slo s.v+i.toNat*k+j,none⟩))) (hk:C.k=k) (h:0≤i∧i<s.l.length) (hc:((C.cells (nth s.l i)).drop j).take n=cs) (hn:cs.length=n) (hT:tk P T=some (true,n)):
  Det P (St n0 w0 L) ⟨d,.load T x,ty,ps,af,g⟩ l (.agg cs.toArray):=by
 subst hk;refine Jc4 (m:=i.toNat*C.k+j) (by rw[hx,sla,Nat.add_assoc]) (fun u hu=>(hC u hu).sp) (fun q y hy=>?_) (by rw[hn];exact hT);rw[←hc,List.getElem?_take]at hy;split at hy
 ·rename_i hq;rw[List.getElem?_drop]at hy;have hf:j+q<C.k:=by have:=(List.getElem?_eq_some_iff.1 hy).1;rwa [C.len]at this
  rw[Nat.add_assoc];exact(Jcb C h.1 h.2 (j+q) hf).trans hy
 cases hy
theorem J3r {T:TypeId} {z:Nat} (k j:Nat) {x:Operand} {y:Value} {s:Sl α} {i:Int} (hC:∀u,St n0 w0 L u→SlT C u s) (hx:evo l x=some (.pointer (some ⟨slb s.v,slo s.v+i.toNat*k+j,none⟩))) (hk:C.k=k) (h:0≤i∧i<s.l.length) (hj:j<k) (hc:(C.cells (nth s.l i))[j]? = some y) (hT:tk P T=some (false,z)):
  Det P (St n0 w0 L) ⟨d,.load T x,ty,ps,af,g⟩ l y:=by
 subst hk;exact Jcy (k:=C.k) (m:=i.toNat*C.k+j) (by rw[hx,sla,Nat.add_assoc]) (fun u hu=>(hC u hu).sp) (by rw[Jcb C h.1 h.2 j hj];exact hc) hT
end
theorem Jvz {δ:PX→Int} {x y:PX} {r:List PX}:Je6 δ x (y::r)=(if δ y<0∨δ x≤δ y then 1 else 0)+Je6 δ y r:=rfl
def ToE (E:List EdgeD) (m:Move) (at_ k to:Int):Prop:=(to=at_∧∀j:Int,0≤j→j<k→(nth E j).m≠m)∨∃j:Int,0≤j∧j<k∧(nth E j).m=m∧to=(nth E j).to
theorem ToE.hit {E:List EdgeD} {m:Move} {a k to:Int} (h0:0≤k) (h:(nth E k).m=m):ToE E m a (k+1) (nth E k).to:=.inr ⟨k,h0,by omega,h,rfl⟩
theorem ToE.miss {E:List EdgeD} {m:Move} {a k to:Int} (h:¬(nth E k).m=m) (ht:ToE E m a k to):ToE E m a (k+1) to:=by
 rcases ht with⟨h1,h2⟩|⟨j,j0,j1,j2,j3⟩
 ·refine .inl ⟨h1,fun j j0 j1=>?_⟩
  by_cases hj:j=k
  ·rw[hj];exact h
  exact h2 j j0 (by omega)
 exact .inr ⟨j,j0,by omega,j2,j3⟩
theorem ToE.end_ {G:Game} {x0:PX} {ps:List PX} {es:List (List EdgeD)} (h:GrAll G.p x0 ps es) {x:PX} (hx:x∈ps) {m:Move} (hm:m∈Jae G.p x) {to:Int} (ht:ToE (nth es (idxI ps x)) m (idxI ps x) (nth es (idxI ps x)).length to):to=idxI ps (Ja6 G.p x m):=by
 obtain⟨a,b,c⟩:=Jf6 hx;have hk:=h.ok.es (idxI ps x) a (by rw[h.len];exact b);rw[c]at hk;rcases ht with⟨_,h2⟩|⟨j,j0,j1,j2,j3⟩
 ·rw[←hk.mv]at hm;obtain⟨e,he,rfl⟩:=List.mem_map.1 hm;obtain⟨q,hq,rfl⟩:=List.getElem_of_mem he;have h9:=Jtp (xs:=nth es (idxI ps x)) (i:=(q:Int)) (by omega) (by omega);rw[show((q:Int)).toNat=q by omega,List.getElem?_eq_getElem hq]at h9;exact absurd (by rw[←Option.some.inj h9]) (h2 q (by omega) (by omega))
 obtain⟨t0,t1,t2⟩:=hk.to _ (Jac j0 j1);rw[j2]at t2;rw[j3];exact(Jjp h.ok.pk.nd t0 t1 t2).symm
theorem J00 (G:Game) (w:World) (hG:GameOk w G) (hn:NearG G) (l:Sl Entr) (hk:SlT cEntry w l) (hE:¬(Jau G.p l.l).1=0):
  Calls prog 15 #[.agg (gcl G).toArray,l.v] w (RetB w (.tuple #[.int .i64 0,.int .i64 (Jau G.p l.l).1])):=by
 refine En func15 ?_;refine Nz 0 ?_;refine Wr 2 fun b2 hb2=>?_;refine Nx 0 ?_;refine Wk 1 (Bb 0) ?_;refine Wk 5 (Cb rfl rfl J9g (fun u hu=>Jg9 G u (hG.st hu) hn l (hk.st hu))) ?_;refine Nv 2 ?_;refine Wp ?_ ?_<;>intro hc1
 ·refine Nz 3 ?_;exact Wd (Qc (Cr (Qr (out2 rfl rfl rfl (Jab rfl)))))
 exact absurd hc1 hE
theorem J07 (G:Game) (w:World) (hG:GameOk w G) (hn:NearG G) (l:Sl Entr) (hk:SlT cEntry w l) (hE:(Jau G.p l.l).1=0) (hX0:¬(Jai G.p).1=0):
  Calls prog 15 #[.agg (gcl G).toArray,l.v] w (RetB w (.tuple #[.int .i64 0,.int .i64 (Jai G.p).1])):=by
 refine En func15 ?_;refine Nz 0 ?_;refine Wr 2 fun b2 hb2=>?_;refine Nx 0 ?_;refine Wk 1 (Bb 0) ?_;refine Wk 5 (Cb rfl rfl J9g (fun u hu=>Jg9 G u (hG.st hu) hn l (hk.st hu))) ?_;refine Nv 2 ?_;refine Wp ?_ ?_<;>intro hc1
 ·exact absurd hE hc1
 refine Ck (Qc (Nz 0 ?_));refine Wk 0 (Bb 0) ?_;refine Wc rfl rfl Jwy (fun u hu=>Jeo G u (hG.st hu) hn) (fun _=>rfl) ?_;rintro X ⟨hXv,uX,hX⟩;have oXp:=Sl.one hX.ps;have oXe:=Sl.one hX.es;refine Wz 3 ?_;refine Wq 0 zv69 fun b8 hb8=>?_;refine Wv 1 0 ?_;refine Nv 2 ?_;refine Wp ?_ ?_<;>intro hc2
 ·refine Nz 3 ?_;exact Wd (Qc (Cr (Qr (out2 rfl rfl rfl (Jab rfl)))))
 exact absurd hc2 hX0
theorem Jye (G:Game) (w:World) (hG:GameOk w G) (hn:NearG G) (l:Sl Entr) (hk:SlT cEntry w l) (hE:(Jau G.p l.l).1=0) (hX0:(Jai G.p).1=0):
  Calls prog 15 #[.agg (gcl G).toArray,l.v] w (fun e w'=>∃n:Int,Kb0 G l.l n∧RetB w (.tuple #[.int .i64 n,.int .i64 0]) e w'):=by
 have lls:=hk.le;refine En func15 ?_;refine Nz 0 ?_;refine Wr 2 fun b2 hb2=>?_;refine Nx 0 ?_;refine Wk 1 (Bb 0) ?_;refine Wk 5 (Cb rfl rfl J9g (fun u hu=>Jg9 G u (hG.st hu) hn l (hk.st hu))) ?_;refine Nv 2 ?_;refine Wp ?_ ?_<;>intro hc1
 ·exact absurd hE hc1
 refine Ck (Qc (Nz 0 ?_));refine Wk 0 (Bb 0) ?_;refine Wc rfl rfl Jwy (fun u hu=>Jeo G u (hG.st hu) hn) (fun _=>rfl) ?_;rintro X ⟨hXv,uX,hX⟩;have oXp:=Sl.one hX.ps;have oXe:=Sl.one hX.es;refine Wz 3 ?_;refine Wq 0 zv69 fun b8 hb8=>?_;refine Wv 1 0 ?_;refine Nv 2 ?_;refine Wp ?_ ?_<;>intro hc2
 ·exact absurd hX0 hc2
 refine Ck (Qc (Nz 0 ?_));refine Wk 0 (Bb 2) ?_;refine Wc rfl rfl Kb8 (fun u hu=>Jso G u (hG.st hu) hn hX0) (fun _=>rfl) ?_;rintro d ⟨hd,ud,hdk⟩;have od:=Sl.one hdk;have hXp2:X.xs=(Jai G.p).2.1:=congrArg Prod.fst hXv;have hXe2:X.ed=(Jai G.p).2.2:=congrArg Prod.snd hXv;have hgr:GrAll G.p (Jad G.p).2 X.xs X.ed:=by rw[hXp2,hXe2];exact(Jho hX0).2
 have hd2:Jmt G.p X.xs X.ed d.l:=by rw[hXp2,hXe2];exact hd
 have hxl:X.xs.length=X.ps.l.length:=List.length_map _;have hel:X.es.l.length=X.ps.l.length:=by rw[←hxl,←hgr.len];exact(List.length_map _).symm
 have hdl:d.l.length=X.ps.l.length:=by rw[hd2.len,hgr.len,hxl]
 obtain⟨hB,hL,F,hR,hV⟩:=Jg4 hE;have hx0:nth X.xs 0=(Jad G.p).2:=hgr.ok.pk.first;have hp0:=hgr.ok.pk.pos;have hi0:idxI X.xs (Jad G.p).2=0:=Jjp hgr.ok.pk.nd (by omega) (by omega) hx0;have hm0:(Jad G.p).2∈X.xs:=by rw[←hx0];exact Jac (by omega) (by omega)
 have heds:=hX.es;refine Wz 5 ?_;refine Nx 2 ?_;refine Nv 1 ?_;refine Nu ?_;refine CS.loopM (σ:=Int×Int×Int×Film×Int) (rsL [14,15,38,110]) (fun s=>[(13,.int .i64 s.1),(11,.int .i64 s.2.1),(12,.int .i64 s.2.2.1)]) (fun _=>_) (fun s=>0≤s.1∧s.1≤l.l.length∧posG G.p s.2.2.2.1.x=0∧s.2.2.2.1.x∈X.xs∧Jc9 G.p (l.l.drop s.1.toNat) s.1 s.2.2.2.2 s.2.2.2.1 = .ok F∧0≤s.2.2.1∧s.2.2.1≤s.1∧s.2.2.1+Je6 (dOf X.xs d.l) s.2.2.2.1.x (Jek G.p (l.l.drop s.1.toNat) s.2.2.2.1)=Je6 (dOf X.xs d.l) (Jad G.p).2 (Jek G.p l.l (Jbg G.p))∧s.2.1=idxI X.xs s.2.2.2.1.x) (fun s=>(l.l.length-s.1).toNat) (0,0,0,Jbg G.p,0) (fun _ _=>rfl) rfl rfl ⟨by simp,by simp,Jcz hB,hm0,hR,by simp,by simp,by simp;rfl,hi0.symm⟩ ?_;intro o t hs;obtain⟨ho1,ho2,ho3,ho4,ho5,ho6,ho7,ho8,ho9⟩:=hs;refine Cs (Nz 2 ?_);refine Wk 1 Nc ?_;refine Wp ?_ ?_<;>intro hc3
 ·obtain⟨hT,f2,hf2,hr2⟩:=Jh5 (by have h9:=ho5;rw[Ja0 ho1 hc3]at h9;exact h9);have hat:=Jf6 ho4;rw[←ho9]at hat;obtain⟨hat0,hat1,hat2⟩:=hat;rw[hxl,←hel]at hat1;have hke:=heds.at hat0 hat1;have kle:=SlT.le hke;have hdr:=Ja0 ho1 hc3;refine Ck (Qc (Cs (Ce (Cs (Nz 2 ?_)))));refine Wk 1 Xc ?_;refine Wk 1 (Uc 7 1) ?_;refine Wp ?_ ?_<;>intro hc4
  ·have hk1:¬(nth l.l o.1).k=1:=by first|exact hc4|simpa using hc4
   have hsx:=Jon hf2 hk1;rw[hdr,Jj0 hf2 hk1]at ho8;refine Cv (Qe (Qx (Qc (Ny 1 ?_))));refine Wk 1 Za ?_;exact Wd (QS.head ((o.1+1,o.2.1,o.2.2.1,f2,(nth l.l o.1).t)) rfl rfl ⟨⟨by simp;omega,by simp;omega,by simp only;rw[hsx];exact ho3,by simp only;rw[hsx];exact ho4,hr2,ho6,by simp;omega,by simp only;rw[hsx];exact ho8,by simp only;rw[hsx];exact ho9⟩,by simp;omega⟩)
  have hk1:(nth l.l o.1).k=1:=by first|exact hc4|simpa using hc4
  obtain⟨hpb,hnx⟩:=Jpd ho3 hf2 hk1;have hmv:=Jtz ho3 hpb;have hq2:posG G.p f2.x=0:=by rw[hnx];exact Jfb ho3 hmv
  have hm2:f2.x∈X.xs:=by rw[hnx];exact hgr.next_mem ho4 hmv
  rw[hdr,Jku hf2 hk1]at ho8;have hat3:=Jf6 hm2;refine Ck (Qc (Nz 2 ?_));refine Nv 1 ?_;refine Nu ?_;refine CS.loopM (σ:=Int×Int) (rsL [51,84]) (fun s=>[(15,.int .i64 s.1),(14,.int .i64 s.2)]) (fun _=>_) (fun s=>0≤s.1∧s.1≤(nth X.es.l o.2.1).l.length∧ToE (nth X.es.l o.2.1).l (nth l.l o.1).m o.2.1 s.1 s.2) (fun s=>((nth X.es.l o.2.1).l.length-s.1).toNat) (0,o.2.1) (fun _ _=>rfl) rfl rfl ⟨by simp,by simp,.inl ⟨rfl,fun j a b=>by simp only at b;omega⟩⟩ ?_;intro k t hs;obtain⟨hk1_,hk2,hk3⟩:=hs;refine Cs (Nz 2 ?_);refine Wk 1 (Ba 1) ?_;refine Wk 0 (Jcd (s:=X.es) sl67 rfl rfl heds rfl (by omega) (by omega)) ?_;refine Wk 0 (Jda 2 (s:=X.es) rfl (fun _ h↦h.es) rfl rfl ⟨by omega,by omega⟩ rfl J8u) ?_;refine Wk 1 (Jgm (s:=(nth X.es.l o.2.1)) Jmn rfl hke) ?_;refine Wp ?_ ?_<;>intro hc5
  ·refine Ck (Qc (Cs (Ce (Cs (Dr mixed 1 ?_)))));refine Dk 1 (Ba 1) ?_;refine Dk 0 (Jcd (s:=X.es) sl67 rfl rfl heds rfl (by omega) (by omega)) ?_;refine Dk 1 (Jda 2 (s:=X.es) rfl (fun _ h↦h.es) rfl rfl ⟨by omega,by omega⟩ rfl J8u) ?_;refine Dk 1 (Jcd (s:=(nth X.es.l o.2.1)) Jmn rfl rfl hke rfl (by omega) (by omega)) ?_;refine Dk 2 (J2n (C:=Jca) 4 0 3 (s:=(nth X.es.l o.2.1)) (fun u hu=>(hu.ro (j:=2) rfl).es.at hat0 hat1) rfl rfl ⟨by omega,by omega⟩ rfl rfl tk49) ?_;refine Dk 1 Xc ?_;refine Dk 0 (Jsn 7 2 3 rfl hk rfl ⟨by omega,by omega⟩ rfl rfl tk49) ?_;refine Dk 0 (Jj6 J0w rfl rfl (Jms _ _)) ?_;refine Dd (Qc (Cn ?_ ?_))<;>intro hc6
   ·have hmq:(nth (nth X.es.l o.2.1).l k.1).m=(nth l.l o.1).m:=by first|exact hc6|simpa using hc6
    refine Ny 1 ?_;refine Wk 1 (Ba 1) ?_;refine Wk 0 (Jcd (s:=X.es) sl67 rfl rfl heds rfl (by omega) (by omega)) ?_;refine Wk 1 (Jda 2 (s:=X.es) rfl (fun _ h↦h.es) rfl rfl ⟨by omega,by omega⟩ rfl J8u) ?_;refine Wk 1 (Jcd (s:=(nth X.es.l o.2.1)) Jmn rfl rfl hke rfl (by omega) (by omega)) ?_;refine Wk 1 (J3r (C:=Jca) 4 3 (s:=(nth X.es.l o.2.1)) (fun u hu=>(hu.ro (j:=2) rfl).es.at hat0 hat1) rfl rfl ⟨by omega,by omega⟩ (by decide) rfl tk3) ?_;refine Wd (Qb (Qc (Ny 1 ?_)));refine Wk 1 Za ?_;exact Wd (QS.head ((k.1+1,(nth (nth X.es.l o.2.1).l k.1).to)) rfl rfl ⟨⟨by simp;omega,by simp;omega,ToE.hit (to:=0) hk1_ hmq⟩,by simp;omega⟩)
   have hmq:¬(nth (nth X.es.l o.2.1).l k.1).m=(nth l.l o.1).m:=by first|exact hc6|simpa using hc6
   refine Ck (Qb (Qc (Ny 1 ?_)));refine Wk 1 Za ?_;exact Wd (QS.head ((k.1+1,k.2)) rfl rfl ⟨⟨by simp;omega,by simp;omega,ToE.miss hmq hk3⟩,by simp;omega⟩)
  have hte:k.2=idxI X.xs f2.x:=by
   rw[hnx];refine ToE.end_ hgr ho4 hmv ?_;rw[←ho9];rw[show k.1=(nth X.es.l o.2.1).l.length by omega]at hk3;rw[J8j];exact hk3
  have hto0:=hat3.1;have hto1:=hat3.2.1;rw[hxl]at hto1;rw[←hte]at hto0 hto1;have hdy:nth d.l k.2=(dOf X.xs d.l) f2.x:=by rw[hte];rfl
  have hdx:nth d.l o.2.1=(dOf X.xs d.l) o.2.2.2.1.x:=by rw[ho9];rfl
  have hed:=fun h=>hgr.d_edge hd2 ho4 hmv (by rw[←hnx];exact h);rw[Jvz]at ho8;refine Cv (Qe (Qe (Qx (Qc (Cs (Cs (Dr mixed 2 ?_)))))));refine Dk 0 (Jcd (s:=d) sl37 rfl rfl hdk rfl (by omega) (by omega)) ?_;refine Dk 2 (Jda 0 (s:=d) rfl (fun _ h↦h) rfl rfl ⟨by omega,by omega⟩ rfl tk3) ?_;refine De 0 ?_;refine De 0 ?_;refine Df 0 rfl rfl (fun hg=>Jcd (s:=d) sl37 (eg_ hg rfl) (eg_ hg rfl) hdk rfl (by omega) (by omega)) ?_;refine Df 0 rfl rfl (fun hg=>Jda 0 (s:=d) rfl (fun _ h↦h) (eg_ hg rfl) rfl ⟨by omega,by omega⟩ rfl tk3) ?_;refine De 0 ?_;refine De 0 ?_;refine Df 0 rfl rfl (fun hg=>Jcd (s:=d) sl37 (eg_ hg rfl) (eg_ hg rfl) hdk rfl (by omega) (by omega)) ?_;refine Df 0 rfl rfl (fun hg=>Jda 0 (s:=d) rfl (fun _ h↦h) (eg_ hg rfl) rfl ⟨by omega,by omega⟩ rfl tk3) ?_;refine De 0 ?_;refine Df 0 rfl rfl (fun hg=>Fm (eg_ hg rfl)) ?_;refine Dn 0 rfl rfl rfl (fun hg=>Fm) ?_;refine Dn 0 rfl rfl rfl (fun hg=>Fm) ?_;refine Dn 0 rfl rfl rfl (fun hg=>Jcd (s:=d) sl37 (eg_ hg rfl) (eg_ hg rfl) hdk rfl (by omega) (by omega)) ?_;refine Dn 0 rfl rfl rfl (fun hg=>Jda 0 (s:=d) rfl (fun _ h↦h) (eg_ hg rfl) rfl ⟨by omega,by omega⟩ rfl tk3) ?_;refine Dn 0 rfl rfl rfl (fun hg=>Fh) ?_;refine Df 0 rfl rfl (fun hg=>Jc5 (eg_ hg rfl) (Ji6 hg rfl) rfl) ?_;refine Dk 0 Po ?_;refine Dd (Qc (Cn ?_ ?_))<;>intro hc7
  ·have hcc:(dOf X.xs d.l) f2.x<0∨(dOf X.xs d.l) o.2.2.2.1.x≤(dOf X.xs d.l) f2.x:=by rw[←hdy,←hdx];have h9:=hc7;first|omega|(simp at h9;omega)
   rw[if_pos hcc]at ho8;refine Ny 1 ?_;refine Wk 1 Za ?_;refine Nw 2 ?_;refine Wd (Qb (Qc (Ny 1 ?_)));refine Wk 1 Za ?_;exact Wd (QS.head ((o.1+1,k.2,o.2.2.1+1,f2,(nth l.l o.1).t)) rfl rfl ⟨⟨by simp;omega,by simp;omega,hq2,hm2,hr2,by simp;omega,by simp;omega,by simp only;omega,hte⟩,by simp;omega⟩)
  have hcc:¬((dOf X.xs d.l) f2.x<0∨(dOf X.xs d.l) o.2.2.2.1.x≤(dOf X.xs d.l) f2.x):=by rw[←hdy]at hed⊢;rw[←hdx]at hed⊢;have h9:=hc7;first|omega|(simp at h9;omega)
  rw[if_neg hcc]at ho8;refine Ck (Qc (Ny 2 ?_));refine Wd (Qb (Qc (Ny 1 ?_)));refine Wk 1 Za ?_;exact Wd (QS.head ((o.1+1,k.2,o.2.2.1,f2,(nth l.l o.1).t)) rfl rfl ⟨⟨by simp;omega,by simp;omega,hq2,hm2,hr2,by simp;omega,by simp;omega,by simp only;omega,hte⟩,by simp;omega⟩)
 refine Cv (Qe (Qe (Qx (Qc (Nz 3 ?_)))));exact Wd (Qc (Cr (out2 rfl rfl rfl (fun u hu=>⟨o.2.2.1,⟨ho6,by omega,d.l,hd,by rw[←hXp2,←ho8,List.drop_of_length_le (by omega)];simp[Jek,Je6]⟩,rfl,hu.below⟩))))
end Go.Proofs.YtmoojmgihdgceaaGreatDoor
