/- Merged texts of this proof (walks and plain laws), printed by a program of the prover. -/
import Derived.Test.YtmoojmgihdgceaaGreatDoorZz
import Derived.Test.YtmoojmgihdgceaaGreatDoorZu
set_option maxHeartbeats 8000000
namespace Go.Proofs.YtmoojmgihdgceaaGreatDoor
open Go.RowKit Go.Proofs Tryz
set_option maxRecDepth 100000
set_option linter.unusedVariables false
set_option linter.unusedSimpArgs false
theorem Jh5 {G:GP} {e:Entr} {l:List Entr} {i last:Int} {f F:Film} (h:Jc9 G (e::l) i last f = .ok F):Jci last e=true∧∃f',Ja1 G f e=some f'∧Jc9 G l (i+1) e.t f' = .ok F:=by
 unfold Jc9 at h;split at h
 ·rename_i ht;cases hs:Ja1 G f e with
  |none=>rw[hs]at h;cases h
  |some f'=>rw[hs]at h;exact⟨ht,f',rfl,h⟩
 cases h
theorem Jf2 {G:GP} {e:Entr} {l:List Entr} {i last:Int} {f:Film} (h:(Jci last e&&(Ja1 G f e).isSome)=false):Jc9 G (e::l) i last f = .error i:=by
 unfold Jc9;split
 ·rename_i ht;cases hs:Ja1 G f e with
  |none=>rfl
  |some f'=>rw[hs,ht]at h;cases h
 rfl
theorem J27 {G:GP} {e:Entr} {last:Int} {f:Film} (h:(Jci last e&&(Ja1 G f e).isSome)=true):Jci last e=true∧∃f',Ja1 G f e=some f':=by
 rw[Bool.and_eq_true,Option.isSome_iff_exists]at h;exact h
theorem Jrn {G:GP} {l:List Entr} (h:¬(Jad G).1=0):Jau G l=((Jad G).1,0,Jbg G):=if_neg h
theorem Jrs {G:GP} {l:List Entr} (h:(Jad G).1=0) (h2:500<(l.length:Int)):Jau G l=(2,0,Jbg G):=(if_pos h).trans (if_pos h2)
theorem Jky {G:GP} {l:List Entr} {i:Int} (h:(Jad G).1=0) (h2:¬500<(l.length:Int)) (h3:Jc9 G l 0 0 (Jbg G) = .error i):Jau G l=(120,i,Jbg G):=by
 unfold Jau;rw[if_pos h,if_neg h2,h3]
theorem Jrg {G:GP} {l:List Entr} {f:Film} (h:(Jad G).1=0) (h2:¬500<(l.length:Int)) (h3:Jc9 G l 0 0 (Jbg G) = .ok f):Jau G l=(0,0,f):=by
 unfold Jau;rw[if_pos h,if_neg h2,h3]
theorem J7g {G:GP} {e:Entr} {l:List Entr} {f f':Film} (h:Ja1 G f e=some f') (hk:e.k=1):Jht G (e::l) f=f'.x.1.1::Jht G l f':=by
 rw[Jht,h];exact if_pos hk
theorem J8i {G:GP} {e:Entr} {l:List Entr} {f f':Film} (h:Ja1 G f e=some f') (hk:¬e.k=1):Jht G (e::l) f=Jht G l f':=by
 rw[Jht,h];exact if_neg hk
theorem J37 (G:Game) (w:World) (hG:GameOk w G) (hn:NearG G):
  Calls prog 69 #[.agg (gcl G).toArray] w (fun e w'=>∃x:Nat×Pos,(x.2.x=(Jad G.p).2∧∃u0,PosOk u0 x.2)∧RetF w (.tuple #[.pointer (some ⟨x.1,0,none⟩),.int .i64 (Jad G.p).1]) (star [blk x.1 [G.rm.pls.v,G.rm.ths.v,G.rm.prs.v,G.rm.wys.v,G.rm.acs.v,G.rm.aus.v,.int .i64 G.rm.ply,G.rm.gl.v,G.lks.v,G.cds.v,G.nts.v,.int .i64 G.tr,x.2.st.ths.v,x.2.st.prs.v,x.2.st.pls.v,x.2.rd.v,.bool false,.int .i64 0] 196,roS fun u=>PosOk u x.2]) e w'):=by
 have o1:=Sl.one hG.rm.pls;have o2:=Sl.one hG.rm.ths;have o3:=Sl.one hG.rm.prs;have o4:=Sl.one hG.rm.wys;have o5:=Sl.one hG.rm.acs;have o6:=Sl.one hG.rm.aus;have o7:=Sl.one hG.rm.gl;have o8:=Sl.one hG.lks;have o9:=Sl.one hG.cds;have o10:=Sl.one hG.nts;refine En func69 ?_;refine Nz 0 ?_;refine Wr 2 fun b1 hb1=>?_;refine Nx 0 ?_;refine Wk 0 (Bb 0) ?_;refine Wc rfl rfl Kbw (fun u hu=>Jrx G u (hG.st hu) hn) (fun _=>rfl) ?_;rintro y ⟨hyx,uy,hyok⟩;obtain⟨hya,hyb,hyc⟩:=hyok.st.ones;have hyd:=Sl.one hyok.rd;refine Wz 3 ?_;refine Wq 0 zv98 fun b4 hb4=>?_;refine Wv 1 0 ?_;refine Nx 0 ?_;refine Wk 0 (Bb 2) ?_;refine Wk 0 (Bb 0) ?_;refine Wk 0 (Jaq Kdb Kfk (pcs:=[(0,(gcl G)),(1,[y.st.ths.v,y.st.prs.v,y.st.pls.v,y.rd.v])]) rfl (CellsOf.agg (CellsOf.agg CellsOf.nil)) rfl) ?_;refine Wr 3 fun b14 hb14=>?_;exact Wd (Qc (Cr (out2 rfl rfl rfl (fun u hu=>⟨(b14,y),⟨hyx,uy,hyok⟩,Jjt (hu.sel [0,1] rfl) (List.Perm.refl _)⟩))))
theorem Jg9 (G:Game) (w:World) (hG:GameOk w G) (hn:NearG G) (l:Sl Entr) (hk:SlT cEntry w l):
  Calls prog 42 #[.agg (gcl G).toArray,l.v] w (RetB w (.tuple #[.int .i64 (Jau G.p l.l).2.1,.int .i64 (Jau G.p l.l).1])):=by
 have lls:=hk.le;refine En func42 ?_;refine Nz 0 ?_;refine Wr 2 fun b2 hb2=>?_;refine Nx 0 ?_;refine Wk 0 (Bb 0) ?_;refine Wc rfl rfl Kfz (fun u hu=>J37 G u (hG.st hu) hn) (fun _=>rfl) ?_;rintro⟨rb,y⟩ ⟨hyx,uy,hyok⟩;refine WS.unpack ?_;refine Wz 5 ?_;refine Nv 2 ?_;refine Wp ?_ ?_<;>intro hc1
 ·refine Nz 3 ?_;exact Wd (Qc (Cr (Qr (out2 rfl rfl rfl (Jab (by rw[Jrn hc1]))))))
 have hB:(Jad G.p).1=0:=hc1;refine Ck (Qc (Cs (Nz 1 ?_)));refine Wk 1 Nc ?_;refine Wp ?_ ?_<;>intro hc2
 ·refine Nz 2 ?_;exact Wd (Qc (Cr (Qr (out2 rfl rfl rfl (Jab (by rw[Jrs hB (by omega)]))))))
 have hL:¬500<(l.l.length:Int):=by omega
 refine Ck (Qc (Cs (Nz 1 ?_)));refine Nu ?_;refine CS.loopM (σ:=Int×Pos×Film×Int×Unit) (rsL [4,5,20,33]) (fun s=>[(8,.int .i64 s.1)]) (fun s=>[blk rb [G.rm.pls.v,G.rm.ths.v,G.rm.prs.v,G.rm.wys.v,G.rm.acs.v,G.rm.aus.v,.int .i64 G.rm.ply,G.rm.gl.v,G.lks.v,G.cds.v,G.nts.v,.int .i64 G.tr,s.2.1.st.ths.v,s.2.1.st.prs.v,s.2.1.st.pls.v,s.2.1.rd.v,.bool s.2.2.1.st,.int .i64 s.2.2.2.1] 196,roS fun u=>PosOk u s.2.1,blk b2 (gcl G) 36]) (fun s=>0≤s.1∧s.1≤l.l.length∧(∃u0,PosOk u0 s.2.1)∧s.2.1.x=s.2.2.1.x∧posG G.p s.2.2.1.x=0∧Jc9 G.p l.l 0 0 (Jbg G.p)=Jc9 G.p (l.l.drop s.1.toNat) s.1 s.2.2.2.1 s.2.2.1) (fun s=>(l.l.length-s.1).toNat) (0,y,Jbg G.p,0,()) (fun _ _=>rfl) rfl rfl ⟨by simp,by simp,⟨_,hyok⟩,hyx,Jcz hB,by simp⟩ ?_;intro s t hs;obtain⟨hs1,hs2,⟨us,hsok⟩,hs4,hs5,hs6⟩:=hs;refine Cs (Nz 2 ?_);refine Wk 1 Nc ?_;refine Wp ?_ ?_<;>intro hc3
 ·refine Ck (Qc (Cs (Ce (Nz 3 ?_))));refine Wk 0 Xc ?_;refine Wk 0 Ua ?_;refine WS.callS rfl rfl Ke1 (fun u hu=>J0c [] [_] G hG hn rb s.2.1 s.2.2.1 hs4 (nth l.l s.1) s.2.2.2.1 hu) (fun _=>rfl) ?_;rintro⟨y2,f2,t2⟩ ⟨hy2x,⟨uy2,hy2ok⟩,hf2⟩;dsimp only at hf2 hy2x hy2ok;refine Wz 1 ?_;refine Wp ?_ ?_<;>intro hc4
  ·have hbd:(Jci s.2.2.2.1 (nth l.l s.1)&&(Ja1 G.p s.2.2.1 (nth l.l s.1)).isSome)=false:=by rw[Bool.and_eq_false_iff];exact hc4
   refine Nz 3 ?_;exact Wd (Qc (Cr (Qs (Qr (Qr (Qs (Qr (out2 rfl rfl rfl (Jab (by rw[Jky hB hL (by rw[hs6,Ja0 hs1 (by omega),Jf2 hbd])]))))))))))
  have hgd:(Jci s.2.2.2.1 (nth l.l s.1)&&(Ja1 G.p s.2.2.1 (nth l.l s.1)).isSome)=true:=by first|exact hc4|simpa using hc4
  obtain⟨hT,f3,hf3⟩:=J27 hgd;obtain⟨rfl,rfl⟩:=hf2 f3 hT hf3;refine Ck (Qb (Qc (Ny 1 ?_)));refine Wk 1 Za ?_;exact Wd (QS.head ((s.1+1,y2,f2,(nth l.l s.1).t,())) rfl rfl ⟨⟨by simp;omega,by simp;omega,⟨_,hy2ok⟩,hy2x,Jzh hs5 hf3,by rw[hs6,Ja0 hs1 (by omega),Jer hT hf3]⟩,by simp;omega⟩)
 refine Cv (Qe (Qe (Qx (Qc (Nz 2 ?_)))));exact Wd (Qc (Cr (out2 rfl rfl rfl (Jab (by rw[Jrg hB hL (by rw[hs6,List.drop_of_length_le (by omega),Jc9])])))))
def Jev (t:Int) (old new:List Int) (k:Int):List Entr:=((Jdx k.toNat).filter fun j=>!decide (nth new j=nth old j)).map fun j=>⟨t,5,mv0,j,nth new j⟩
theorem Juk {t:Int} {old new:List Int} {k:Int} (h:k=new.length):Jev t old new k=Jsg t old new:=by subst h;rfl
theorem Jl7 {t:Int} {old new:List Int} {k:Int} (h0:0≤k) (h:¬nth new k=nth old k):Jev t old new k++[⟨t,5,mv0,k,nth new k⟩]=Jev t old new (k+1):=by
 unfold Jev;rw[Jhk h0,List.filter_append,List.map_append,List.filter_cons,if_pos (by rw[decide_eq_false h];rfl)];rfl
theorem Jnv {t:Int} {old new:List Int} {k:Int} (h0:0≤k) (h:nth new k=nth old k):Jev t old new k=Jev t old new (k+1):=by
 unfold Jev;rw[Jhk h0,List.filter_append,List.filter_cons,if_neg (by rw[decide_eq_true h];decide)];simp
theorem Jl4 {t:Int} {old new:List Int} {k:Int}:(Jev t old new k).length≤k.toNat:=by
 unfold Jev;rw[List.length_map];exact Nat.le_trans (List.length_filter_le _ _) (by rw[J30];exact Nat.le_refl _)
theorem Jsu {G:GP} {m:Timed} {ms:List Timed} {i last:Int} {x:PX} {out:List Entr} (ht:last≤m.t∧m.t≤1000000) (hs:(Jak G x m.m).1=0):
  recF G (m::ms) i last x out=recF G ms (i+1) m.t (Jak G x m.m).2 (out++⟨m.t,1,m.m,0,0⟩::Jsg m.t x.1.1 (Jak G x m.m).2.1.1):=by
 rw[recF,if_pos (by simpa using ht),if_pos hs]
theorem Jz7 {G:GP} {m:Timed} {ms:List Timed} {i last:Int} {x:PX} {out:List Entr} (ht:last≤m.t∧m.t≤1000000) (hs:¬(Jak G x m.m).1=0):recF G (m::ms) i last x out=(29,i,[],x):=by
 rw[recF,if_pos (by simpa using ht),if_neg hs]
theorem Jzq {G:GP} {m:Timed} {ms:List Timed} {i last:Int} {x:PX} {out:List Entr} (ht:¬(last≤m.t∧m.t≤1000000)):recF G (m::ms) i last x out=(1,i,[],x):=by
 rw[recF,if_neg (by simpa using ht)]
theorem J2a {G:GP} {ms:List Timed} (h:¬(Jad G).1=0):Jbd G ms=((Jad G).1,0,[]):=if_neg h
theorem Jsf {G:GP} {ms:List Timed} {e i:Int} {o:List Entr} {x:PX} (h:(Jad G).1=0) (he:¬e=0) (hr:recF G ms 0 0 (Jad G).2 []=(e,i,o,x)):Jbd G ms=(e,i,[]):=by
 unfold Jbd;rw[if_pos h,hr];exact if_neg he
theorem J2h {G:GP} {ms:List Timed} {o:List Entr} {x:PX} (h:(Jad G).1=0) (hr:recF G ms 0 0 (Jad G).2 []=(0,0,o,x)) (hl:500<(o.length:Int)):Jbd G ms=(2,0,[]):=by
 unfold Jbd;rw[if_pos h,hr];exact(if_pos rfl).trans (if_pos hl)
theorem Js7 {G:GP} {ms:List Timed} {o:List Entr} {x:PX} (h:(Jad G).1=0) (hr:recF G ms 0 0 (Jad G).2 []=(0,0,o,x)) (hl:¬500<(o.length:Int)):Jbd G ms=(0,0,o):=by
 unfold Jbd;rw[if_pos h,hr];exact(if_pos rfl).trans (if_neg hl)
theorem J81 {G:GP} {l:List Entr} (h:¬(Jau G l).1=0):Jed G l=((Jau G l).1,0,0):=if_neg h
theorem Jz0 {G:GP} {l:List Entr} (h:(Jau G l).1=0) (he:¬(Jau G l).2.2.en<0):Jed G l=(0,(Jau G l).2.2.en,(Jau G l).2.2.hi):=(if_pos h).trans (if_neg he)
theorem Jlo {G:GP} {l:List Entr} (h:(Jau G l).1=0) (he:(Jau G l).2.2.en<0):Jed G l=(3,0,0):=(if_pos h).trans (if_pos he)
section
variable {P:Program} {C:World→Prop} {l:List Value} {d:Option Tmp} {ty:TypeId} {ps:String} {af:Array Edge} {g:Option (Nat×Bool)}
theorem Jtv {T T':TypeId} {x y:Operand} {fn:Go.Fn} {a c:Array Value} {qs rs:Array TypeId} {vd:Bool} (hx:evo l x=some (.func fn a c)) (hy:evo l y=some .nilFunc) (hT:P.underlying T=some (.func qs rs vd)):
  Det P C ⟨d,.binOp .neq T x y T',ty,ps,af,g⟩ l (.bool true):=fun u _=>by
 (replace hx:=Jan hx;replace hy:=Jan hy)
 have h:∀d:Nat,(Op.equalIn (d+1) T (.func fn a c) .nilFunc).run P u = .ok false u:=fun d=>by simp[Op.equalIn,run_underlying hT]
 simp[execOp,Jar,hx,hy,eqGuard,binOp,Op.equal,Op.maxDepth,h 9999]
end
theorem J4t {w u:World} (A B:List SA) (G:Game) (hG:GameOk w G) (hn:NearG G) (g:Sl ByteArray) (hW:GOk w g) (fb:Nat) (y:Pos) (f:Film) (hyx:y.x=f.x) (x:Entr) (last n:Int) (hF:FilmOk G f last n) (htm:Jci last x=true) (hnn:n≤1000) (hu:St w.heap.size w (A++[blk fb (fcl G y f) 100,roS fun u=>PosOk u y]++B) u):
  Calls prog 67 #[.pointer (some ⟨fb,0,none⟩),.agg #[.int .i64 x.t,.int .i64 x.k,.int .i64 x.m.p,.int .i64 x.m.k,.int .i64 x.m.n,.int .i64 x.a,.int .i64 x.b]] u (fun e u'=>∃q:Pos×Film,(q.1.x=q.2.x∧(∃u0,PosOk u0 q.1)∧∀f',(Ja1 G.p f x)=some f'→q.2=f')∧e = .returned (.bool (Ja1 G.p f x).isSome)∧St w.heap.size w (A++[blk fb (fcl G q.1 q.2) 100,roS fun u=>PosOk u q.1]++B) u'):=by
 refine Calls.mono (J9a (star (A++B)) G hG hn g hW fb y f hyx x last n hF htm hnn hu.out2) ?_;rintro e u' ⟨z,h1,h2,h3⟩;exact⟨z,h1,h2,h3.in2⟩
theorem Jet (G:Game) (w:World) (hG:GameOk w G) (hn:NearG G) (g:Sl ByteArray) (hW:GOk w g) (hB:(Jad G.p).1=0):
  Calls prog 27 #[.agg (gcl G).toArray] w (fun e w'=>∃x:Nat×Pos,(x.2.x=(Jad G.p).2∧∃u0,PosOk u0 x.2)∧RetF w (.tuple #[.pointer (some ⟨x.1,0,none⟩),.int .i64 0]) (star [blk x.1 (fcl G x.2 (Jbg G.p)) 100,roS fun u=>PosOk u x.2]) e w'):=by
 have o1:=Sl.one hG.rm.pls;have o2:=Sl.one hG.rm.ths;have o3:=Sl.one hG.rm.prs;have o4:=Sl.one hG.rm.wys;have o5:=Sl.one hG.rm.acs;have o6:=Sl.one hG.rm.aus;have o7:=Sl.one hG.rm.gl;have o8:=Sl.one hG.lks;have o9:=Sl.one hG.cds;have o10:=Sl.one hG.nts;refine En func27 ?_;refine Nz 0 ?_;refine Wr 2 fun b1 hb1=>?_;refine Nx 0 ?_;refine Wk 0 (Bb 0) ?_;refine Wc rfl rfl J77 (fun u hu=>Jns G u (hG.st hu) g (hW.st hu) hn) (fun _=>rfl) ?_;rintro y ⟨hyx,uy,hyok⟩;obtain⟨hya,hyb,hyc⟩:=hyok.st.ones;have hyd:=Sl.one hyok.rd;refine Wz 3 ?_;refine Wq 0 zv98 fun b4 hb4=>?_;refine Wv 1 0 ?_;refine Nv 2 ?_;refine Wp ?_ ?_<;>intro hc1
 ·exact absurd hB hc1
 refine Ck (Qc (Nz 0 ?_));refine Wk 0 (Bb 2) ?_;refine Wk 0 (Bb 0) ?_;refine Wk 0 (Jaq Kca Kfh (pcs:=[(0,(gcl G)),(1,[y.st.ths.v,y.st.prs.v,y.st.pls.v,y.rd.v]),(5,[.int .i64 (-1)])]) rfl (CellsOf.agg (CellsOf.agg (CellsOf.one rfl CellsOf.nil))) rfl) ?_;refine Wr 1 fun b18 hb18=>?_;refine Nv 1 ?_;refine Wk 0 (Cb rfl rfl Kb3 (fun u hu=>J5x G u (hG.st hu) hn g (hW.st hu) y (hu.ro (j:=2) rfl) {(Jbg G.p)with en:= -1} hyx (Jcz hB) b18 _ (Jaw hu (j:=0) rfl))) ?_;refine Wp ?_ ?_<;>intro hc2
 ·have he:(Jbg G.p).en=0:=if_pos hc2;refine Ny 3 ?_;refine Ws 0 0 ?_;refine Nx 3 ?_;exact Wd (Qc (Cr (out2 rfl rfl rfl (fun u hu=>⟨(b18,y),⟨hyx,uy,hyok⟩,by(try unfold fcl);rw[he];exact Jjt (hu.sel [0,1] rfl) (List.Perm.refl _)⟩))))
 have he:(Jbg G.p).en = -1:=if_neg (fun h=>by have h9:Jdg G.p (Jbg G.p).x=true:=h;rw[hc2]at h9;cases h9);refine Ck (Qc (Nz 3 ?_));exact Wd (Qc (Cr (out2 rfl rfl rfl (fun u hu=>⟨(b18,y),⟨hyx,uy,hyok⟩,by(try unfold fcl);rw[he];exact Jjt (hu.sel [0,1] rfl) (List.Perm.refl _)⟩))))
theorem Jjo (G:Game) (w:World) (hG:GameOk w G) (hn:NearG G) (g:Sl ByteArray) (hW:GOk w g) (hB:¬(Jad G.p).1=0):
  Calls prog 27 #[.agg (gcl G).toArray] w (RetB w (.tuple #[.pointer none,.int .i64 (Jad G.p).1])):=by
 have o1:=Sl.one hG.rm.pls;have o2:=Sl.one hG.rm.ths;have o3:=Sl.one hG.rm.prs;have o4:=Sl.one hG.rm.wys;have o5:=Sl.one hG.rm.acs;have o6:=Sl.one hG.rm.aus;have o7:=Sl.one hG.rm.gl;have o8:=Sl.one hG.lks;have o9:=Sl.one hG.cds;have o10:=Sl.one hG.nts;refine En func27 ?_;refine Nz 0 ?_;refine Wr 2 fun b1 hb1=>?_;refine Nx 0 ?_;refine Wk 0 (Bb 0) ?_;refine Wc rfl rfl J77 (fun u hu=>Jns G u (hG.st hu) g (hW.st hu) hn) (fun _=>rfl) ?_;rintro y ⟨hyx,uy,hyok⟩;obtain⟨hya,hyb,hyc⟩:=hyok.st.ones;have hyd:=Sl.one hyok.rd;refine Wz 3 ?_;refine Wq 0 zv98 fun b4 hb4=>?_;refine Wv 1 0 ?_;refine Nv 2 ?_;refine Wp ?_ ?_<;>intro hc1
 ·refine Nz 3 ?_;exact Wd (Qc (Cr (Qr (out2 rfl rfl rfl (Jab rfl)))))
 exact absurd hc1 hB
theorem J48 {w u:World} (R:SA) (Z:List (List Int)→SA) (G:Game) (hG:GameOk w G) (hn:NearG G) (g:Sl ByteArray) (hW:GOk w g) (fb:Nat) (y:Pos) (hyx:y.x=(Jad G.p).2) (hB:(Jad G.p).1=0) (l:Sl Entr) (hk:SlT cEntry w l) (fn:FuncId) (cap:List Value) (hent:Ent prog fn) (hmv:∀(acc:List (List Int)) (y:Pos) (f:Film) (u:World),y.x=f.x→posG G.p f.x=0→acc.length≤1000→St w.heap.size w [blk fb (fcl G y f) 100,roS fun u=>PosOk u y,Z acc,R] u→Calls prog fn cap.toArray u (fun e u'=>e = .returned (.tuple #[])∧St w.heap.size w [blk fb (fcl G y f) 100,roS fun u=>PosOk u y,Z (acc++[f.x.1.1]),R] u')) (hu:St w.heap.size w [blk fb (fcl G y (Jbg G.p)) 100,roS fun u=>PosOk u y,Z [],R] u):
  Calls prog 31 #[.pointer (some ⟨fb,0,none⟩),l.v,.func (.func fn) #[] cap.toArray] u (fun e u'=>∃q:Pos×Film×List (List Int),(q.1.x=q.2.1.x∧(∃u0,PosOk u0 q.1)∧((Jau G.p l.l).1=0→q.2.1=(Jau G.p l.l).2.2∧q.2.2=Jht G.p l.l (Jbg G.p)))∧e = .returned (.tuple #[.int .i64 (Jau G.p l.l).2.1,.int .i64 (Jau G.p l.l).1])∧St w.heap.size w [blk fb (fcl G q.1 q.2.1) 100,roS fun u=>PosOk u q.1,Z q.2.2,R] u'):=by
 have lls:=hk.le;have hyok:PosOk u y:=hu.ro (j:=1) rfl;refine Ei hu func31 ?_;refine Nz 2 ?_;refine Nv 1 ?_;refine Wk 1 Nc ?_;refine Wp ?_ ?_<;>intro hc1
 ·have hfv:(Jau G.p l.l)=(2,0,Jbg G.p):=Jrs hB (by omega);refine Nz 2 ?_;exact Wd (Qc (Cr (Qr (out2 rfl rfl rfl (fun u hu=>⟨(y,(Jbg G.p),[]),⟨hyx,⟨u,hu.ro (j:=1) rfl⟩,fun h9↦by rw[hfv]at h9;simp at h9⟩,by rw[hfv],hu.sel [0,0,0,0] rfl⟩)))))
 have hL:¬500<(l.l.length:Int):=by omega
 refine Ck (Qc (Nz 1 ?_));refine Nv 1 ?_;refine Wk 1 Nc ?_;refine Nu ?_;refine CS.loopM (σ:=Int×Pos×Film×Int×List (List Int)) (rsL [6,7,9,10,17,44]) (fun s=>[(16,.int .i64 s.1),(8,.int .i64 s.2.2.2.1)]) (fun s=>[blk fb (fcl G s.2.1 s.2.2.1) 100,roS fun u=>PosOk u s.2.1,Z s.2.2.2.2,R]) (fun s=>0≤s.1∧s.1≤l.l.length∧(∃u0,PosOk u0 s.2.1)∧s.2.1.x=s.2.2.1.x∧FilmOk G s.2.2.1 s.2.2.2.1 s.1∧Jc9 G.p l.l 0 0 (Jbg G.p)=Jc9 G.p (l.l.drop s.1.toNat) s.1 s.2.2.2.1 s.2.2.1∧Jht G.p l.l (Jbg G.p)=s.2.2.2.2++Jht G.p (l.l.drop s.1.toNat) s.2.2.1∧s.2.2.2.2.length≤s.1.toNat) (fun s=>(l.l.length-s.1).toNat) (0,y,Jbg G.p,0,[]) (fun _ _=>rfl) rfl rfl ⟨by simp,by simp,⟨_,hyok⟩,hyx,Jtu hB,by simp,by simp,by simp⟩ ?_;intro s t hs;obtain⟨hs1,hs2,⟨us,hsok⟩,hs4,hs5,hs6,hs7,hs8⟩:=hs;refine Nz 1 ?_;refine Wd (Qc (Cs (Cn ?_ ?_)))<;>intro hc2
 ·refine Ck (Qc (Cs (Ce (Nz 1 ?_))));refine Wk 0 Xc ?_;refine Wk 0 Ua ?_;refine Wq 1 zv51 fun b10 hb10=>?_;refine Wv 0 0 ?_;refine Wd (Qc (Cs (Cs ?_)));rcases Bool.eq_false_or_eq_true (!(decide (s.2.2.2.1≤(nth l.l s.1).t)&&decide ((nth l.l s.1).t≤1000000)))with hb|hb
  ·refine Ny 1 ?_;refine Wk 1 (Ba 0) ?_;refine Wk 1 (Cb rfl rfl Joc (fun u hu=>Jdz _ _ _ u)) ?_;refine Wk 0 (Jb5 (v:=.bool true) (congrArg (fun b=>some (Value.bool b)) hb)) ?_;refine Wf 0 rfl rfl (fun hg=>Fy_ (by cases hg)) ?_;refine Wf 0 rfl rfl (fun hg=>Fy_ (by cases hg)) ?_;refine Wf 0 rfl rfl (fun hg=>Fy_ (by cases hg)) ?_;refine Wf 0 rfl rfl (fun hg=>Fz_ (by cases hg)) ?_;refine Wk 0 Po ?_;refine Wp ?_ ?_<;>intro hc3
   ·have hTn:Jci s.2.2.2.1 (nth l.l s.1)=false:=by unfold Jci;simp at hb⊢;omega
    have hbd:(Jci s.2.2.2.1 (nth l.l s.1)&&(Ja1 G.p s.2.2.1 (nth l.l s.1)).isSome)=false:=by rw[hTn];rfl
    have hfv:(Jau G.p l.l)=(120,s.1,Jbg G.p):=Jky hB hL (by rw[hs6,Ja0 hs1 (by omega),Jf2 hbd]);refine Nz 3 ?_;exact Wd (Qc (Cr (Qr (Qs (Qr (Qr (Qs (Qr (out2 rfl rfl rfl (fun u hu=>(by exact⟨(s.2.1,s.2.2.1,s.2.2.2.2),⟨hs4,⟨u,hu.ro (j:=2) rfl⟩,fun h9↦by rw[hfv]at h9;simp at h9⟩,by rw[hfv],hu.sel [1,1,1,1] rfl⟩)))))))))))
   exact absurd hc3 (by simp)
  have hT:Jci s.2.2.2.1 (nth l.l s.1)=true:=by unfold Jci;simpa using hb
  refine Ny 1 ?_;refine Wk 1 (Ba 0) ?_;refine Wk 1 (Cb rfl rfl Joc (fun u hu=>Jdz _ _ _ u)) ?_;refine Wk 0 (Jb5 (v:=.bool false) (congrArg (fun b=>some (Value.bool b)) hb)) ?_;refine We 0 ?_;refine We 0 ?_;refine WS.callSg (want:=false) (j:=5) rfl rfl rfl Kdu (fun u hu=>J4t [_] [_,_] G hG hn g hW fb s.2.1 s.2.2.1 hs4 (nth l.l s.1) s.2.2.2.1 s.1 hs5 hT (by omega) hu) (fun _=>rfl) ?_;rintro⟨y2,f2⟩ ⟨hy2x,⟨uy2,hy2ok⟩,hf2⟩;dsimp only at hf2 hy2x hy2ok;refine We 0 ?_;refine Wk 0 Po ?_;refine Wp ?_ ?_<;>intro hc3
  ·have hbd:(Jci s.2.2.2.1 (nth l.l s.1)&&(Ja1 G.p s.2.2.1 (nth l.l s.1)).isSome)=false:=by rw[hT,Bool.true_and];simpa using hc3
   have hfv:(Jau G.p l.l)=(120,s.1,Jbg G.p):=Jky hB hL (by rw[hs6,Ja0 hs1 (by omega),Jf2 hbd]);refine Nz 3 ?_;exact Wd (Qc (Cr (Qr (Qs (Qr (Qr (Qs (Qr (out2 rfl rfl rfl (fun u hu=>(by exact⟨(y2,f2,s.2.2.2.2),⟨hy2x,⟨u,hu.ro (j:=2) rfl⟩,fun h9↦by rw[hfv]at h9;simp at h9⟩,by rw[hfv],hu.sel [1,1,1,1] rfl⟩)))))))))))
  have hgd:(Ja1 G.p s.2.2.1 (nth l.l s.1)).isSome=true:=by first|exact hc3|simpa using hc3
  obtain⟨f3,hf3⟩:=Option.isSome_iff_exists.1 hgd;obtain rfl:=hf2 f3 hf3;have hF2:=hs5.next hT hf3;refine Ck (Qc (Nz 1 ?_));refine Wk 1 (Ba 0) ?_;refine Nx 1 ?_;refine Wk 2 (Ba 0) ?_;refine Wj 0 ?_;refine Wt 0 rfl rfl (fun hg=>Jtv (eg_ hg rfl) rfl underlying1) ?_;refine Wk 0 Pa ?_;refine Wp ?_ ?_<;>intro hc4
  ·have hk1:(nth l.l s.1).k=1:=by first|exact hc4|simpa using hc4
   refine Ny 1 ?_;refine WS.sel [1,1,1,1] rfl ?_;refine WS.callS (β:=Unit) (p:=fun _=>True) (v:=fun _=>.tuple #[]) (L':=fun _=>[blk fb (fcl G y2 f2) 100,roS fun u=>PosOk u y2,Z (s.2.2.2.2++[f2.x.1.1]),R]) rfl rfl hent (fun u hu=>Calls.mono (hmv s.2.2.2.2 y2 f2 u hy2x hF2.pos (by omega) hu) fun e u2 h=>⟨(),trivial,h.1,h.2⟩) (fun _=>rfl) ?_;rintro⟨⟩ -;refine Wd (Qb (Qc (Ny 0 ?_)));refine Wk 1 Za ?_;exact Wd (QS.head ((s.1+1,y2,f2,(nth l.l s.1).t,s.2.2.2.2++[f2.x.1.1])) rfl rfl ⟨⟨by simp;omega,by simp;omega,⟨_,hy2ok⟩,hy2x,hF2,by rw[hs6,Ja0 hs1 (by omega),Jer hT hf3],by rw[hs7,Ja0 hs1 (by omega),J7g hf3 hk1,List.append_assoc];rfl,by simp;omega⟩,by simp;omega⟩)
  have hk1:¬(nth l.l s.1).k=1:=by first|exact hc4|simpa using hc4
  refine Ck (Qb (Qc (Ny 0 ?_)));refine Wk 1 Za ?_;refine Wd ?_;refine QS.sel [1,1,1,1] rfl ?_;exact QS.head ((s.1+1,y2,f2,(nth l.l s.1).t,s.2.2.2.2)) rfl rfl ⟨⟨by simp;omega,by simp;omega,⟨_,hy2ok⟩,hy2x,hF2,by rw[hs6,Ja0 hs1 (by omega),Jer hT hf3],by rw[hs7,Ja0 hs1 (by omega),J8i hf3 hk1],by simp;omega⟩,by simp;omega⟩
 have hrl:Jc9 G.p l.l 0 0 (Jbg G.p) = .ok s.2.2.1:=by rw[hs6,List.drop_of_length_le (by omega),Jc9]
 have hfv:(Jau G.p l.l)=(0,0,s.2.2.1):=Jrg hB hL hrl;refine Cv (Qe (Qe (Qx (Qc (Nz 2 ?_)))));exact Wd (Qc (Cr (out2 rfl rfl rfl (fun u hu=>⟨(s.2.1,s.2.2.1,s.2.2.2.2),⟨hs4,⟨u,hu.ro (j:=1) rfl⟩,fun h9↦by rw[hfv];exact⟨rfl,by rw[hs7,List.drop_of_length_le (by omega),Jht,List.append_nil]⟩⟩,by rw[hfv],hu.sel [0,0,0,0] rfl⟩))))
theorem Jtj {w u:World} (Z:List (List Int)→SA) (R:SA) (G:Game) (fb b5 b8:Nat) (y:Pos) (f:Film) (hyx:y.x=f.x) (hq:posG G.p f.x=0) (acc:List (List Int)) (hac:acc.length≤1000) (fn:FuncId) (cap:List Value) (hent:Ent prog fn) (hmv:∀(R:SA) (fb:Nat) (acc:List (List Int)) (y:Pos) (f:Film) (u:World),y.x=f.x→posG G.p f.x=0→acc.length≤1000→St w.heap.size w [blk fb (fcl G y f) 100,roS fun u=>PosOk u y,Z acc,R] u→Calls prog fn (.pointer (some ⟨fb,0,none⟩)::cap).toArray u (fun e u'=>e = .returned (.tuple #[])∧St w.heap.size w [blk fb (fcl G y f) 100,roS fun u=>PosOk u y,Z (acc++[f.x.1.1]),R] u')) (hu:St w.heap.size w [blk fb (fcl G y f) 100,roS fun u=>PosOk u y,Z acc,star [blk b8 [.pointer (some ⟨fb,0,none⟩)] 90,blk b5 [.func (.func fn) #[] cap.toArray] 93,R]] u):
  Calls prog 63 #[.pointer (some ⟨b5,0,none⟩),.pointer (some ⟨b8,0,none⟩)] u (fun e u'=>e = .returned (.tuple #[])∧St w.heap.size w [blk fb (fcl G y f) 100,roS fun u=>PosOk u y,Z (acc++[f.x.1.1]),star [blk b8 [.pointer (some ⟨fb,0,none⟩)] 90,blk b5 [.func (.func fn) #[] cap.toArray] 93,R]] u'):=by
 refine Ei (hu.sel [3,0,0,0] rfl).unpack func63 ?_;refine Ny 0 ?_;refine Wk 0 (Ba 1) ?_;refine Wk 0 (Ba 0) ?_;refine WS.callS (β:=Unit) (p:=fun _=>True) (v:=fun _=>.tuple #[]) (L':=fun _=>[blk fb (fcl G y f) 100,roS fun u=>PosOk u y,Z (acc++[f.x.1.1]),star [blk b8 [.pointer (some ⟨fb,0,none⟩)] 90,blk b5 [.func (.func fn) #[] cap.toArray] 93,R]]) rfl rfl hent (fun u hu=>Calls.mono (hmv _ fb acc y f u hyx hq hac ((St.pack (L1:=[_,_,_]) hu).sel [1,1,1,0] rfl)) fun e u2 h=>⟨(),trivial,h.1,h.2⟩) (fun _=>rfl) ?_;rintro⟨⟩ -;exact Wd (out0 (Or.inr rfl) rfl (fun u hu=>⟨rfl,hu⟩))
theorem J0a {w u:World} (Z:List (List Int)→SA) (R:SA) (G:Game) (hG:GameOk w G) (hn:NearG G) (g:Sl ByteArray) (hW:GOk w g) (l:Sl Entr) (hk:SlT cEntry w l) (fn:FuncId) (cap:List Value) (hent:Ent prog fn) (hmv:∀(R:SA) (fb:Nat) (acc:List (List Int)) (y:Pos) (f:Film) (u:World),y.x=f.x→posG G.p f.x=0→acc.length≤1000→St w.heap.size w [blk fb (fcl G y f) 100,roS fun u=>PosOk u y,Z acc,R] u→Calls prog fn (.pointer (some ⟨fb,0,none⟩)::cap).toArray u (fun e u'=>e = .returned (.tuple #[])∧St w.heap.size w [blk fb (fcl G y f) 100,roS fun u=>PosOk u y,Z (acc++[f.x.1.1]),R] u')) (hE:(Jau G.p l.l).1=0) (hu:St w.heap.size w [Z [],R] u):
  Calls prog 25 #[.agg (gcl G).toArray,l.v,.func (.func fn) #[] cap.toArray] u (fun e u'=>∃x:Nat×Pos,(x.2.x=(Jau G.p l.l).2.2.x∧∃u0,PosOk u0 x.2)∧e = .returned (.tuple #[.pointer (some ⟨x.1,0,none⟩),.int .i64 0])∧St w.heap.size w ([blk x.1 [G.rm.pls.v,G.rm.ths.v,G.rm.prs.v,G.rm.wys.v,G.rm.acs.v,G.rm.aus.v,.int .i64 G.rm.ply,G.rm.gl.v,G.lks.v,G.cds.v,G.nts.v,.int .i64 G.tr,x.2.st.ths.v,x.2.st.prs.v,x.2.st.pls.v,x.2.rd.v,.bool (Jau G.p l.l).2.2.st,.int .i64 (Jau G.p l.l).2.2.si,.int .i64 (Jau G.p l.l).2.2.pa,.int .i64 (Jau G.p l.l).2.2.en,.int .i64 (Jau G.p l.l).2.2.hi] 100,roS fun u=>PosOk u x.2,Z (Jht G.p l.l (Jbg G.p)),R]) u'):=by
 have hB:=(Jg4 hE).1;refine Ei hu func25 ?_;refine Nz 0 ?_;refine Wr 0 fun b3 hb3=>?_;refine Wr 2 fun b5 hb5=>?_;refine Nx 0 ?_;refine Wk 0 (Bb 1) ?_;refine Wc rfl rfl Jmp (fun u hu=>Jet G u (hG.st hu) hn g (hW.st hu) hB) (fun _=>rfl) ?_;rintro⟨fb,y⟩ ⟨hyx,uy,hyok⟩;refine WS.unpack ?_;refine Wz 3 ?_;refine Wq 0 zv90 fun b8 hb8=>?_;refine Ws 1 0 ?_;refine Nv 2 ?_;refine Wp ?_ ?_<;>intro hc1
 ·exact absurd trivial hc1
 refine Ck (Qc (Cs (Nz 0 ?_)));refine Wk 1 (Ba 0) ?_;refine Wk 0 (Jal rfl) ?_;refine WS.sel [4,5,1,1,2,0,0] rfl ?_;refine WS.weak (fun u hu=>St.pack (L1:=[_,_]) hu) ?_;refine WS.sel [4,4,0,0,0,0] rfl ?_;refine WS.weak (fun u hu=>St.pack (L1:=[_,_,_]) hu) ?_;refine WS.sel [1,1,1,0] rfl ?_;refine WS.callS rfl rfl Jz1 (fun u hu=>J48 _ Z G hG hn g hW fb y hyx hB l hk 63 [.pointer (some ⟨b5,0,none⟩),.pointer (some ⟨b8,0,none⟩)] J93 (fun acc y f u hyx hq hac hu=>Jtj Z _ G fb b5 b8 y f hyx hq acc hac fn cap hent hmv hu) hu) (fun _=>rfl) ?_;rintro⟨y2,f2,rows⟩ ⟨hy2x,⟨uy2,hy2ok⟩,hfin⟩;dsimp only at hfin hy2x hy2ok;refine WS.sel [3,0,0,0] rfl ?_;refine WS.unpack ?_;refine Wz 5 ?_;refine Nx 2 ?_;refine Wp ?_ ?_<;>intro hc2
 ·exact absurd hE hc2
 obtain⟨rfl,rfl⟩:=hfin hE;refine Ck (Qc (Nz 0 ?_));refine Wk 2 (Ba 0) ?_;exact Wd (Qc (Cr (out2 rfl rfl rfl (fun u hu=>⟨(fb,y2),⟨hy2x,uy2,hy2ok⟩,rfl,(((hu.sel [2,2,2,2] rfl).unpack).sel [2,2,2,1] rfl)⟩))))
theorem Jvh {w u:World} (Z:List (List Int)→SA) (R:SA) (G:Game) (hG:GameOk w G) (hn:NearG G) (g:Sl ByteArray) (hW:GOk w g) (l:Sl Entr) (hk:SlT cEntry w l) (fn:FuncId) (cap:List Value) (hent:Ent prog fn) (hmv:∀(R:SA) (fb:Nat) (acc:List (List Int)) (y:Pos) (f:Film) (u:World),y.x=f.x→posG G.p f.x=0→acc.length≤1000→St w.heap.size w [blk fb (fcl G y f) 100,roS fun u=>PosOk u y,Z acc,R] u→Calls prog fn (.pointer (some ⟨fb,0,none⟩)::cap).toArray u (fun e u'=>e = .returned (.tuple #[])∧St w.heap.size w [blk fb (fcl G y f) 100,roS fun u=>PosOk u y,Z (acc++[f.x.1.1]),R] u')) (hE:¬(Jau G.p l.l).1=0) (hB:(Jad G.p).1=0) (hu:St w.heap.size w [Z [],R] u):
  Calls prog 25 #[.agg (gcl G).toArray,l.v,.func (.func fn) #[] cap.toArray] u (fun e u'=>∃acc:List (List Int),True∧e = .returned (.tuple #[.pointer none,.int .i64 (Jau G.p l.l).1])∧St w.heap.size w ([Z acc,R]) u'):=by
 refine Ei hu func25 ?_;refine Nz 0 ?_;refine Wr 0 fun b3 hb3=>?_;refine Wr 2 fun b5 hb5=>?_;refine Nx 0 ?_;refine Wk 0 (Bb 1) ?_;refine Wc rfl rfl Jmp (fun u hu=>Jet G u (hG.st hu) hn g (hW.st hu) hB) (fun _=>rfl) ?_;rintro⟨fb,y⟩ ⟨hyx,uy,hyok⟩;refine WS.unpack ?_;refine Wz 3 ?_;refine Wq 0 zv90 fun b8 hb8=>?_;refine Ws 1 0 ?_;refine Nv 2 ?_;refine Wp ?_ ?_<;>intro hc1
 ·exact absurd trivial hc1
 refine Ck (Qc (Cs (Nz 0 ?_)));refine Wk 1 (Ba 0) ?_;refine Wk 0 (Jal rfl) ?_;refine WS.sel [4,5,1,1,2,0,0] rfl ?_;refine WS.weak (fun u hu=>St.pack (L1:=[_,_]) hu) ?_;refine WS.sel [4,4,0,0,0,0] rfl ?_;refine WS.weak (fun u hu=>St.pack (L1:=[_,_,_]) hu) ?_;refine WS.sel [1,1,1,0] rfl ?_;refine WS.callS rfl rfl Jz1 (fun u hu=>J48 _ Z G hG hn g hW fb y hyx hB l hk 63 [.pointer (some ⟨b5,0,none⟩),.pointer (some ⟨b8,0,none⟩)] J93 (fun acc y f u hyx hq hac hu=>Jtj Z _ G fb b5 b8 y f hyx hq acc hac fn cap hent hmv hu) hu) (fun _=>rfl) ?_;rintro⟨y2,f2,rows⟩ ⟨hy2x,⟨uy2,hy2ok⟩,hfin⟩;dsimp only at hfin hy2x hy2ok;refine WS.sel [3,0,0,0] rfl ?_;refine WS.unpack ?_;refine Wz 5 ?_;refine Nx 2 ?_;refine Wp ?_ ?_<;>intro hc2
 ·refine Nz 3 ?_;exact Wd (Qc (Cr (Qr (out2 rfl rfl rfl (fun u hu=>⟨rows,trivial,rfl,((((hu.sel [2,2,2,2] rfl).unpack).sel [2,2,2,1] rfl)).sel [2,2] rfl⟩)))))
 exact absurd hc2 hE
theorem Jvq {w u:World} (Z:List (List Int)→SA) (R:SA) (G:Game) (hG:GameOk w G) (hn:NearG G) (g:Sl ByteArray) (hW:GOk w g) (l:Sl Entr) (hk:SlT cEntry w l) (fn:FuncId) (cap:List Value) (hent:Ent prog fn) (hmv:∀(R:SA) (fb:Nat) (acc:List (List Int)) (y:Pos) (f:Film) (u:World),y.x=f.x→posG G.p f.x=0→acc.length≤1000→St w.heap.size w [blk fb (fcl G y f) 100,roS fun u=>PosOk u y,Z acc,R] u→Calls prog fn (.pointer (some ⟨fb,0,none⟩)::cap).toArray u (fun e u'=>e = .returned (.tuple #[])∧St w.heap.size w [blk fb (fcl G y f) 100,roS fun u=>PosOk u y,Z (acc++[f.x.1.1]),R] u')) (hB:¬(Jad G.p).1=0) (hu:St w.heap.size w [Z [],R] u):
  Calls prog 25 #[.agg (gcl G).toArray,l.v,.func (.func fn) #[] cap.toArray] u (fun e u'=>∃acc:List (List Int),True∧e = .returned (.tuple #[.pointer none,.int .i64 (Jau G.p l.l).1])∧St w.heap.size w ([Z acc,R]) u'):=by
 refine Ei hu func25 ?_;refine Nz 0 ?_;refine Wr 0 fun b3 hb3=>?_;refine Wr 2 fun b5 hb5=>?_;refine Nx 0 ?_;refine Wk 0 (Bb 1) ?_;refine Wk 3 (Cb rfl rfl Jmp (fun u hu=>Jjo G u (hG.st hu) hn g (hW.st hu) hB)) ?_;refine Wq 0 zv90 fun b8 hb8=>?_;refine Ws 1 0 ?_;refine Nv 2 ?_;refine Wp ?_ ?_<;>intro hc1
 ·refine Nz 3 ?_;exact Wd (Qc (Cr (Qr (out2 rfl rfl rfl (fun u hu=>⟨[],trivial,by rw[Jrn hB],hu.sel [3,3] rfl⟩)))))
 exact absurd hc1 hB
theorem J0p (fb:Nat) (w:World):Calls prog 26 #[.pointer (some ⟨fb,0,none⟩)] w (RetB w (.tuple #[])):=by
 refine En func26 ?_;exact Ck (out0 (Or.inr rfl) rfl retB)
section
variable {n0:Nat} {w0 u:World} {L:List SA} {a t z:SA}
theorem St.rest1 (h:St n0 w0 (a::L) u):St n0 w0 [a,YtmoojmgihdgceaaGreatDoor.star L] u:=by
 have h1:St n0 w0 (L++[a]) u:=h.perm (List.perm_append_comm (l₁:=[a]));exact h1.pack.perm (List.Perm.swap _ _ _)
theorem St.unrest1 (h:St n0 w0 [a,YtmoojmgihdgceaaGreatDoor.star L] u):St n0 w0 (a::L) u:=by
 have h1:St n0 w0 (YtmoojmgihdgceaaGreatDoor.star L::[a]) u:=h.perm (List.Perm.swap _ _ _);exact h1.unpack.perm List.perm_append_comm
theorem St.unrest3 (h:St n0 w0 [t,a,z,YtmoojmgihdgceaaGreatDoor.star L] u):St n0 w0 (t::a::z::L) u:=by
 have h1:St n0 w0 (YtmoojmgihdgceaaGreatDoor.star L::[t,a,z]) u:=h.perm (List.perm_append_comm (l₁:=[t,a,z]) (l₂:=[YtmoojmgihdgceaaGreatDoor.star L]));exact h1.unpack.perm List.perm_append_comm
end
theorem Jvp {w u:World} (Z:List (List Int)→SA) (G:Game) (hG:GameOk w G) (hn:NearG G) (g:Sl ByteArray) (hW:GOk w g) (l:Sl Entr) (hk:SlT cEntry w l) (fn:FuncId) (cap:List Value) (hent:Ent prog fn) (hmv:∀(R:SA) (fb:Nat) (acc:List (List Int)) (y:Pos) (f:Film) (u:World),y.x=f.x→posG G.p f.x=0→acc.length≤1000→St w.heap.size w [blk fb (fcl G y f) 100,roS fun u=>PosOk u y,Z acc,R] u→Calls prog fn (.pointer (some ⟨fb,0,none⟩)::cap).toArray u (fun e u'=>e = .returned (.tuple #[])∧St w.heap.size w [blk fb (fcl G y f) 100,roS fun u=>PosOk u y,Z (acc++[f.x.1.1]),R] u')) (L:List SA) (hE:(Jau G.p l.l).1=0) (hu:St w.heap.size w (Z []::L) u):Calls prog 25 #[.agg (gcl G).toArray,l.v,.func (.func fn) #[] cap.toArray] u (fun e u'=>∃x:Nat×Pos,(x.2.x=(Jau G.p l.l).2.2.x∧∃u0,PosOk u0 x.2)∧e = .returned (.tuple #[.pointer (some ⟨x.1,0,none⟩),.int .i64 0])∧St w.heap.size w (blk x.1 [G.rm.pls.v,G.rm.ths.v,G.rm.prs.v,G.rm.wys.v,G.rm.acs.v,G.rm.aus.v,.int .i64 G.rm.ply,G.rm.gl.v,G.lks.v,G.cds.v,G.nts.v,.int .i64 G.tr,x.2.st.ths.v,x.2.st.prs.v,x.2.st.pls.v,x.2.rd.v,.bool (Jau G.p l.l).2.2.st,.int .i64 (Jau G.p l.l).2.2.si,.int .i64 (Jau G.p l.l).2.2.pa,.int .i64 (Jau G.p l.l).2.2.en,.int .i64 (Jau G.p l.l).2.2.hi] 100::(roS fun u=>PosOk u x.2)::Z (Jht G.p l.l (Jbg G.p))::L) u'):=by
 refine Calls.mono (J0a Z (YtmoojmgihdgceaaGreatDoor.star L) G hG hn g hW l hk fn cap hent hmv hE hu.rest1) ?_;rintro e u' ⟨x,h1,h2,h3⟩;exact⟨x,h1,h2,h3.unrest3⟩
theorem Jvm {w u:World} (Z:List (List Int)→SA) (G:Game) (hG:GameOk w G) (hn:NearG G) (g:Sl ByteArray) (hW:GOk w g) (l:Sl Entr) (hk:SlT cEntry w l) (fn:FuncId) (cap:List Value) (hent:Ent prog fn) (hmv:∀(R:SA) (fb:Nat) (acc:List (List Int)) (y:Pos) (f:Film) (u:World),y.x=f.x→posG G.p f.x=0→acc.length≤1000→St w.heap.size w [blk fb (fcl G y f) 100,roS fun u=>PosOk u y,Z acc,R] u→Calls prog fn (.pointer (some ⟨fb,0,none⟩)::cap).toArray u (fun e u'=>e = .returned (.tuple #[])∧St w.heap.size w [blk fb (fcl G y f) 100,roS fun u=>PosOk u y,Z (acc++[f.x.1.1]),R] u')) (L:List SA) (hE:¬(Jau G.p l.l).1=0) (hu:St w.heap.size w (Z []::L) u):Calls prog 25 #[.agg (gcl G).toArray,l.v,.func (.func fn) #[] cap.toArray] u (fun e u'=>∃acc:List (List Int),True∧e = .returned (.tuple #[.pointer none,.int .i64 (Jau G.p l.l).1])∧St w.heap.size w (Z acc::L) u'):=by
 by_cases hB:(Jad G.p).1=0
 ·refine Calls.mono (Jvh Z (YtmoojmgihdgceaaGreatDoor.star L) G hG hn g hW l hk fn cap hent hmv hE hB hu.rest1) ?_;rintro e u' ⟨x,h1,h2,h3⟩;exact⟨x,h1,h2,h3.unrest1⟩
 refine Calls.mono (Jvq Z (YtmoojmgihdgceaaGreatDoor.star L) G hG hn g hW l hk fn cap hent hmv hB hu.rest1) ?_;rintro e u' ⟨x,h1,h2,h3⟩;exact⟨x,h1,h2,h3.unrest1⟩
theorem J3a {w u:World} (L:List SA) (G:Game) (hG:GameOk w G) (hn:NearG G) (g:Sl ByteArray) (hW:GOk w g) (l:Sl Entr) (hk:SlT cEntry w l) (hE:(Jau G.p l.l).1=0) (hu:St w.heap.size w (YtmoojmgihdgceaaGreatDoor.osl 0 1 (.slice none 0 0) 0 []::L) u):Calls prog 25 #[.agg (gcl G).toArray,l.v,.func (.func 26) #[] #[]] u (fun e u'=>∃x:Nat×Pos,(x.2.x=(Jau G.p l.l).2.2.x∧∃u0,PosOk u0 x.2)∧e = .returned (.tuple #[.pointer (some ⟨x.1,0,none⟩),.int .i64 0])∧St w.heap.size w (blk x.1 [G.rm.pls.v,G.rm.ths.v,G.rm.prs.v,G.rm.wys.v,G.rm.acs.v,G.rm.aus.v,.int .i64 G.rm.ply,G.rm.gl.v,G.lks.v,G.cds.v,G.nts.v,.int .i64 G.tr,x.2.st.ths.v,x.2.st.prs.v,x.2.st.pls.v,x.2.rd.v,.bool (Jau G.p l.l).2.2.st,.int .i64 (Jau G.p l.l).2.2.si,.int .i64 (Jau G.p l.l).2.2.pa,.int .i64 (Jau G.p l.l).2.2.en,.int .i64 (Jau G.p l.l).2.2.hi] 100::(roS fun u=>PosOk u x.2)::YtmoojmgihdgceaaGreatDoor.osl 0 1 (.slice none 0 0) 0 []::L) u'):=
 Jvp (fun _=>YtmoojmgihdgceaaGreatDoor.osl 0 1 (.slice none 0 0) 0 []) G hG hn g hW l hk 26 [] Ked (fun R fb acc y f u hyx hq hac hu=>Calls.mono (J0p fb u) fun e u2 h=>⟨h.1,hu.ext h.2⟩) L hE hu
theorem J3f {w u:World} (L:List SA) (G:Game) (hG:GameOk w G) (hn:NearG G) (g:Sl ByteArray) (hW:GOk w g) (l:Sl Entr) (hk:SlT cEntry w l) (hE:¬(Jau G.p l.l).1=0) (hu:St w.heap.size w (YtmoojmgihdgceaaGreatDoor.osl 0 1 (.slice none 0 0) 0 []::L) u):Calls prog 25 #[.agg (gcl G).toArray,l.v,.func (.func 26) #[] #[]] u (fun e u'=>∃acc:List (List Int),True∧e = .returned (.tuple #[.pointer none,.int .i64 (Jau G.p l.l).1])∧St w.heap.size w (YtmoojmgihdgceaaGreatDoor.osl 0 1 (.slice none 0 0) 0 []::L) u'):=
 Jvm (fun _=>YtmoojmgihdgceaaGreatDoor.osl 0 1 (.slice none 0 0) 0 []) G hG hn g hW l hk 26 [] Ked (fun R fb acc y f u hyx hq hac hu=>Calls.mono (J0p fb u) fun e u2 h=>⟨h.1,hu.ext h.2⟩) L hE hu
section
variable {P:Program} {ro:Option Nat} {n0:Nat} {w0:World} {ds:List Deferred} {ops:Array Oper} {Q:Exit→Act→World→Prop} {L:List SA} {rest:List Oper} {l:List Value}
theorem WS.ex {β:Type} {f:β→SA} (k:∀b,WS P ro n0 w0 ds ops Q (f b::L) rest l):WS P ro n0 w0 ds ops Q (exS f::L) rest l:=fun u hu=>let⟨b,hb⟩:=hu.ex;k b u hb
theorem WS.factE {p:Prop} {j:Nat} (hj:L[j]? = some (fact p)) (kk:p→WS P ro n0 w0 ds ops Q L rest l):WS P ro n0 w0 ds ops Q L rest l:=fun u hu=>kk (hu.factE hj) u hu
end
theorem Jp6 (G:Game) (w:World) (hG:GameOk w G) (hn:NearG G) (g:Sl ByteArray) (hW:GOk w g) (l:Sl Entr) (hk:SlT cEntry w l) (hE:(Jau G.p l.l).1=0):
  Calls prog 9 #[.agg (gcl G).toArray,l.v] w (RetB w (.tuple #[.int .i64 (Jed G.p l.l).2.1,.int .i64 (Jed G.p l.l).2.2,.int .i64 (Jed G.p l.l).1])):=by
 refine En func9 ?_;refine Nz 0 ?_;refine Wr 3 fun b2 hb2=>?_;refine Nx 0 ?_;refine Wk 1 (Bb 0) ?_;refine WS.weak (fun u hu=>hu.osl0 (e:=0) (size:=1)) ?_;refine WS.callS rfl rfl Kcd (fun u hu=>J3a _ G hG hn g hW l hk hE hu) (fun _=>rfl) ?_;rintro⟨fb,y⟩ ⟨hyx,uy,hyok⟩;dsimp only at hyx hyok;refine Wz 5 ?_;refine Nv 2 ?_;refine Wp ?_ ?_<;>intro hc1
 ·exact absurd trivial hc1
 refine Ck (Qc (Cs (Nz 3 ?_)));refine Wk 1 (Ba 0) ?_;refine Wp ?_ ?_<;>intro hc2
 ·refine Nz 3 ?_;exact Wd (Qc (Cr (Qr (out3 rfl rfl rfl rfl (Jab (by rw[Jlo hE hc2]))))))
 refine Ck (Qc (Cs (Dr mixed 3 ?_)));refine Dk 3 (Ba 0) ?_;refine Dk 3 (Ba 0) ?_;exact Dd (Qc (Cr (out3 rfl rfl rfl rfl (Jab (by rw[Jz0 hE (by omega)])))))
theorem Jra (G:Game) (w:World) (hG:GameOk w G) (hn:NearG G) (g:Sl ByteArray) (hW:GOk w g) (l:Sl Entr) (hk:SlT cEntry w l) (hE:¬(Jau G.p l.l).1=0):
  Calls prog 9 #[.agg (gcl G).toArray,l.v] w (RetB w (.tuple #[.int .i64 (Jed G.p l.l).2.1,.int .i64 (Jed G.p l.l).2.2,.int .i64 (Jed G.p l.l).1])):=by
 refine En func9 ?_;refine Nz 0 ?_;refine Wr 3 fun b2 hb2=>?_;refine Nx 0 ?_;refine Wk 1 (Bb 0) ?_;refine WS.weak (fun u hu=>hu.osl0 (e:=0) (size:=1)) ?_;refine WS.callS rfl rfl Kcd (fun u hu=>J3f _ G hG hn g hW l hk hE hu) (fun _=>rfl) ?_;rintro acc -;refine Wz 5 ?_;refine Nv 2 ?_;refine Wp ?_ ?_<;>intro hc1
 ·refine Nz 4 ?_;exact Wd (Qc (Cr (Qr (out3 rfl rfl rfl rfl (Jab (by rw[J81 hE]))))))
 exact absurd hc1 hE
theorem Jvg (G:Game) (w:World) (hG:GameOk w G) (hn:NearG G) (g:Sl ByteArray) (hW:GOk w g) (l:Sl Entr) (hk:SlT cEntry w l):
  Calls prog 9 #[.agg (gcl G).toArray,l.v] w (RetB w (.tuple #[.int .i64 (Jed G.p l.l).2.1,.int .i64 (Jed G.p l.l).2.2,.int .i64 (Jed G.p l.l).1])):=by
 by_cases hE:(Jau G.p l.l).1=0
 ·exact Jp6 G w hG hn g hW l hk hE
 exact Jra G w hG hn g hW l hk hE
theorem Jv0 (G:Game) (w:World) (hG:GameOk w G) (hn:NearG G) (g:Sl ByteArray) (hW:GOk w g) (ms:Sl Timed) (hk:SlT cTimed w ms) (hml:ms.l.length≤1000) (hB:(Jad G.p).1=0):
  Calls prog 10 #[.agg (gcl G).toArray,ms.v] w (RetT cEntry w (Jbd G.p ms.l).2.2 fun v=>.tuple #[v,.int .i64 (Jbd G.p ms.l).2.1,.int .i64 (Jbd G.p ms.l).1]):=by
 have lls:=hk.le;refine En func10 ?_;refine Nz 0 ?_;refine Wr 3 fun b2 hb2=>?_;refine Nx 0 ?_;refine Wk 0 (Bb 0) ?_;refine Wc rfl rfl Jmp (fun u hu=>Jet G u (hG.st hu) hn g (hW.st hu) hB) (fun _=>rfl) ?_;rintro⟨fb,y⟩ ⟨hyx,uy,hyok⟩;refine WS.unpack ?_;refine Wz 5 ?_;refine Nv 2 ?_;refine Wp ?_ ?_<;>intro hc1
 ·exact absurd trivial hc1
 refine Ck (Qc (Nz 1 ?_));refine Nv 1 ?_;refine Wk 1 Nc ?_;refine Nu ?_;refine CS.weak (fun _ hu=>hu.osl0 (e:=51) (size:=7)) ?_;refine CS.loopM (σ:=Int×Int×Pos×Value×List Entr) (rsL [5,6,9,13,25,85]) (fun s=>[(24,.int .i64 s.1),(8,.int .i64 s.2.1),(4,s.2.2.2.1)]) (fun s=>[oT cEntry 51 s.2.2.2.1 s.2.2.2.2,blk fb (fcl G s.2.2.1 ({Jbg G.p with x:=s.2.2.1.x}:Film)) 100,roS fun u=>PosOk u s.2.2.1,blk b2 (gcl G) 36]) (fun s=>0≤s.1∧s.1≤ms.l.length∧(∃u0,PosOk u0 s.2.2.1)∧posG G.p s.2.2.1.x=0∧(s.2.2.2.2.length:Int)≤16*s.1∧True∧recF G.p ms.l 0 0 (Jad G.p).2 []=recF G.p (ms.l.drop s.1.toNat) s.1 s.2.1 s.2.2.1.x s.2.2.2.2) (fun s=>(ms.l.length-s.1).toNat) (0,0,y,.slice none 0 0,[]) (fun _ _=>rfl) rfl rfl ⟨by simp,by simp,⟨_,hyok⟩,by rw[hyx];exact Jcz hB,by simp,trivial,by rw[hyx];simp⟩ ?_;intro a t hs;obtain⟨ha1,ha2,⟨ua,haok⟩,ha4,ha5,ha6,ha7⟩:=hs;obtain⟨haa,hab,hac⟩:=haok.st.ones;have had:=Sl.one haok.rd;have hnth:=hn.rm.ths;have hahn:a.2.2.1.st.ths.l.length=G.rm.ths.l.length:=Jib ha4;refine Nz 1 ?_;refine Wd (Qc (Cs (Cn ?_ ?_)))<;>intro hc2
 ·refine Ck (Qc (Cs (Ce (Nz 1 ?_))));refine Wk 0 Xc ?_;refine Wk 0 Ua ?_;refine Wq 1 zv54 fun b10 hb10=>?_;refine Wv 0 0 ?_;refine Nv 1 ?_;refine Wk 1 (Ba 0) ?_;refine Wk 1 (Cb rfl rfl Joc (fun u hu=>Jdz _ _ _ u)) ?_;refine Wp ?_ ?_<;>intro hc3
  ·have hTn:¬(a.2.1≤(nth ms.l a.1).t∧(nth ms.l a.1).t≤1000000):=by have h9:=hc3;first|omega|(simp at h9;omega)
   refine Nz 4 ?_;refine Wd (Qc (Cr (Qr (Qs (Qr (Qr (Qs (Qr ?_))))))))
   exact out3 rfl rfl rfl rfl (by
     have hv:(Jbd G.p ms.l)=(1,a.1,[]):=Jsf hB (by decide) (by rw[ha7,Ja0 ha1 (by omega),Jzq hTn]);rw[hv]
     exact fun u hu=>J3p (C:=cEntry) (f:=fun v=>.tuple #[v,.int .i64 a.1,.int .i64 1]) hu)
  have hTy:a.2.1≤(nth ms.l a.1).t∧(nth ms.l a.1).t≤1000000:=by have h9:=hc3;first|omega|(simp at h9;omega)
  refine Ck (Qc (Nz 1 ?_));refine Wk 1 (Ba 0) ?_;refine Nx 5 ?_;refine Wk 0 (Ba 2) ?_;refine Wc rfl rfl Jir (fun u hu=>Jcp _ _ u ((hu.ro (j:=3) rfl).st.ths.ints) (by show a.2.2.1.st.ths.l.length≤1000000;omega)) (fun _=>rfl) ?_;intro v43 hv43;refine Wz 1 ?_;refine Nv 2 ?_;refine Wk 0 (Bc 1) ?_;refine WS.callS rfl rfl J99 (fun u hu=>J4i [_,_,_] [_] G hG hn g hW fb a.2.2.1 ({Jbg G.p with x:=a.2.2.1.x}) rfl ha4 (nth ms.l a.1).m hu) (fun _=>rfl) ?_;rintro z ⟨hzx,uz,hzok⟩;obtain⟨hza,hzb,hzc⟩:=hzok.st.ones;have hzd:=Sl.one hzok.rd;dsimp only at hzx;refine Wz 1 ?_;refine Wp ?_ ?_<;>intro hc4
  ·have hSn:¬(Jak G.p a.2.2.1.x (nth ms.l a.1).m).1=0:=by first|exact hc4|simpa using hc4
   refine Nz 4 ?_;refine Wd (Qc (Cr (Qr (Qs (Qr (Qr (Qs (Qr ?_))))))))
   exact out3 rfl rfl rfl rfl (by
     have hv:(Jbd G.p ms.l)=(29,a.1,[]):=Jsf hB (by decide) (by rw[ha7,Ja0 ha1 (by omega),Jz7 hTy hSn]);rw[hv]
     exact fun u hu=>J3p (C:=cEntry) (f:=fun v=>.tuple #[v,.int .i64 a.1,.int .i64 29]) hu)
  have hS:(Jak G.p a.2.2.1.x (nth ms.l a.1).m).1=0:=by first|exact hc4|simpa using hc4
  rw[if_pos hS]at hzx;have hgd:=Jgb (p:=Jin a.2.2.1.x) hS;have hzq:posG G.p z.x=0:=by rw[hzx];exact hgd.2.2
  have hzn:z.st.ths.l.length=G.rm.ths.l.length:=Jib hzq;have hzl:z.st.ths.l=(Jak G.p a.2.2.1.x (nth ms.l a.1).m).2.1.1:=by rw[←hzx];rfl
  refine Ck (Qc (Nz 2 ?_));refine Wk 1 (Ba 1) ?_;refine Wk 0 (Bc 1) ?_;refine Wk 0 (Jaq Jlc zv51 (pcs:=[(0,[.int .i64 (nth ms.l a.1).t]),(1,[.int .i64 1]),(2,[.int .i64 (nth ms.l a.1).m.p,.int .i64 (nth ms.l a.1).m.k,.int .i64 (nth ms.l a.1).m.n])]) rfl (CellsOf.one rfl (CellsOf.one rfl (CellsOf.agg CellsOf.nil))) rfl) ?_;refine WS.buildT1 cEntry (a:=(⟨(nth ms.l a.1).t,1,(nth ms.l a.1).m,0,0⟩:Entr)) sl38 zv51 rfl (by decide) (fun _=>rfl) ?_;intro v56;refine WS.appendT1 (C:=cEntry) (a:=(⟨(nth ms.l a.1).t,1,(nth ms.l a.1).m,0,0⟩:Entr)) (j:=3) (jz:=0) sl38 zv51 rfl (by decide) rfl rfl rfl rfl (w:=w) trivial (by omega) (by omega) (fun _=>rfl) (fun _=>rfl) ?_;intro v57 hv57;refine Wz 1 ?_;refine Nx 5 ?_;refine Wk 0 (Ba 4) ?_;refine Wk 1 (Jgm (s:=z.st.ths) sl37 rfl hzok.st.ths) ?_;refine Nu ?_;refine CS.sel [3,1,1,1,1,1] rfl ?_;refine CS.loopM (σ:=Int×Value) (rsL [12,13,66,84]) (fun s=>[(65,.int .i64 s.1),(4,s.2)]) (fun s=>[oT cEntry 51 s.2 (a.2.2.2.2++⟨(nth ms.l a.1).t,1,(nth ms.l a.1).m,0,0⟩::Jev (nth ms.l a.1).t a.2.2.1.x.1.1 (Jak G.p a.2.2.1.x (nth ms.l a.1).m).2.1.1 s.1),oints 3 v43 a.2.2.1.st.ths.l,blk b10 (cTimed.cells (nth ms.l a.1)) 54,blk fb (fcl G z ({Jbg G.p with x:=z.x}:Film)) 100,roS fun u=>PosOk u z,blk b2 (gcl G) 36]) (fun s=>0≤s.1∧s.1≤z.st.ths.l.length) (fun s=>(z.st.ths.l.length-s.1).toNat) (0,v57) (fun _ _=>rfl) rfl rfl ⟨by simp,by simp⟩ ?_;intro q t hs;obtain⟨hq1,hq2⟩:=hs;refine Nz 1 ?_;refine Wd (Qc (Cs (Cn ?_ ?_)))<;>intro hc5
  ·have hql:q.1<(z.st.ths.l.length:Int):=by first|exact hc5|simpa using hc5
   have hsl:=Jl4 (t:=(nth ms.l a.1).t) (old:=a.2.2.1.x.1.1) (new:=(Jak G.p a.2.2.1.x (nth ms.l a.1).m).2.1.1) (k:=q.1);have hcl:(a.2.2.2.2++⟨(nth ms.l a.1).t,1,(nth ms.l a.1).m,0,0⟩::Jev (nth ms.l a.1).t a.2.2.1.x.1.1 (Jak G.p a.2.2.1.x (nth ms.l a.1).m).2.1.1 q.1).length=a.2.2.2.2.length+1+(Jev (nth ms.l a.1).t a.2.2.1.x.1.1 (Jak G.p a.2.2.1.x (nth ms.l a.1).m).2.1.1 q.1).length:=by simp;omega
   refine Ck (Qc (Cs (Ce (Nz 1 ?_))));refine Wk 0 (Jcd (s:=z.st.ths) sl37 rfl rfl hzok.st.ths rfl (by omega) (by omega)) ?_;refine Wk 2 (Jda 4 (s:=z.st.ths) rfl (fun _ h↦h.st.ths) rfl rfl ⟨by omega,by omega⟩ rfl tk3) ?_;refine Nx 3 ?_;refine Wk 0 (Xb 1) ?_;refine Wk 1 (Jjd (j:=1) rfl rfl ⟨by omega,by omega⟩ tk3) ?_;refine Wp ?_ ?_<;>intro hc6
   ·have hne:¬nth (Jak G.p a.2.2.1.x (nth ms.l a.1).m).2.1.1 q.1=nth a.2.2.1.x.1.1 q.1:=by rw[←hzl];first|exact hc6|simpa using hc6
    refine Ny 2 ?_;refine Wk 2 (Ba 2) ?_;refine Wk 0 (Jaq Jlc zv51 (pcs:=[(0,[.int .i64 (nth ms.l a.1).t]),(1,[.int .i64 5]),(3,[.int .i64 q.1]),(4,[.int .i64 (nth z.st.ths.l q.1)])]) rfl (CellsOf.one rfl (CellsOf.one rfl (CellsOf.one rfl (CellsOf.one rfl CellsOf.nil)))) rfl) ?_;refine WS.buildT1 cEntry (a:=⟨(nth ms.l a.1).t,5,mv0,q.1,nth z.st.ths.l q.1⟩) sl38 zv51 rfl (by decide) (fun _=>rfl) ?_;intro v82;refine WS.appendT1 (C:=cEntry) (a:=⟨(nth ms.l a.1).t,5,mv0,q.1,nth z.st.ths.l q.1⟩) (j:=1) (jz:=0) sl38 zv51 rfl (by decide) rfl rfl rfl rfl (w:=w) trivial (by omega) (by omega) (fun _=>rfl) (fun _=>rfl) ?_;intro v83 hv83;refine Wz 1 ?_;refine Wd (Qb (Qc (Ny 0 ?_)));refine Wk 1 Za ?_;refine Wd ?_;refine QS.sel [1,1,1,1,1,1] rfl ?_;exact QS.head ((q.1+1,v83)) rfl (by first|simp only[←Jl7 hq1 hne,hzl,List.append_assoc,List.cons_append,List.nil_append]|simp only[←Jnv hq1 heq]) ⟨⟨by simp;omega,by simp;omega⟩,by simp;omega⟩
   have heq:nth (Jak G.p a.2.2.1.x (nth ms.l a.1).m).2.1.1 q.1=nth a.2.2.1.x.1.1 q.1:=by rw[←hzl];first|exact hc6|simpa using hc6
   refine Ck (Qb (Qc (Ny 0 ?_)));refine Wk 1 Za ?_;exact Wd (QS.head ((q.1+1,q.2)) rfl (by first|simp only[←Jl7 hq1 hne,hzl,List.append_assoc,List.cons_append,List.nil_append]|simp only[←Jnv hq1 heq]) ⟨⟨by simp;omega,by simp;omega⟩,by simp;omega⟩)
  have hqe:q.1=(Jak G.p a.2.2.1.x (nth ms.l a.1).m).2.1.1.length:=by rw[←hzl];omega
  have hsl:=Jl4 (t:=(nth ms.l a.1).t) (old:=a.2.2.1.x.1.1) (new:=(Jak G.p a.2.2.1.x (nth ms.l a.1).m).2.1.1) (k:=q.1);rw[←hzl]at hqe;have hse:=Juk (t:=(nth ms.l a.1).t) (old:=a.2.2.1.x.1.1) (new:=(Jak G.p a.2.2.1.x (nth ms.l a.1).m).2.1.1) (k:=q.1) (by rw[←hzl];exact hqe);refine Cv (Qe (Qe (Qx (Qb (Qc (Ny 0 ?_))))));refine Wk 1 Za ?_;refine Wd ?_;refine QS.sel [0,2,2,2] rfl ?_;exact QS.head ((a.1+1,(nth ms.l a.1).t,z,q.2,(a.2.2.2.2++⟨(nth ms.l a.1).t,1,(nth ms.l a.1).m,0,0⟩::Jev (nth ms.l a.1).t a.2.2.1.x.1.1 (Jak G.p a.2.2.1.x (nth ms.l a.1).m).2.1.1 q.1))) rfl rfl ⟨⟨by simp;omega,by simp;omega,⟨_,hzok⟩,hzq,by simp;omega,trivial,by rw[ha7,Ja0 ha1 (by omega),Jsu hTy hS,hse,←hzx]⟩,by simp;omega⟩
 have hrn:recF G.p ms.l 0 0 (Jad G.p).2 []=(0,0,a.2.2.2.2,a.2.2.1.x):=by rw[ha7,List.drop_of_length_le (by omega),recF]
 refine Cv (Qe (Qe (Qx (Qc (Cs (Nz 1 ?_))))));refine Wk 1 (Jcn (j:=0) sl38 rfl rfl) ?_;refine Wp ?_ ?_<;>intro hc7
 ·refine Nz 3 ?_;refine Wd (Qc (Cr (Qr ?_)))
  exact out3 rfl rfl rfl rfl (by
    have hv:(Jbd G.p ms.l)=(2,0,[]):=J2h hB hrn (by omega);rw[hv]
    exact fun u hu=>J3p (C:=cEntry) (f:=fun v=>.tuple #[v,.int .i64 0,.int .i64 2]) hu)
 refine Ck (Qc (Nz 4 ?_));refine Wd (Qc (Cr ?_))
 exact out3 rfl rfl rfl rfl (by
   have hv:(Jbd G.p ms.l)=(0,0,a.2.2.2.2):=Js7 hB hrn (by omega);rw[hv]
   exact fun u hu=>retT (C:=cEntry) (f:=fun v=>.tuple #[v,.int .i64 0,.int .i64 0]) (j:=0) (fun _ _ _=>trivial) rfl hu)
theorem Juw (G:Game) (w:World) (hG:GameOk w G) (hn:NearG G) (g:Sl ByteArray) (hW:GOk w g) (ms:Sl Timed) (hk:SlT cTimed w ms) (hml:ms.l.length≤1000) (hB:¬(Jad G.p).1=0):
  Calls prog 10 #[.agg (gcl G).toArray,ms.v] w (RetT cEntry w (Jbd G.p ms.l).2.2 fun v=>.tuple #[v,.int .i64 (Jbd G.p ms.l).2.1,.int .i64 (Jbd G.p ms.l).1]):=by
 refine En func10 ?_;refine Nz 0 ?_;refine Wr 3 fun b2 hb2=>?_;refine Nx 0 ?_;refine Wk 0 (Bb 0) ?_;refine Wk 5 (Cb rfl rfl Jmp (fun u hu=>Jjo G u (hG.st hu) hn g (hW.st hu) hB)) ?_;refine Nv 2 ?_;refine Wp ?_ ?_<;>intro hc1
 ·refine Nz 4 ?_;refine Wd (Qc (Cr (Qr ?_)))
  exact out3 rfl rfl rfl rfl (by
    have hv:(Jbd G.p ms.l)=((Jad G.p).1,0,[]):=J2a hB;rw[hv]
    exact fun u hu=>J3p (C:=cEntry) (f:=fun v=>.tuple #[v,.int .i64 0,.int .i64 (Jad G.p).1]) hu)
 exact absurd hc1 hB
theorem Jxs (G:Game) (w:World) (hG:GameOk w G) (hn:NearG G) (g:Sl ByteArray) (hW:GOk w g) (ms:Sl Timed) (hk:SlT cTimed w ms) (hml:ms.l.length≤1000):
  Calls prog 10 #[.agg (gcl G).toArray,ms.v] w (RetT cEntry w (Jbd G.p ms.l).2.2 fun v=>.tuple #[v,.int .i64 (Jbd G.p ms.l).2.1,.int .i64 (Jbd G.p ms.l).1]):=by
 by_cases hB:(Jad G.p).1=0
 ·exact Jv0 G w hG hn g hW ms hk hml hB
 exact Juw G w hG hn g hW ms hk hml hB
theorem Jzd:(Jak exG.p (([0,0],[0],[0]),[true,true,false]) ⟨0,4,0⟩).1=0∧(Jak exG.p (([0,0],[0],[0]),[true,true,false]) ⟨0,4,0⟩).2.1.1=[1,0]:=by
 unfold Jak;rw[Kec,if_pos rfl];exact⟨by kernel_rfl,by kernel_rfl⟩
def Jq8:List Entr:=[⟨5,1,⟨0,4,0⟩,0,0⟩,⟨5,5,mv0,0,1⟩]
theorem Kgd:Jbd exG.p [⟨5,⟨0,4,0⟩⟩]=(0,0,Jq8):=by
 have hB:(Jad exG.p).1=0:=by rw[Js0]
 have hx:(Jad exG.p).2=(([0,0],[0],[0]),[true,true,false]):=by rw[Js0]
 refine Js7 hB (o:=Jq8) (x:=(Jak exG.p (([0,0],[0],[0]),[true,true,false]) ⟨0,4,0⟩).2) ?_ (by decide);rw[hx,Jsu ⟨by decide,by decide⟩ Jzd.1,recF];show(0,0,[]++(⟨5,1,⟨0,4,0⟩,0,0⟩:Entr)::Jsg 5 [0,0] (Jak exG.p (([0,0],[0],[0]),[true,true,false]) ⟨0,4,0⟩).2.1.1,_)=_;rw[Jzd.2];rfl
theorem Jmx (w:World) (g:Sl ByteArray) (hW:GOk w g):Calls prog 13 #[] w (RetB w (.bool true)):=by
 refine En func13 ?_;refine Nz 1 ?_;refine Nx 0 ?_;refine Wc rfl rfl Kf1 (fun u hu=>Jus u) (fun _=>rfl) ?_;rintro c ⟨hcp,uc,hcok⟩;have hnc:=J1l hcp J63;have o1:=Sl.one hcok.rm.pls;have o2:=Sl.one hcok.rm.ths;have o3:=Sl.one hcok.rm.prs;have o4:=Sl.one hcok.rm.wys;have o5:=Sl.one hcok.rm.acs;have o6:=Sl.one hcok.rm.aus;have o7:=Sl.one hcok.rm.gl;have o8:=Sl.one hcok.lks;have o9:=Sl.one hcok.cds;have o10:=Sl.one hcok.nts;refine Wk 0 (Db Jz2 zv49) ?_;refine Wk 0 (Jaq Kft zv54 (pcs:=[(0,[.int .i64 5]),(1,[.int .i64 0,.int .i64 4,.int .i64 0])]) rfl (CellsOf.one rfl (CellsOf.agg CellsOf.nil)) rfl) ?_;refine WS.buildT1 cTimed (a:=⟨5,⟨0,4,0⟩⟩) sl52 zv54 rfl (by decide) (fun _=>rfl) ?_;intro v8;refine Wc rfl rfl Keq (fun u hu=>(by have q:=Jxs c u (hu.ro (j:=1) rfl) hnc g (hW.st hu) ⟨v8,[⟨5,⟨0,4,0⟩⟩]⟩ ⟨Jbq hu (j:=0) rfl,fun _ _↦trivial⟩ (by show(1:Nat)≤1000;decide);rw[hcp,Kgd]at q;exact q)) (fun _=>rfl) ?_;rintro v9 ⟨u9,h9⟩;refine Wz 7 ?_;refine Nx 3 ?_;refine Wj 0 ?_;refine Wt 0 rfl rfl (fun hg=>Nc (s:=⟨v9,Jq8⟩) (eg_ hg rfl)) ?_;refine Wj 0 ?_;refine Wk 1 Pa ?_;refine Wj 0 ?_;refine Wt 0 rfl rfl (fun hg=>Jcd (s:=⟨v9,Jq8⟩) (i:=1) sl38 (eg_ hg rfl) rfl h9 rfl (by decide) (by show(1:Int)<2;decide)) ?_;refine Wt 0 rfl rfl (fun hg=>Jd2 (jj:=0) (s:=⟨v9,Jq8⟩) (i:=1) rfl (eg_ hg rfl) rfl ⟨by decide,by show(1:Int)<2;decide⟩ rfl tk51) ?_;refine Wt 0 rfl rfl (fun hg=>Db Jlc zv51) ?_;refine Wt 0 rfl rfl (fun hg=>Jgp Jfs (eg_ hg rfl) (eg_ hg rfl) (Jdt (nth Jq8 1) ⟨5,5,mv0,0,1⟩)) ?_;refine Wk 1 Pa ?_;exact Wd (Qc (Cr (out1 rfl rfl (Jab (by first|rfl|simp[Jq8])))))
end Go.Proofs.YtmoojmgihdgceaaGreatDoor
