/- Merged texts of this proof. -/
import Derived.Test.YtllebkdchemabaaGreatDoorZb
import Derived.Lib.IndexLaws
namespace Go.Proofs.YtllebkdchemabaaGreatDoor
set_option linter.unusedVariables false
set_option linter.unusedSimpArgs false
open Go.RowKit Go.Proofs
theorem Ly {a b:List Pro} (h:a.map Pro.nm=b.map Pro.nm):∀ws:Wds,BR a ws=BR b ws
 |[]=>rfl
 |t::r=>by
  have hi:idxN Pro.nm a t=idxN Pro.nm b t:=by
   unfold idxN;rw[FN Pro.nm (fun x=>seq (Pro.nm x) t) (fun y=>seq y t) (fun _=>rfl),FN Pro.nm (fun x=>seq (Pro.nm x) t) (fun y=>seq y t) (fun _=>rfl),h]
  rw[BR,BR,hi,Ly h r]
theorem Xn {a b:List Pro} (h:a.map Pro.nm=b.map Pro.nm) (t:ByteArray) (ws:Wds):EZ a t ws=EZ b t ws:=by
 unfold EZ;rw[Ly h]
theorem Ww {r q:Room} (h:r.e=q.e) (k:Int) (ws:Wds):A9 r k ws=A9 q k ws:=by
 have hA:=E1 h;have hl:∀t w,EZ r.prs.l t w=EZ q.prs.l t w:=fun t w=>Xn hA.nms t w;unfold A9 Dw JY GX wayW actW IF Vl;simp only[hA.pls,hA.ths,hl]
theorem HL {r q:Room} (h:r.e=q.e) (kd:Int) (t:ByteArray):BC r kd t=BC q kd t:=by
 unfold BC;simp only[Ww h]
theorem T9 {r q:Room} (h:r.e=q.e) (x:Ln):(addL r x).e=(addL q x).e:=by
 have h1:r.pls.l.map id=q.pls.l.map id:=congrArg (fun z:Room=>z.pls.l) h;have h2:r.ths.l.map id=q.ths.l.map id:=congrArg (fun z:Room=>z.ths.l) h;have h3:r.prs.l.map Pro.e=q.prs.l.map Pro.e:=congrArg (fun z:Room=>z.prs.l) h;have h4:r.wys.l.map Way.e=q.wys.l.map Way.e:=congrArg (fun z:Room=>z.wys.l) h;have h5:r.acs.l.map Actn.e=q.acs.l.map Actn.e:=congrArg (fun z:Room=>z.acs.l) h;have h6:r.aus.l.map Auto.e=q.aus.l.map Auto.e:=congrArg (fun z:Room=>z.aus.l) h;have h7:r.ply=q.ply:=(congrArg Room.ply h:r.e.ply=q.e.ply);have h8:r.gl.l.map id=q.gl.l.map id:=congrArg (fun z:Room=>z.gl.l) h;cases x<;>simp[addL,Room.e,Sl.e,nls,List.map_append,h1,h2,h3,h4,h5,h6,h7,h8]<;>simp_all
structure RdJ (n:Nat) (r:Room):Prop where
 pls:r.pls.l.length<=n
 ths:r.ths.l.length<=n
 prs:r.prs.l.length<=n
 wys:r.wys.l.length<=n
 acs:r.acs.l.length<=n
 aus:r.aus.l.length<=n
 nm:NmB r
variable {n:Nat}
theorem RdJ.en {r q:Room} (h:r.e=q.e) (hj:RdJ n q):RdJ n r:=by
 have hA:=E1 h;have hn:=hA.nms;have ha:=hA.anms;refine⟨by rw[hA.pls];exact hj.pls,by rw[hA.ths];exact hj.ths,by rw[hA.lprs];exact hj.prs,by rw[hA.lwys];exact hj.wys,by rw[hA.lacs];exact hj.acs,by rw[hA.laus];exact hj.aus,?_⟩;refine⟨by rw[hA.pls];exact hj.nm.pl,by rw[hA.ths];exact hj.nm.th,fun x hx=>?_,fun x hx=>?_⟩
 ·have:x.nm∈q.prs.l.map Pro.nm:=hn▸List.mem_map_of_mem hx;obtain⟨y,hy,e⟩:=List.mem_map.1 this;rw[<-e];exact hj.nm.pr y hy
 have:x.nm∈q.acs.l.map Actn.nm:=ha▸List.mem_map_of_mem hx;obtain⟨y,hy,e⟩:=List.mem_map.1 this;rw[<-e];exact hj.nm.ac y hy
def lnNm:Ln->Option ByteArray
 | .place nm=>some nm
 | .thing x=>some x.nm
 | .prop nm _ _=>some nm
 | .act nm _ _ _ _ _ _ _=>some nm
 |_=>none
theorem RdJ.add {r:Room} (hj:RdJ n r) (x:Ln) (hx:∀nm,lnNm x=some nm->nm.size<=70000):RdJ (n+1) (addL r x):=by
 obtain⟨h1,h2,h3,h4,h5,h6,⟨n1,n2,n3,n4⟩⟩:=hj;cases x with
 |place nm=>exact⟨by simp[addL,nls];omega,by simp[addL];omega,by simp[addL];omega,by simp[addL];omega,by simp[addL];omega,by simp[addL];omega,⟨fun y hy=>by
   rcases List.mem_append.1 hy with hy|hy
   ·exact n1 y hy
   rw[List.mem_singleton]at hy;subst hy;exact hx _ rfl,n2,n3,n4⟩⟩
 |thing z=>exact⟨by simp[addL];omega,by simp[addL,nls];omega,by simp[addL];omega,by simp[addL];omega,by simp[addL];omega,by simp[addL];omega,⟨n1,fun y hy=>by
   rcases List.mem_append.1 hy with hy|hy
   ·exact n2 y hy
   rw[List.mem_singleton]at hy;subst hy;exact hx _ rfl,n3,n4⟩⟩
 |prop nm pl wh=>exact⟨by simp[addL];omega,by simp[addL];omega,by simp[addL,nls];omega,by simp[addL];omega,by simp[addL];omega,by simp[addL];omega,⟨n1,n2,fun y hy=>by
   rcases List.mem_append.1 hy with hy|hy
   ·exact n3 y hy
   rw[List.mem_singleton]at hy;subst hy;exact hx _ rfl,n4⟩⟩
 |way a b wh=>exact⟨by simp[addL];omega,by simp[addL];omega,by simp[addL];omega,by simp[addL,nls];omega,by simp[addL];omega,by simp[addL];omega,⟨n1,n2,n3,n4⟩⟩
 |act nm pl lk us wh se sp br=>exact⟨by simp[addL];omega,by simp[addL];omega,by simp[addL];omega,by simp[addL];omega,by simp[addL,nls];omega,by simp[addL];omega,⟨n1,n2,n3,fun y hy=>by
   rcases List.mem_append.1 hy with hy|hy
   ·exact n4 y hy
   rw[List.mem_singleton]at hy;subst hy;exact⟨hx _ rfl,trivial⟩⟩⟩
 |auto a b wh=>exact⟨by simp[addL];omega,by simp[addL];omega,by simp[addL];omega,by simp[addL];omega,by simp[addL];omega,by simp[addL,nls];omega,⟨n1,n2,n3,n4⟩⟩
 |players m=>exact⟨by simp[addL];omega,by simp[addL];omega,by simp[addL];omega,by simp[addL];omega,by simp[addL];omega,by simp[addL];omega,⟨n1,n2,n3,n4⟩⟩
 |goal c=>exact⟨by simp[addL];omega,by simp[addL];omega,by simp[addL];omega,by simp[addL];omega,by simp[addL];omega,by simp[addL];omega,⟨n1,n2,n3,n4⟩⟩
theorem RdJ.zero:RdJ 0 room0:=⟨Nat.le_refl _,Nat.le_refl _,Nat.le_refl _,Nat.le_refl _,Nat.le_refl _,Nat.le_refl _,⟨fun _ h=>(by cases h),fun _ h=>(by cases h),fun _ h=>(by cases h),fun _ h=>(by cases h)⟩⟩
variable {ws:Wds}
theorem EN {r:Wds} {t:ByteArray} (h:CL ws=some (t,r)):t∈ws:=by
 cases ws with
 |nil=>cases h
 |cons a l=>
  simp only[CL,BN,Option.bind_some]at h;split at h
  ·cases h;exact List.mem_cons_self
  cases h
variable {k:Int}
theorem Vg {r:Room} {ws':Wds} {x:Ln} (h:A9 r k ws=some (x,ws')) (nm:ByteArray) (hx:lnNm x=some nm):nm∈ws:=by
 unfold A9 at h;split at h
 ·obtain⟨⟨a,b⟩,h1,h2⟩:=Option.map_eq_some_iff.1 h;cases h2;cases hx;exact EN h1
 split at h
 ·simp only[Dw,Option.bind_eq_some_iff,Option.map_eq_some_iff]at h;obtain⟨a,h1,_,_,_,_,_,_,_,_,_,_,_,_,h2⟩:=h;cases h2;cases hx;exact EN h1
 split at h
 ·simp only[JY,Option.bind_eq_some_iff,Option.map_eq_some_iff]at h;obtain⟨a,h1,_,_,_,_,h2⟩:=h;cases h2;cases hx;exact EN h1
 split at h
 ·simp only[wayW,Option.bind_eq_some_iff,Option.map_eq_some_iff]at h;obtain⟨_,_,_,_,_,_,h2⟩:=h;cases h2;cases hx
 split at h
 ·simp only[actW,Option.bind_eq_some_iff,Option.map_eq_some_iff]at h;obtain⟨a,h1,_,_,_,_,_,_,_,_,_,_,_,_,_,_,_,_,h2⟩:=h;cases h2;cases hx;exact EN h1
 split at h
 ·simp only[IF,Option.bind_eq_some_iff]at h;obtain⟨_,_,_,_,h2⟩:=h;split at h2
  ·cases h2
  obtain⟨_,_,h3⟩:=Option.map_eq_some_iff.1 h2;cases h3;cases hx
 split at h
 ·obtain⟨_,_,h2⟩:=Option.map_eq_some_iff.1 h;cases h2;cases hx
 obtain⟨_,_,h2⟩:=Option.map_eq_some_iff.1 h;cases h2;cases hx
variable {kd:Int}
theorem J4 {r:Room} {t:ByteArray} {x:Ln} (h:BC r kd t=some (k,x)) (nm:ByteArray) (hx:lnNm x=some nm):nm.size<=t.size:=by
 unfold BC at h;obtain⟨⟨a,ws⟩,h1,h2⟩:=Option.bind_eq_some_iff.1 h;simp only at h2;split at h2
 ·obtain⟨⟨y,z⟩,h3,h4⟩:=Option.bind_eq_some_iff.1 h2;split at h4
  ·cases h4;have hm:=Vg h3 nm hx;cases hs:Ab 32 t with
   |nil=>rw[hs]at h1;cases h1
   |cons b l=>
    rw[hs]at h1;cases h1
    exact A6 (c:=32) (by rw[hs];exact List.mem_cons_of_mem _ hm)
  cases h4
 cases h2
theorem J7 {r:Room} {t:ByteArray} {x:Ln} (h:BC r kd t=some (k,x)):kd<=k/\k<=7:=by
 unfold BC at h;obtain⟨⟨a,ws⟩,h1,h2⟩:=Option.bind_eq_some_iff.1 h;simp only at h2;split at h2
 ·rename_i hm;obtain⟨⟨y,z⟩,h3,h4⟩:=Option.bind_eq_some_iff.1 h2;split at h4
  ·cases h4
   have h8:E2 a<8:=by
    unfold E2 idxN idxF;split
    ·rename_i i hi;rw[List.findIdx?_eq_some_iff_getElem]at hi;obtain⟨h5,_⟩:=hi;have:kindsL.length=8:=rfl;omega
    decide
   simp only[mayK,Bool.and_eq_true,decide_eq_true_eq]at hm;omega
  cases h4
 cases h2
def finP (r:Room) (kd i:Int):Room×Int×Int:=if kd<7 then(room0,i+1,4)else if checkE r≠0 then(room0,0,checkE r)else(r,0,0)
def CW:Room->Int->Int->List ByteArray->Room×Int×Int
 |r,kd,i,[]=>finP r kd i
 |r,kd,i,t::ts=>match ts with
  |[]=>if seq t ⟨#[]⟩then finP r kd i else(room0,i+1,4)
  |_=>match BC r kd t with
   |some (k,x)=>CW (addL r x) k (i+1) ts
   |none=>(room0,i+1,4)
def CR (t:ByteArray):Room×Int×Int:=CW room0 0 0 (Ab 10 t)
variable {i:Int}
theorem C7 {r:Room} {t:ByteArray}:CW r kd i [t]=if seq t ⟨#[]⟩then finP r kd i else(room0,i+1,4):=by unfold CW;rfl
variable {ts:List ByteArray}
theorem FY {r:Room} {t:ByteArray} {x:Ln} (h0:0<ts.length) (h:BC r kd t=some (k,x)):CW r kd i (t::ts)=CW (addL r x) k (i+1) ts:=by
 cases ts with
 |nil=>simp at h0
 |cons a b=>rw[CW]<;>simp[h]
theorem FZ {r:Room} {t:ByteArray} (h0:0<ts.length) (h:BC r kd t=none):CW r kd i (t::ts)=(room0,i+1,4):=by
 cases ts with
 |nil=>simp at h0
 |cons a b=>rw[CW]<;>simp[h]
theorem Yi {s:List UInt8} {c:UInt8}:((Lib.cut s [c]).2.2=true/\c∉(Lib.cut s [c]).1/\s=(Lib.cut s [c]).1++c::(Lib.cut s [c]).2.1)\/((Lib.cut s [c]).2.2=false/\c∉s):=by
 unfold Lib.cut;rw[Lib.index_one]
 by_cases h:(0:Int)<=Lib.indexByte s c
 ·left;rw[if_pos h];obtain⟨o,ho⟩:∃o:Nat,Lib.indexByte s c=o:=⟨(Lib.indexByte s c).toNat,by omega⟩;obtain⟨h1,h2⟩:=Lib.indexByte_some ho;rw[ho];simp only[Int.toNat_natCast,List.length_singleton];refine⟨trivial,fun hm=>?_,?_⟩
  ·obtain⟨k,hk,e⟩:=List.mem_iff_getElem.1 hm;rw[List.getElem_take]at e;have hk2:k<o:=by simp at hk;omega
   exact h2 k hk2 (by rw[<-e];exact List.getElem?_eq_getElem _)
  have hlt:=(List.getElem?_eq_some_iff.1 h1).1;have e:s[o]=c:=(List.getElem?_eq_some_iff.1 h1).2
  conv=>lhs;rw[<-List.take_append_drop o s,List.drop_eq_getElem_cons hlt,e]
 right;rw[if_neg h];refine⟨rfl,fun hm=>?_⟩;obtain⟨k,hk,e⟩:=List.mem_iff_getElem.1 hm;have h1:Lib.indexByte s c = -1:=by have:=Lib.indexByte_ge s c;omega
 exact Lib.indexByte_none h1 k (by rw[<-e];exact List.getElem?_eq_getElem _)
theorem EW {t:ByteArray} {c:UInt8} (h:(Lib.cut (bl t) [c]).2.2=true):Ab c t=ba (Lib.cut (bl t) [c]).1::Ab c (ba (Lib.cut (bl t) [c]).2.1)/\(ba (Lib.cut (bl t) [c]).1).size<=t.size/\(ba (Lib.cut (bl t) [c]).2.1).size<t.size:=by
 rcases Yi (s:=bl t) (c:=c)with⟨_,h2,h3⟩|⟨h1,_⟩
 ·have hl:(bl t).length=(Lib.cut (bl t) [c]).1.length+((Lib.cut (bl t) [c]).2.1.length+1):=by
   conv=>lhs;rw[h3]
   simp
  rw[Bp]at hl;refine⟨?_,by show(Lib.cut (bl t) [c]).1.toArray.size<=_;simp;omega,by show(Lib.cut (bl t) [c]).2.1.toArray.size<_;simp;omega⟩;unfold Ab
  conv=>lhs;rw[h3,GH h2]
  rfl
 rw[h1]at h;cases h
theorem Mf {t:ByteArray} {c:UInt8} (h:(Lib.cut (bl t) [c]).2.2=false):Ab c t=[t]:=by
 rcases Yi (s:=bl t) (c:=c)with⟨h1,_⟩|⟨_,h1⟩
 ·rw[h1]at h;cases h
 unfold Ab;rw[Fu h1];rfl
theorem QR (c:UInt8):Ab c ⟨#[]⟩=[⟨#[]⟩]:=rfl
structure Rel {γ:Type} (b:Bool) (spec:Option (γ×Wds)) (v:γ) (ws:Wds) (b':Bool):Prop where
 bt:b=true->b'=true
 ok:b=false->b'=false->spec=some (v,ws)
 no:b=false->b'=true->spec=none
variable {γ:Type} {b:Bool} {spec:Option (γ×Wds)} {v:γ}
theorem Rel.same (h:spec=some (v,ws)):Rel b spec v ws b:=⟨fun h=>h,fun _ _=>h,fun h1 h2=>by rw[h1]at h2;cases h2⟩
theorem Rel.bad (h:b=false->spec=none):Rel b spec v ws true:=⟨fun _=>rfl,fun _ h2=>Bool.noConfusion h2,fun h1 _=>h h1⟩
variable {δ:Type} {b1 b2:Bool} {s1:Option (γ×Wds)} {v1:γ} {w1 w2:Wds}
theorem Rel.bind {f:γ×Wds->Option (δ×Wds)} {v2:δ} (h1:Rel b s1 v1 w1 b1) (h2:Rel b1 (f (v1,w1)) v2 w2 b2):Rel b (s1.bind f) v2 w2 b2:=by
 refine⟨fun h=>h2.bt (h1.bt h),fun h h'=>?_,fun h h'=>?_⟩
 ·cases hb:b1 with
  |true=>have:=h2.bt hb;rw[h']at this;cases this
  |false=>rw[h1.ok h hb];exact h2.ok hb h'
 cases hb:b1 with
 |true=>rw[h1.no h hb];rfl
 |false=>rw[h1.ok h hb];exact h2.no hb h'
theorem Rel.map (f:γ->δ) (h1:Rel b s1 v1 w1 b1):Rel b (s1.map fun x=>(f x.1,x.2)) (f v1) w1 b1:=by
 refine⟨h1.bt,fun h h'=>?_,fun h h'=>?_⟩
 ·rw[h1.ok h h'];rfl
 rw[h1.no h h'];rfl
theorem Rel.eq {b':Bool} {s s':Option (γ×Wds)} {w:Wds} (h:Rel b s v w b') (e:s'=s):Rel b s' v w b':=e▸h
theorem Rel.ask {p:γ×Wds->Prop} [DecidablePred p] (h1:Rel b s1 v1 w1 b1) (hp:p (v1,w1)):Rel b (s1.bind fun x=>if p x then some x else none) v1 w1 b1:=
 h1.bind (Rel.same (by rw[if_pos hp]))
theorem Rel.fail {v2:γ} {p:γ×Wds->Prop} [DecidablePred p] (h1:Rel b s1 v1 w1 b1) (hp:¬p (v1,w1)):Rel b (s1.bind fun x=>if p x then some x else none) v2 w2 true:=
 h1.bind (Rel.bad fun _=>if_neg hp)
def litW (ths:List Thing) (nt:Bool) (ws:Wds):Option (Lit×Wds):=(BN ws).bind fun x=>(litT ths x.1).bind fun a=>if a.nt&&!nt then none else some (a,x.2)
def Kp (bad:Bool) (ws:Wds):Bool:=!bad&&(decide ((0:Int)<ws.length)&&!resB (nth ws 0))
def Kr (t:ByteArray) (ws:Wds):Option (Unit×Wds):=(Eo t ws).map fun w=>((),w)
structure LoopI {α:Type} (b1:Bool) (F:Wds->Option (List α×Wds)) (w1:Wds) (acc:List α) (ws:Wds) (bad:Bool):Prop where
 bt:b1=true->bad=true
 ok:b1=false->bad=false->F w1=(F ws).map fun x=>(acc++x.1,x.2)
 no:b1=false->bad=true->F w1=none
 sf:ws <:+w1
 ln:bad=false->acc.length+ws.length=w1.length
 lm:acc.length<=w1.length
variable {α:Type}
theorem LoopI.start (b1:Bool) (F:Wds->Option (List α×Wds)) (w1:Wds):LoopI b1 F w1 [] w1 b1:=
 ⟨fun h=>h,fun _ _=>by cases F w1<;>simp,fun h1 h2=>Bool.noConfusion (h1.symm.trans h2),List.suffix_refl _,fun _=>by simp,by simp⟩
variable {F:Wds->Option (List α×Wds)} {acc:List α}
theorem LoopI.step {bad:Bool} {a:α} (h:LoopI b1 F w1 acc ws bad) (hbad:bad=false) (hpos:0<ws.length) (sf2:w2 <:+ws)
  (hok:b2=false->F ws=((F w2).map fun x=>(a::x.1,x.2))/\ws.length=w2.length+1) (hno:b2=true->F ws=none):LoopI b1 F w1 (acc++[a]) w2 b2:=by
 have hb1:b1=false:=by
  cases h1:b1 with
  |false=>rfl
  |true=>rw[h.bt h1]at hbad;cases hbad
 have hl:=h.ln hbad;refine⟨fun h1=>Bool.noConfusion (hb1.symm.trans h1),fun _ h2=>?_,fun _ h2=>?_,sf2.trans h.sf,fun h2=>?_,?_⟩
 ·rw[h.ok hb1 hbad,(hok h2).1];cases F w2<;>simp
 ·rw[h.ok hb1 hbad,hno h2];rfl
 ·have:=(hok h2).2;simp;omega
 simp;omega
theorem LoopI.fin {bad:Bool} (h:LoopI b1 F w1 acc ws bad) (hs:bad=false->F ws=some ([],ws)):Rel b1 (F w1) acc ws bad:=
 ⟨h.bt,fun h1 h2=>by rw[h.ok h1 h2,hs h2];simp,h.no⟩
theorem Du {v0:γ} {w w0:Wds} (h:Rel b (some (v0,w0)) v w b1) (hb:b=false):b1=false/\v0=v/\w0=w:=by
 cases h1:b1 with
 |true=>cases h.no hb h1
 |false=>have:=h.ok hb h1;simp only[Option.some.injEq,Prod.mk.injEq]at this;exact⟨rfl,this.1,this.2⟩
def E7 (F:Wds->Option (List α×Wds)) (t:ByteArray) (ws:Wds):Option (List α×Wds):=if isW t ws then(F ws.tail).bind fun x=>if x.1=[]then none else some x else some ([],ws)
theorem H7 {t:ByteArray} (h:Rel b (some (isW t ws,if isW t ws then ws.tail else ws)) false w1 b1):Rel b (E7 F t ws) [] w1 b1:=by
 refine⟨h.bt,fun h1 h2=>?_,fun h1 h2=>?_⟩
 ·obtain⟨_,h3,h4⟩:=Du h h1;rw[E7,if_neg (by rw[h3];decide)];rw[if_neg (by rw[h3];decide)]at h4;rw[h4]
 rw[(Du h h1).1]at h2;cases h2
theorem Ky {t:ByteArray} {c:List α} (h:Rel b (some (isW t ws,if isW t ws then ws.tail else ws)) true w1 b1) (h2:Rel b1 (F w1) c w2 b2) (hc:c≠[]):Rel b (E7 F t ws) c w2 b2:=by
 refine⟨fun h1=>h2.bt (h.bt h1),fun h1 h3=>?_,fun h1 h3=>?_⟩
 ·obtain⟨h4,h5,h6⟩:=Du h h1;rw[if_pos h5]at h6;rw[E7,if_pos h5,h6,h2.ok h4 h3];exact if_neg hc
 obtain⟨h4,h5,h6⟩:=Du h h1;rw[if_pos h5]at h6;rw[E7,if_pos h5,h6,h2.no h4 h3];rfl
theorem Km {t:ByteArray} {c:List α} (h:Rel b (some (isW t ws,if isW t ws then ws.tail else ws)) true w1 b1) (h2:Rel b1 (F w1) c w2 b2) (hc:c=[]):Rel b (E7 F t ws) c w2 true:=by
 refine Rel.bad fun h1=>?_;obtain⟨h4,h5,h6⟩:=Du h h1;rw[if_pos h5]at h6;rw[E7,if_pos h5,h6];cases hb:b2 with
 |false=>rw[h2.ok h4 hb];exact if_pos hc
 |true=>rw[h2.no h4 hb];rfl
theorem Eb {bad:Bool} (h:Kp bad ws=true):bad=false/\0<ws.length/\resB (nth ws 0)=false:=by
 simp only[Kp,Bool.and_eq_true,Bool.not_eq_true',decide_eq_true_eq]at h;exact⟨h.1,by omega,h.2.2⟩
theorem JP {bad:Bool} (h:Kp bad ws=false) (hb:bad=false):(0:Int)<ws.length->resB (nth ws 0)=true:=fun h0=>by
 cases hr:resB (nth ws 0)with
 |true=>rfl
 |false=>
  rw[Kp,hb,hr,show decide ((0:Int)<ws.length)=true from decide_eq_true h0]at h;cases h
theorem UV {t:ByteArray} {c:List α} (h:Rel b (some (isW t ws,if isW t ws then ws.tail else ws)) true w1 b1) (h2:Rel b1 (F w1) c w2 b2):Rel b (E7 F t ws) c w2 (b2||decide ((c.length:Int)=0)):=by
 cases c with
 |nil=>
  have:(b2||decide ((([]:List α).length:Int)=0))=true:=by simp
  rw[this];exact Km h h2 rfl
 |cons a c=>
  have:(b2||decide (((a::c).length:Int)=0))=b2:=by
   rw[show decide (((a::c).length:Int)=0)=false from decide_eq_false (by simp only[List.length_cons];omega)];simp
  rw[this];exact Ky h h2 (by simp)
def Hp (ths:List Thing) (ws:Wds):Option (List Put×Wds):=(BE ths ws).bind fun x=>(ED x.1).map fun p=>(p,x.2)
theorem RK (ths:List Thing) (ws:Wds):I0 ths ws=E7 (Hp ths) ⟨#[115,101,116,115]⟩ ws:=by
 unfold I0 E7 Hp;split
 ·cases BE ths ws.tail with
  |none=>rfl
  |some x=>
   simp only[Option.bind_some];cases ED x.1<;>rfl
 rfl
theorem Rel.line {b':Bool} {s:Option (γ×Wds)} {w:Wds} (h:Rel false s v w b'):(b'=false->s=some (v,w))/\(b'=true->s=none):=⟨fun h1=>h.ok rfl h1,fun h1=>h.no rfl h1⟩
variable {f:Wds->Option (δ×Wds)}
theorem Rel.bindM {t:ByteArray} {v2:δ} (h1:Rel b (Kr t ws) () w1 b1) (h2:Rel b1 (f w1) v2 w2 b2):Rel b ((Eo t ws).bind f) v2 w2 b2:=by
 have e:(Eo t ws).bind f=(Kr t ws).bind fun x=>f x.2:=by unfold Kr;cases Eo t ws<;>rfl
 rw[e];exact h1.bind h2
variable {y:Option (δ×Wds)}
theorem Jej {t:ByteArray} {v:δ} (h:Rel b (some (isW t ws,if isW t ws then ws.tail else ws)) true w1 b1) (h2:Rel b1 (f w1) v w2 b2):Rel b (if isW t ws then f ws.tail else y) v w2 b2:=by
 refine⟨fun h1=>h2.bt (h.bt h1),fun h1 h3=>?_,fun h1 h3=>?_⟩
 ·obtain⟨h4,h5,h6⟩:=Du h h1;rw[if_pos h5]at h6;rw[if_pos h5,h6];exact h2.ok h4 h3
 obtain⟨h4,h5,h6⟩:=Du h h1;rw[if_pos h5]at h6;rw[if_pos h5,h6];exact h2.no h4 h3
theorem Jcs {t:ByteArray} {v:δ} (h:Rel b (some (isW t ws,if isW t ws then ws.tail else ws)) false w1 b1) (h2:Rel b1 (f w1) v w2 b2):Rel b (if isW t ws then y else f ws) v w2 b2:=by
 have hn:b=false->b1=false/\isW t ws=false/\ws=w1:=fun h1=>by
  obtain⟨h4,h5,h6⟩:=Du h h1;rw[if_neg (by rw[h5];decide)]at h6;exact⟨h4,h5,h6⟩
 refine⟨fun h1=>h2.bt (h.bt h1),fun h1 h3=>?_,fun h1 h3=>?_⟩
 ·obtain⟨h4,h5,h6⟩:=hn h1;rw[if_neg (by rw[h5];decide),h6];exact h2.ok h4 h3
 obtain⟨h4,h5,h6⟩:=hn h1;rw[if_neg (by rw[h5];decide),h6];exact h2.no h4 h3
theorem YL (r:Room) (ws:Wds):IF r ws=(litW r.ths.l false ws).bind fun x=>(CB r.ths.l x.2).map fun c=>(.auto x.1.t x.1.s c.1,c.2):=by
 unfold IF litW;cases BN ws with
 |none=>rfl
 |some x=>
  simp only[Option.bind_some];cases litT r.ths.l x.1 with
  |none=>rfl
  |some a=>
   simp only[Option.bind_some];cases a.nt<;>rfl
def nil0:Sl α:=⟨.slice none 0 0,[]⟩
def of0 (l:List α):Sl α:=⟨.slice none 0 0,l⟩
def Ta:ByteArray:=⟨#[104,97,108,108]⟩
def Mc:ByteArray:=⟨#[118,97,117,108,116]⟩
def tBox:ByteArray:=⟨#[98,111,120]⟩
def RN:ByteArray:=⟨#[100,111,111,114]⟩
def tKey:ByteArray:=⟨#[107,101,121]⟩
def MT:ByteArray:=⟨#[111,112,101,110]⟩
def NQ:ByteArray:=⟨#[116,117,114,110]⟩
def exR:Room:=⟨of0 [Ta,Mc],of0 [⟨tBox,0,2,0⟩,⟨RN,0,2,0⟩],of0 [⟨tKey,0,of0 [⟨0,1,false⟩]⟩],of0 [⟨0,1,of0 [⟨1,1,false⟩]⟩],
 of0 [⟨MT,0,0,nil0,nil0,of0 [⟨0,1⟩],nil0,nil0⟩,⟨NQ,0,-1,of0 [0],nil0,of0 [⟨1,1⟩],of0 [0],nil0⟩],nil0,1,nil0⟩
theorem Hv (a b:ByteArray):seq a b=(a.data.toList == b.data.toList):=by
 unfold seq;rw[ByteArray.toList_eq,ByteArray.toList_eq]
theorem Jc9:Near exR:=by
 refine⟨by decide,by decide,by decide,by decide,by decide,by decide,by decide,?_,?_,?_,?_,?_,?_⟩<;>decide
theorem Jak:AY Ta=true/\AY Mc=true/\AY tBox=true/\AY RN=true/\AY tKey=true/\AY MT=true/\AY NQ=true:=by
 simp only[AY,Au,wordL,List.any_cons,List.any_nil,Hv];decide
theorem Rt:checkE exR=0:=by
 obtain⟨h1,h2,h3,h4,h5,h6,h7⟩:=Jak;simp only[Ta,Mc,tBox,RN,tKey,MT,NQ]at h1 h2 h3 h4 h5 h6 h7;simp only[checkE,Gp,IM,Gf,Gt,Gr,Gi,exR,of0,nil0,List.length_cons,List.length_nil,A7,plO,thO,prO,wyO,acO,auO,actB,act2,newB];simp[manyB,nth,h1,h2,h3,h4,h5,h6,h7,Hv,Ta,Mc,tBox,RN,tKey,MT,NQ,thB,placeB,whO,FD,putB,glO,or0,act3,act4,act5,ascB,allI,IntKind.wrap,IntKind.bits,IntKind.signed]
theorem Y3:BeginV exR=(0,([0,0],[0],[0])):=by
 unfold BeginV SettleV stL;rw[Rt];decide
structure ChB (u:World) (b:Nat) (e:TypeId) (rows:List (List Bool)) (N:Int) (rv:Value) (gs:List Value):Prop where
 bk:BlkAt u b [rv,.int .i64 N] e
 sp:SlC u rv rows.length 1 gs
 el:∀i:Int,0<=i->i<rows.length->SlC u (nth gs i) (nth rows i).length 1 ((nth rows i).map Value.bool)
variable {u:World} {rows:List (List Bool)} {gs:List Value}
theorem ChB.ext {w:World} {b:Nat} {e:TypeId} {N:Int} {rv:Value} (h:ChB w b e rows N rv gs) (hb:Below w.heap.size w u):ChB u b e rows N rv gs:=
 ⟨h.bk.ext hb,h.sp.ext hb,fun i h0 h1=>(h.el i h0 h1).ext hb⟩
variable {w0:World} {L:List SA}
theorem ChB.st {b:Nat} {e:TypeId} {N:Int} {rv:Value} (h:ChB w0 b e rows N rv gs) (hu:St w0.heap.size w0 L u):ChB u b e rows N rv gs:=h.ext hu.below
theorem St.toRoI {n0:Nat} {e:TypeId} {v:Value} {xs:List Int} (h:St n0 w0 (oints e v xs::L) u):St n0 w0 (YtllebkdchemabaaGreatDoor.roI v xs::L) u:=
 St.toRo (A:=YtllebkdchemabaaGreatDoor.oints e v xs) (p:=fun u=>SlI u v xs) (fun S u hA=>C8 hA.2) h
theorem St.nilRoI {n0:Nat} (h:St n0 w0 L u):St n0 w0 (YtllebkdchemabaaGreatDoor.roI (.slice none 0 0) []::L) u:=
 St.toRo (p:=fun u=>SlI u (.slice none 0 0) []) (fun S u _=>SlI.none u) (h.osl0 (e:=0) (size:=1))
def kindL:List ByteArray:=[⟨#[]⟩,⟨#[97,116]⟩,⟨#[115,117,109]⟩,⟨#[108,101,115,115]⟩,⟨#[115,97,109,101]⟩,⟨#[104,97,115]⟩,⟨#[114,105,103,104,116]⟩,⟨#[114,101,109,97,105,110]⟩]
def notW:ByteArray:=⟨#[110,111,116]⟩
def AD (t:ByteArray):Int:=if seq ⟨#[97,116]⟩ t then 1 else if seq ⟨#[115,117,109]⟩ t then 2 else if seq ⟨#[108,101,115,115]⟩ t then 3 else if seq ⟨#[115,97,109,101]⟩ t then 4 else if seq ⟨#[104,97,115]⟩ t then 5
 else if seq ⟨#[114,105,103,104,116]⟩ t then 6 else if seq ⟨#[114,101,109,97,105,110]⟩ t then 7 else 0
theorem FR (t:ByteArray):0<=AD t/\AD t<=7:=by
 unfold AD
 repeat' split
 all_goals omega
theorem Ih {t:ByteArray} (h0:1<=k) (h1:k<8):seq (nth kindL k) t=decide (AD t=k):=by
 have e:kindL.length=8:=rfl
 by_cases h:seq (nth kindL k) t=true
 ·rw[h];rw[C9]at h;subst h;rcases(show k=1\/k=2\/k=3\/k=4\/k=5\/k=6\/k=7 by omega)with rfl|rfl|rfl|rfl|rfl|rfl|rfl<;>decide+kernel
 rw[Bool.not_eq_true]at h;rw[h]
 symm
 rw[decide_eq_false_iff_not];intro hk;subst hk
 revert h h0 h1
 unfold AD
 repeat' split
 all_goals (intro h0 h1 h)
 all_goals first|omega|(rename_i hh;exact absurd (hh.symm.trans h) (by decide))
theorem UR {t:ByteArray} (h:seq t ⟨#[]⟩=false):Lib.idxOfS kindL t=if AD t=0 then -1 else AD t:=by
 have h0:¬(⟨#[]⟩:ByteArray)=t:=fun e=>by subst e;exact absurd h (by rw[CI];decide)
 have hb:=FR t
 have hd:∀j,j<8->kindL.getD j ByteArray.empty=nth kindL (j:Int):=fun j hj=>by
  rcases(show j=0\/j=1\/j=2\/j=3\/j=4\/j=5\/j=6\/j=7 by omega)with rfl|rfl|rfl|rfl|rfl|rfl|rfl|rfl<;>rfl
 by_cases hk:AD t=0
 ·rw[if_pos hk]
  have hn:∀k:Int,1<=k->k<8->¬nth kindL k=t:=fun k a b e=>by
   have:=Ih (t:=t) a b;rw[C9.2 e]at this;have:=of_decide_eq_true this.symm;omega
  have n1:=hn 1 (by decide) (by decide);have n2:=hn 2 (by decide) (by decide);have n3:=hn 3 (by decide) (by decide);have n4:=hn 4 (by decide) (by decide);have n5:=hn 5 (by decide) (by decide);have n6:=hn 6 (by decide) (by decide);have n7:=hn 7 (by decide) (by decide)
  have e:∀k:Nat,k<8->kindL[k]? = some (nth kindL (k:Int)):=fun k hk=>by
   rcases(show k=0\/k=1\/k=2\/k=3\/k=4\/k=5\/k=6\/k=7 by omega)with rfl|rfl|rfl|rfl|rfl|rfl|rfl|rfl<;>rfl
  have a1:nth kindL 1=(⟨#[97,116]⟩:ByteArray):=rfl;have a2:nth kindL 2=(⟨#[115,117,109]⟩:ByteArray):=rfl;have a3:nth kindL 3=(⟨#[108,101,115,115]⟩:ByteArray):=rfl;have a4:nth kindL 4=(⟨#[115,97,109,101]⟩:ByteArray):=rfl;have a5:nth kindL 5=(⟨#[104,97,115]⟩:ByteArray):=rfl;have a6:nth kindL 6=(⟨#[114,105,103,104,116]⟩:ByteArray):=rfl;have a7:nth kindL 7=(⟨#[114,101,109,97,105,110]⟩:ByteArray):=rfl;rw[a1]at n1;rw[a2]at n2;rw[a3]at n3;rw[a4]at n4;rw[a5]at n5;rw[a6]at n6;rw[a7]at n7;simp only[Lib.idxOfS,kindL,Lib.idxFromS,h0,n1,n2,n3,n4,n5,n6,n7,if_false]
 rw[if_neg hk];have h1:=Ih (t:=t) (k:=AD t) (by omega) (by omega);rw[decide_eq_true rfl,C9]at h1
 have hh:=Lib.idxFromS_hit t kindL (AD t).toNat 0 (by show(AD t).toNat<8;omega) (by rw[hd _ (by omega),show(((AD t).toNat:Nat):Int)=AD t by omega];exact h1) fun j hj=>by
  rw[hd j (by omega)];rcases Nat.eq_zero_or_pos j with rfl|hj0
  ·exact h0
  intro e;have:=Ih (t:=t) (k:=(j:Int)) (by omega) (by omega);rw[C9.2 e]at this;have:=of_decide_eq_true this.symm;omega
 unfold Lib.idxOfS;rw[hh];omega
def kU (t:ByteArray) (k:Int):Int:=if AD t<k then AD t else 0
theorem kU_1 (t:ByteArray):kU t 1=0:=by
 have:=FR t;unfold kU;split<;>omega
theorem kU_8 (t:ByteArray):kU t 8=AD t:=by
 have:=FR t;unfold kU;rw[if_pos (by omega)]
theorem X1 {t:ByteArray} (h0:1<=k) (h1:k<8) (h:seq (nth kindL k) t=true):kU t (k+1)=k:=by
 rw[Ih h0 h1,decide_eq_true_eq]at h;unfold kU;rw[if_pos (by omega),h]
theorem R4 {t:ByteArray} (h0:1<=k) (h1:k<8) (h:seq (nth kindL k) t=false):kU t (k+1)=kU t k:=by
 rw[Ih h0 h1,decide_eq_false_iff_not]at h;unfold kU;split<;>split<;>omega
def offK (k:Int):List Nat:=if k=1 then[1,3]else if k=2 then[1,2,3]else if k=3\/k=4 then[1,2]else if k=5\/k=6 then[3,4]else[1,3,4]
def setF (k:Int) (ns:List Int) (g:List Int) (nt:Bool):Clue:=
 if k=1 then⟨k,nth ns 0,0,nth ns 1,0,g,nt⟩else if k=2 then⟨k,nth ns 0,nth ns 1,nth ns 2,0,g,nt⟩else if k=3\/k=4 then⟨k,nth ns 0,nth ns 1,0,0,g,nt⟩
 else if k=5\/k=6 then⟨k,0,0,nth ns 0,nth ns 1,g,nt⟩else⟨k,nth ns 0,0,nth ns 1,nth ns 2,g,nt⟩
theorem XN (k:Int) (ns g:List Int) (nt:Bool):(setF k ns g nt).g=g:=by
 unfold setF
 repeat' split
 all_goals rfl
def setC (cs:List Value) (os:List Nat) (ns:List Int):List Value:=(os.zip ns).foldl (fun c p=>c.set p.1 (.int .i64 p.2)) cs
theorem Ie {cs:List Value}:∀{os:List Nat} {ns:List Int} {o:Nat} {n:Int},os[ns.length]? = some o->(setC cs os ns).set o (.int .i64 n)=setC cs os (ns++[n])
 |[],ns,o,n,h=>by simp at h
 |p::os,[],o,n,h=>by
  simp at h;subst h;simp[setC]
 |p::os,m::ns,o,n,h=>by
  have:=Ie (cs:=cs.set p (.int .i64 m)) (os:=os) (ns:=ns) (o:=o) (n:=n) (by simpa using h)
  simpa [setC]using this
theorem Vw (cs:List Value) (os:List Nat):setC cs os []=cs:=by cases os<;>rfl
theorem C0:∀(os:List Nat) (ns:List Int) (cs:List Value),(setC cs os ns).length=cs.length
 |[],ns,cs=>by simp[setC]
 |p::os,[],cs=>by simp[setC]
 |p::os,m::ns,cs=>by
  have:=C0 os ns (cs.set p (.int .i64 m))
  simpa [setC]using this
theorem HK:∀(os:List Nat) (ns:List Int) (cs:List Value),(∀v∈cs,v.oneCell'=true)->∀v∈setC cs os ns,v.oneCell'=true
 |[],ns,cs,h=>by simpa [setC]using h
 |p::os,[],cs,h=>by simpa [setC]using h
 |p::os,m::ns,cs,h=>by
  have:=HK os ns (cs.set p (.int .i64 m)) fun v hv=>by
   rcases List.mem_or_eq_of_mem_set hv with h1|rfl
   ·exact h v h1
   rfl
  simpa [setC]using this
variable {g:List Int} {gv:Value} {nt:Bool}
theorem Ue {ns:List Int} (h:ns.length=(offK k).length):setC (Aw ⟨k,0,0,0,0,g,nt⟩ gv) (offK k) ns=Aw (setF k ns g nt) gv:=by
 revert h
 unfold offK setF
 repeat' split
 all_goals intro h
 all_goals match ns,h with
  |[a,b],_=>rfl
  |[a,b,c],_=>rfl
theorem Ow (k:Int):2<=(offK k).length/\(offK k).length<=3:=by
 unfold offK
 repeat' split
 all_goals decide
theorem Y4 (k:Int):∀o∈offK k,o<7:=by
 unfold offK
 repeat' split
 all_goals decide
def Dq (m:Int):List ByteArray->Option (List Int)
 |[]=>some []
 |x::r=>match numB m x,Dq m r with
  |some n,some ns=>some (n::ns)
  |_,_=>none
theorem Gv {m:Int}:∀{xs:List ByteArray} {x:ByteArray} {ns:List Int} {n:Int},Dq m xs=some ns->numB m x=some n->Dq m (xs++[x])=some (ns++[n])
 |[],x,ns,n,h,h2=>by
  simp[Dq]at h;subst h;simp[Dq,h2]
 |y::xs,x,ns,n,h,h2=>by
  unfold Dq at h;split at h
  ·rename_i k ks hk hks;cases h;rw[List.cons_append];unfold Dq;rw[hk,Gv hks h2];rfl
  cases h
theorem Io {m:Int}:∀{xs:List ByteArray} {x:ByteArray},x∈xs->numB m x=none->Dq m xs=none
 |y::xs,x,h,h2=>by
  unfold Dq;rcases List.mem_cons.1 h with rfl|h
  ·rw[h2]
  rw[Io h h2];cases numB m y<;>rfl
theorem IE {m:Int}:∀{xs:List ByteArray} {ns:List Int},Dq m xs=some ns->ns.length=xs.length
 |[],ns,h=>by simp[Dq]at h;subst h;rfl
 |y::xs,ns,h=>by
  unfold Dq at h;split at h
  ·rename_i k ks hk hks;cases h;rw[List.length_cons,IE hks,List.length_cons]
  cases h
def BB (t:ByteArray):List Int:=(bl t).map fun b=>(b.toNat:Int)-48
theorem Cz (t:ByteArray):(BB t).length=t.size:=by simp[BB]
theorem C6 {t:ByteArray} (h0:0<=i) (h1:i<t.size):(BB t).take (i+1).toNat=(BB t).take i.toNat++[byt t i-48]:=by
 have hl:i.toNat<(bl t).length:=by rw[Bp];omega
 have e:=Ej (t:=t) (i:=i.toNat) (by omega);rw[show((i.toNat:Nat):Int)=i by omega]at e;rw[show(i+1).toNat=i.toNat+1 by omega,List.take_succ_eq_append_getElem (by simpa [BB]using hl)];congr 2;rw[e];simp[BB]
def rdN (nt:Bool) (k:Int) (r:List ByteArray) (g:List Int):Option Clue:=if r.length=(offK k).length then(Dq 3 r).map fun ns=>setF k ns g nt else none
def Hj (nt:Bool) (k:Int) (r:List ByteArray):Option Clue:=
 if k=0 then none else if k=6 then(if r.length=3/\AB (nth r 2) 4=true then rdN nt 6 (r.take 2) (BB (nth r 2))else none)else rdN nt k r []
def K4 (nt:Bool):List ByteArray->Option Clue
 |[]=>none
 |k0::r=>Hj nt (AD k0) r
variable {l:List ByteArray}
theorem Jz (h:0<l.length):K4 nt l=Hj nt (AD (nth l 0)) l.tail:=by
 cases l with
 |nil=>cases h
 |cons k r=>rfl
theorem Jg (h:(l.length:Int)=0\/seq (nth l 0) ⟨#[]⟩=true):K4 nt l=none:=by
 cases l with
 |nil=>rfl
 |cons k r=>
  rcases h with h|h
  ·simp at h;omega
  have e:k=⟨#[]⟩:=C9.1 h;subst e;rw[K4,show AD ⟨#[]⟩=0 by decide+kernel]
  rfl
variable {r:List ByteArray}
theorem K8 (hk:k=6) (hl:r.length=3) (hd:AB (nth r 2) 4=true):Hj nt k r=rdN nt k (r.take 2) (BB (nth r 2)):=by
 subst hk;unfold Hj;rw[if_neg (by decide),if_pos rfl,if_pos ⟨hl,hd⟩]
theorem GE (hk:k=6) (h:¬(r.length=3/\AB (nth r 2) 4=true)):Hj nt k r=none:=by
 subst hk;unfold Hj;rw[if_neg (by decide),if_pos rfl,if_neg h]
theorem Ix (h0:¬k=0) (hk:¬k=6):Hj nt k r=rdN nt k r []:=by
 unfold Hj;rw[if_neg h0,if_neg hk]
theorem Uy (h:¬r.length=(offK k).length):rdN nt k r g=none:=if_neg h
theorem SI {x:ByteArray} (h:x∈r) (hx:numB 3 x=none):rdN nt k r g=none:=by
 unfold rdN;rw[Io h hx];split<;>rfl
theorem T3 {ns:List Int} (h:r.length=(offK k).length) (hn:Dq 3 r=some ns):rdN nt k r g=some (setF k ns g nt):=by
 unfold rdN;rw[if_pos h,hn];rfl
def BL (t:ByteArray):Option Clue:=
 if seq (nth (Ab 32 t) 0) notW then K4 true (Ab 32 t).tail else K4 false (Ab 32 t)
theorem TE {t:ByteArray} (h1:nt=seq (nth (Ab 32 t) 0) notW) (h2:l=if nt then(Ab 32 t).tail else Ab 32 t):BL t=K4 nt l:=by
 unfold BL;rw[<-h1,h2];cases nt<;>rfl
def Em:Clue:=⟨0,0,0,0,0,[],false⟩
def DV (lw ls:Int) (t:ByteArray):Int×Clue:=
 if Bg lw ls=false then(10,Em)else if 65536<(t.size:Int)then(2,Em)else match BL t with
  |none=>(4,Em)
  |some c=>if Bd lw ls c then(0,c)else(11,Em)
def Xk (w:World) (r:Option Clue):Ending->World->Prop:=fun e w'=>
 ∃x:List Value×Value,(x.1.length=7/\(∀v∈x.1,v.oneCell'=true)/\∀c,r=some c->x.1=Aw c x.2/\∃u0,SlI u0 x.2 c.g)/\RetF w (.tuple #[.agg x.1.toArray,.bool r.isSome]) (roS fun u=>∀c,r=some c->SlI u x.2 c.g) e w'
theorem Ez {r:Option Clue} {cs:List Value} (h:r=none) (hl:cs.length=7) (h1:∀v∈cs,v.oneCell'=true) (hu:St w0.heap.size w0 L u):Xk w0 r (.returned (.tuple #[.agg cs.toArray,.bool false])) u:=by
 subst h;exact⟨(cs,.nilIface),⟨hl,h1,fun c h=>by cases h⟩,retR (p:=fun u=>∀c,(none:Option Clue)=some c->SlI u .nilIface c.g) (fun S u hs c h=>by cases h) u hu⟩
variable {c:Clue}
theorem Bs (h:gv.oneCell'=true):∀v∈Aw c gv,v.oneCell'=true:=by
 intro v hv;simp only[Aw,List.mem_cons,List.not_mem_nil,or_false]at hv;rcases hv with rfl|rfl|rfl|rfl|rfl|rfl|rfl<;>first|rfl|exact h
theorem XY {r:Option Clue} {j:Nat} (h:r=some c) (hg:gv.oneCell'=true) (hj:L[j]? = some (roI gv c.g)) (hu:St w0.heap.size w0 L u):Xk w0 r (.returned (.tuple #[.agg (Aw c gv).toArray,.bool true])) u:=by
 subst h;refine⟨(Aw c gv,gv),⟨rfl,Bs hg,fun d hd=>?_⟩,retR (p:=fun u=>∀d,some c=some d->SlI u gv d.g) (fun S u hs d hd=>?_) u hu⟩
 ·cases hd;exact⟨rfl,u,hu.roI hj⟩
 cases hd;exact hs.ro hj
def ptrL (b:Nat) (os:List Nat):List Value:=os.map fun o=>.pointer (some ⟨b,o,none⟩)
def Jdr (e:TypeId) (w:World) (b:Nat) (os:List Nat):Ending->World->Prop:=fun en w'=>∃v:Value,v.oneCell'=true/\RetF w v (osl e 1 v os.length (ptrL b os)) en w'
theorem MS {e:TypeId} {b j:Nat} {os os':List Nat} {v:Value} (h:os=os') (hv:v.oneCell'=true) (hj:L[j]? = some (osl e 1 v os'.length (ptrL b os'))) (hu:St w0.heap.size w0 L u):Jdr e w0 b os (.returned v) u:=by
 subst h;exact⟨v,hv,retF hj u hu⟩
theorem Jd3 {b:Nat} {os:List Nat} {i:Nat} {o:Nat} (h:os[i]? = some o):(ptrL b os)[i]? = some (.pointer (some ⟨b,o,none⟩)):=by simp[ptrL,h]
theorem Ec (b:Nat) (os:List Nat):∀v∈ptrL b os,v.oneCell'=true:=by
 intro v hv;obtain⟨o,_,rfl⟩:=List.mem_map.1 hv
 rfl
def SL (c:Clue):List Int:=if c.k=1 then[c.a,c.n]else if c.k=2 then[c.a,c.b,c.n]else if c.k=3\/c.k=4 then[c.a,c.b]else if c.k=5\/c.k=6 then[c.n,c.m]else[c.a,c.n,c.m]
theorem QA (c:Clue):(SL c).length=(offK c.k).length:=by
 unfold SL offK
 repeat' split
 all_goals rfl
def RetI (e:TypeId) (w:World) (xs:List Int):Ending->World->Prop:=fun en w'=>∃v:Value,v.oneCell'=true/\RetF w v (oints e v xs) en w'
theorem Np {e:TypeId} {j:Nat} {xs xs':List Int} {v:Value} (h:xs=xs') (hv:v.oneCell'=true) (hj:L[j]? = some (oints e v xs')) (hu:St w0.heap.size w0 L u):RetI e w0 xs (.returned v) u:=by
 subst h;exact⟨v,hv,retF hj u hu⟩
def W9 (w:World) (x:Int×Clue):Ending->World->Prop:=fun e w'=>∃gv:Value,(gv.oneCell'=true/\∃u0,SlI u0 gv x.2.g)/\RetF w (.tuple #[.agg (Aw x.2 gv).toArray,.int .i64 x.1]) (roI gv x.2.g) e w'
theorem Ha {x:Int×Clue} {e:Int} (h:x=(e,Em)) (hu:St w0.heap.size w0 L u):W9 w0 x (.returned (.tuple #[.agg (Aw Em (.slice none 0 0)).toArray,.int .i64 e])) u:=by
 subst h;exact⟨_,⟨rfl,u,SlI.nil u⟩,retR (p:=fun u=>SlI u (.slice none 0 0) []) (fun S u hs=>SlI.nil u) u hu⟩
theorem XV {x:Int×Clue} {e:Int} (h:x=(e,c)) (hg:gv.oneCell'=true) (hp:∀S u,Star L S u->SlI u gv c.g) (hu:St w0.heap.size w0 L u):W9 w0 x (.returned (.tuple #[.agg (Aw c gv).toArray,.int .i64 e])) u:=by
 subst h;exact⟨_,⟨hg,u,hp _ u hu.star⟩,retR (p:=fun u=>SlI u gv c.g) hp u hu⟩
theorem Jaz (h:∀v∈Aw c gv,v.oneCell'=true):gv.oneCell'=true:=h gv (by simp[Aw])
theorem FH {lw ls:Int} {t:ByteArray} (h:¬Cc lw ls=0):DV lw ls t=(Cc lw ls,Em):=by
 unfold Cc at h⊢;unfold DV;cases hb:Bg lw ls with
 |true=>rw[hb]at h;simp at h
 |false=>rfl
theorem IB {lw ls:Int} {t:ByteArray} (hL:Bg lw ls=true) (h:65536<(t.size:Int)):DV lw ls t=(2,Em):=by
 unfold DV;rw[if_neg (by simp[hL]),if_pos h]
theorem Fs {lw ls:Int} {t:ByteArray} (hL:Bg lw ls=true) (h:¬65536<(t.size:Int)) (hr:BL t=none):DV lw ls t=(4,Em):=by
 unfold DV;rw[if_neg (by simp[hL]),if_neg h,hr]
theorem JD {lw ls:Int} {t:ByteArray} (hL:Bg lw ls=true) (h:¬65536<(t.size:Int)) (hr:BL t=some c) (hc:Bd lw ls c=false):DV lw ls t=(11,Em):=by
 unfold DV;rw[if_neg (by simp[hL]),if_neg h,hr];simp[hc]
theorem Mp {lw ls:Int} {t:ByteArray} (hL:Bg lw ls=true) (h:¬65536<(t.size:Int)) (hr:BL t=some c) (hc:Bd lw ls c=true):DV lw ls t=(0,c):=by
 unfold DV;rw[if_neg (by simp[hL]),if_neg h,hr];simp[hc]
theorem NW {lw ls:Int} (h:Cc lw ls=0):Bg lw ls=true:=by
 unfold Cc at h;cases hb:Bg lw ls with
 |true=>rfl
 |false=>rw[hb]at h;simp at h
section
variable {P:Program} {l:List Value} {d:Option Tmp} {ty:TypeId} {ps:String} {af:Array Edge} {g:Option (Nat×Bool)} {C:World->Prop}
theorem YB {T e:TypeId} {gl k:Nat} (hT:P.underlying T=some (.array n e)) (hk:∃i,P.info? e=some i/\i.size=k) (hn:n≠0):Det P C ⟨d,.slice T (.global gl) none none none,ty,ps,af,g⟩ l (.slice (some ⟨gl,0,none⟩) n n):=fun u _=>by
 obtain⟨i,h1,h2⟩:=hk;have hx:ev l (.global gl) = .pointer (some ⟨gl,0,none⟩):=rfl;simp[execOp,Ap,hx,Instr.sliceAt,Instr.sureAddr,run_underlying hT,Instr.sliceBounds,Instr.sliceBound,hn,sizeOf,run_typeInfo u h1,BJ]
end
theorem YP (n:Int):bl (digB n)=Lib.decDigits n.toNat:=rfl
theorem Xq {u:Nat} (h:u<1000):1<=(Lib.decDigits u).length/\(Lib.decDigits u).length<=3:=by
 have h1:∀{u:Nat},¬u<10->(Lib.decDigits u).length=(Lib.decDigits (u/10)).length+1:=fun{u} h=>by
  conv=>lhs;rw[Lib.decDigits,dif_neg h]
  simp
 have h2:∀{u:Nat},u<10->(Lib.decDigits u).length=1:=fun{u} h=>by rw[Lib.decDigits_one h];rfl
 by_cases a:u<10
 ·rw[h2 a];omega
 rw[h1 a]
 by_cases b:u/10<10
 ·rw[h2 b];omega
 rw[h1 b,h2 (show u/10/10<10 by omega)];omega
theorem XJ {d:Nat} (h:d<10):(UInt8.ofNat (48+d)).toNat=48+d:=by
 simp[Nat.mod_eq_of_lt (show 48+d<256 by omega)]
theorem Jap:∀(u:Nat),AV (Lib.decDigits u)=true/\numL (Lib.decDigits u)=u:=by
 intro u;refine Nat.strongRecOn u ?_;intro u ih
 by_cases h:u<10
 ·rw[Lib.decDigits_one h];have:=XJ h;refine⟨?_,?_⟩
  ·simp only[AV,List.all_cons,List.all_nil,Bool.and_true,Bool.and_eq_true,decide_eq_true_eq];omega
  simp only[numL,List.foldl_cons,List.foldl_nil];omega
 rw[Lib.decDigits,dif_neg h];obtain⟨h1,h2⟩:=ih (u/10) (by omega);have:=XJ (show u%10<10 by omega);refine⟨?_,?_⟩
 ·unfold AV at h1⊢;rw[List.all_append,h1];simp only[List.all_cons,List.all_nil,Bool.and_true,Bool.true_and,Bool.and_eq_true,decide_eq_true_eq];omega
 rw[Lj,h2];omega
theorem Xw {u:Nat} (h:u<100):1<=(Lib.decDigits u).length/\(Lib.decDigits u).length<=2:=by
 have h1:=(Xq (u:=u) (by omega)).1
 by_cases a:u<10
 ·rw[Lib.decDigits_one a];simp
 have h2:(Lib.decDigits u).length=(Lib.decDigits (u/10)).length+1:=by
  conv=>lhs;rw[Lib.decDigits,dif_neg a]
  simp
 rw[h2,Lib.decDigits_one (show u/10<10 by omega)];simp
theorem UX {n:Int} (h:n<100):(digB n).size<=2:=by
 rw[<-Bp,YP];exact(Xw (by omega)).2
theorem ZE (ws:List ByteArray):bl (jnB ws)=Lib.join (ws.map bl) [32]:=rfl
theorem Ja1 (x:ByteArray):jnB [x]=x:=by
 unfold jnB;rw[List.map_singleton,Lib.join_cons];simp[Lib.joinTail]
theorem ZA {ws:List ByteArray} {p:ByteArray} (h:ws≠[]):jnB (ws++[p])=jnB ws++(⟨#[32]⟩:ByteArray)++p:=by
 cases ws with
 |nil=>exact absurd rfl h
 |cons x r=>
  have e:∀(r:List (List UInt8)) (q:List UInt8),Lib.joinTail [32] (r++[q])=Lib.joinTail [32] r++([32]++q):=fun r q=>by simp[Lib.joinTail]
  apply ByteArray.ext
  apply Array.toList_inj.1
  show bl (jnB (x::r++[p]))=_;rw[ZE,List.cons_append,List.map_cons,Lib.join_cons,List.map_append,List.map_singleton,e];have e2:bl (jnB (x::r))=bl x++Lib.joinTail [32] (r.map bl):=by rw[ZE,List.map_cons,Lib.join_cons]
  simp only[ByteArray.data_append,Array.toList_append];rw[show(jnB (x::r)).data.toList=bl (jnB (x::r))from rfl,e2];simp
theorem ZF {ws:List ByteArray} (h:∀x∈ws,x.size<=n):(jnB ws).size<=(n+1)*ws.length:=by
 rw[<-Bp,ZE];exact Om h
def X0:ByteArray:=⟨#[103,111,97,108]⟩
def sgnB (b:Bool):ByteArray:=if b=true then⟨#[33]⟩else⟨#[61]⟩
structure FineW (x:ByteArray):Prop where
 hi:∀b∈bl x,33<=b.toNat
 sz:x.size<=15
theorem IP (a b:ByteArray):bl (a++b)=bl a++bl b:=by simp[bl,ByteArray.data_append]
theorem Jbm {t:ByteArray} (h:lowB t=true):∀b∈bl t,97<=b.toNat/\b.toNat<=122:=fun b hb=>by
 obtain⟨i,hi,rfl⟩:=List.mem_iff_getElem.1 hb;have hs:i<t.size:=by rw[<-Bp];exact hi
 unfold lowB at h;have:=List.all_eq_true.1 h i (by simpa using hs);have e:=Ej hs;simp only[Bool.and_eq_true,decide_eq_true_eq]at this;omega
theorem Uq {t:ByteArray} (h:AY t=true):lowB t=true:=by
 simp only[AY,Au,Bool.and_eq_true]at h;exact h.2.1
theorem Ot {t:ByteArray} (h:AY t=true):t.size<=12:=by
 simp only[AY,Bool.and_eq_true,decide_eq_true_eq]at h;omega
theorem FineW.named {t:ByteArray} (h:AY t=true):FineW t:=⟨fun b hb=>by have:=Jbm (Uq h) b hb;omega,by have:=Ot h;omega⟩
theorem Jfw (n:Int):∀b∈bl (digB n),48<=b.toNat/\b.toNat<=57:=fun b hb=>by
 have h:=(Jap n.toNat).1;unfold AV at h;have:=List.all_eq_true.1 h b hb
 simpa using this
theorem Jdz (b:Bool):bl (sgnB b)=[if b=true then 33 else 61]:=by cases b<;>rfl
theorem Jdv (b:Bool):(sgnB b).size=1:=by cases b<;>rfl
theorem FineW.lit {nm:ByteArray} {n:Int} (h:AY nm=true) (hn:n<100):FineW (nm++sgnB b++digB n):=by
 refine⟨fun x hx=>?_,?_⟩
 ·rw[IP,IP,Jdz]at hx;rcases List.mem_append.1 hx with hx|hx
  ·rcases List.mem_append.1 hx with hx|hx
   ·exact(FineW.named h).hi x hx
   rw[List.mem_singleton]at hx;subst hx;cases b<;>decide
  have:=Jfw n x hx;omega
 have h1:=Ot h;have h2:=Jdv b;have h3:=UX hn;simp only[ByteArray.size_append];omega
theorem G9 {a b:ByteArray} (h:bl a=bl b):a=b:=by
 rw[<-Xs a,h,Xs]
theorem YH (a:Array UInt8):bl ⟨a⟩=a.toList:=rfl
def sepd (c:UInt8):List (List UInt8)->List (List UInt8)
 |[]=>[]
 |[z]=>[z]
 |x::y::xs=>(x++[c])::sepd c (y::xs)
theorem DQ (c:UInt8) (x:List UInt8) {xs:List (List UInt8)} (h:0<xs.length):sepd c (x::xs)=(x++[c])::sepd c xs:=by
 cases xs with
 |nil=>simp at h
 |cons y ys=>rfl
theorem Jb (c b:UInt8) (x:List UInt8) (xs:List (List UInt8)):sepd c ((b::x)::xs)=match sepd c (x::xs)with
  |z::zs=>(b::z)::zs
  |[]=>[[b]]:=by
 cases xs with
 |nil=>rfl
 |cons y ys=>rfl
theorem G4 (c:UInt8):∀l:List UInt8,Lib.splitK [c] 1 (Lib.count l [c]) l=sepd c (AO c l)
 |[]=>by rw[Lib.count_one];rfl
 |b::r=>by
  have ih:=G4 c r
  by_cases h:b=c
  ·subst h;rw[Lib.count_cons_eq,Nat.add_comm];have hi:Lib.index (b::r) [b]=0:=by rw[Lib.index];simp[List.isPrefixOf]
   unfold Lib.splitK AO;rw[hi,if_neg (by decide),if_pos rfl,DQ _ _ (C4 b r)];simp[ih]
  rw[Lib.count_cons_ne _ _ _ h];have hp:([c]:List UInt8).isPrefixOf (b::r)=false:=by simp[List.isPrefixOf,Ne.symm h]
  have hi:Lib.index (b::r) [c]=if Lib.index r [c] == -1 then -1 else Lib.index r [c]+1:=by rw[Lib.index,hp];simp
  have e:sepd c (AO c (b::r))=match sepd c (AO c r)with
    |z::zs=>(b::z)::zs
    |[]=>[[b]]:=by
   have hq:=C4 c r;rw[AO,if_neg h];cases hs:AO c r with
   |nil=>rw[hs]at hq;simp at hq
   |cons x xs=>exact Jb c b x xs
  rw[e,<-ih];cases hk:Lib.count r [c]with
  |zero=>rfl
  |succ k=>
   have hne:¬Lib.index r [c] = -1:=fun e=>by rw[Lib.count_miss e]at hk;cases hk
   have hge:=Lib.index_ge r [c];unfold Lib.splitK;rw[hi,if_neg (show¬(Lib.index r [c] == -1)=true by simpa using hne),if_neg (show¬(Lib.index r [c]+1 == -1)=true by simp;omega)];have e1:(Lib.index r [c]+1).toNat=(Lib.index r [c]).toNat+1:=by omega
   simp only[e1,List.take_succ_cons,List.length_cons,List.length_nil,Nat.zero_add,List.drop_succ_cons];rw[if_neg (show¬(Lib.index r [c] == -1)=true by simpa using hne)]
def aftS (c:UInt8) (t:ByteArray):List ByteArray:=(sepd c (AO c (bl t))).map ba
theorem My (c:UInt8) (s:ByteArray):Lib.splitB ⟨#[c]⟩ 1 (Lib.countB s ⟨#[c]⟩) s=aftS c s:=by
 have h:=Lib.splitB_data ⟨#[c]⟩ 1 (Lib.countB s ⟨#[c]⟩) s;have h2:Lib.splitK [c] 1 (Lib.count (bl s) [c]) (bl s)=sepd c (AO c (bl s)):=G4 c (bl s);have h3:(Lib.splitB ⟨#[c]⟩ 1 (Lib.countB s ⟨#[c]⟩) s).map bl=sepd c (AO c (bl s)):=h.trans h2;unfold aftS;rw[<-h3,List.map_map]
 conv=>lhs;rw[<-List.map_id (Lib.splitB ⟨#[c]⟩ 1 (Lib.countB s ⟨#[c]⟩) s)]
 rfl
theorem KR (c:UInt8):∀l:List (List UInt8),(sepd c l).length=l.length
 |[]=>rfl
 |[_]=>rfl
 |x::y::xs=>by rw[DQ c x (by simp),List.length_cons,KR c (y::xs)];rfl
theorem EI (c:UInt8) (t:ByteArray):(aftS c t).length=(Ab c t).length:=by
 unfold aftS Ab;rw[List.length_map,List.length_map,KR]
theorem PH (c:UInt8):∀(l:List (List UInt8)) (i:Nat),i+1<l.length->(sepd c l)[i]? = (l[i]?).map (· ++[c])
 |x::y::xs,0,_=>rfl
 |x::y::xs,i+1,h=>by
  rw[DQ c x (by simp),List.getElem?_cons_succ,List.getElem?_cons_succ,PH c (y::xs) i (by simpa using h)]
 |[_],i,h=>by simp at h
 |[],i,h=>by simp at h
theorem K1 (c:UInt8):∀(l:List (List UInt8)) (i:Nat),i+1=l.length->(sepd c l)[i]? = l[i]?
 |[_],0,_=>rfl
 |x::y::xs,0,h=>by simp at h
 |x::y::xs,i+1,h=>by
  rw[DQ c x (by simp),List.getElem?_cons_succ,List.getElem?_cons_succ,K1 c (y::xs) i (by simpa using h)]
 |[_],i+1,h=>by simp at h
 |[],i,h=>by simp at h
theorem JF [Inhabited α] {l:List α} {x:α} (h:l[i.toNat]? = some x):nth l i=x:=by simp[nth,List.getD,h]
theorem Ii [Inhabited α] {l:List α} (h0:0<=i) (h1:i<l.length):l[i.toNat]? = some (nth l i):=by
 have:i.toNat<l.length:=by omega
 simp[nth,List.getD,this]
theorem SX {c:UInt8} {t:ByteArray} (h0:0<=i) (h1:i+1<(Ab c t).length):nth (aftS c t) i=nth (Ab c t) i++(⟨#[c]⟩:ByteArray):=by
 have hl:i.toNat+1<(AO c (bl t)).length:=by simp only[Ab,List.length_map]at h1;omega
 refine JF ?_;have e:=Ii (l:=Ab c t) h0 (by omega);unfold Ab at e;unfold aftS;rw[List.getElem?_map]at e;rw[List.getElem?_map,PH _ _ _ hl];cases hx:(AO c (bl t))[i.toNat]? with
 |none=>rw[hx]at e;cases e
 |some x=>
  rw[hx]at e;have e2:=Option.some.inj e;rw[Option.map_some,Option.map_some,show nth (Ab c t) i=ba x from e2.symm];exact congrArg some (G9 (by simp[IP,YH]))
theorem HQ {c:UInt8} {t:ByteArray} (h0:0<=i) (h1:i+1=(Ab c t).length):nth (aftS c t) i=nth (Ab c t) i:=by
 have hl:i.toNat+1=(AO c (bl t)).length:=by simp only[Ab,List.length_map]at h1;omega
 refine JF ?_;have e:=Ii (l:=Ab c t) h0 (by omega);unfold Ab at e;unfold aftS;rw[List.getElem?_map]at e;rw[List.getElem?_map,K1 _ _ _ hl];exact e
def Hk (t:ByteArray):ByteArray:=nth (Ab 10 t) ((Ab 10 t).length-1)
def linS (t:ByteArray):List ByteArray:=if seq (Hk t) ⟨#[]⟩=true then(aftS 10 t).dropLast else aftS 10 t
theorem GO (t:ByteArray):((linS t).length:Int)=if seq (Hk t) ⟨#[]⟩=true then((Ab 10 t).length:Int)-1 else(Ab 10 t).length:=by
 have h:=EI 10 t;have hp:=AE 10 t;unfold linS;split
 ·rw[List.length_dropLast,h];omega
 rw[h]
theorem UL {t:ByteArray} (h0:0<=i) (h1:i<(linS t).length):nth (linS t) i=nth (aftS 10 t) i:=by
 unfold linS at h1⊢;split
 ·rename_i hq;rw[if_pos hq,List.length_dropLast]at h1;have e:=Ii (l:=aftS 10 t) h0 (by omega);refine JF ?_;rw[List.dropLast_eq_take,List.getElem?_take,if_pos (by omega)];exact e
 rfl
def A4:ByteArray:=⟨#[99,111,100,101,108,111,99,107]⟩
def DI:ByteArray:=⟨#[110,111,116,101]⟩
def B0:ByteArray:=⟨#[116,114,105,101,115]⟩
def goalSp:List UInt8:=[103,111,97,108,32]
theorem Jie (r:Room):r.e.pls.l=r.pls.l:=List.map_id _
theorem Jgu (r:Room):r.e.ths.l=r.ths.l:=List.map_id _
def Eq (ws:Wds):Option (LockD×List Int):=
 if ws.length=3/\AB (nth ws 2) 4=true then(numB 3 (nth ws 0)).bind fun a=>(numB 3 (nth ws 1)).map fun b=>(⟨a,b⟩,BB (nth ws 2))else none
def IK (ws:Wds):Option Int:=if ws.length=1 then numB 3 (nth ws 0)else none
def Cf (lks:List LockD) (k:Int) (ws:Wds):Int×Clue:=DV (nth lks k).w (nth lks k).s (jnB ws)
def CU (lks:List LockD) (ws:Wds):Option (Int×Clue):=
 if isW Br ws then(numW 3 ws.tail).bind fun k=>if k.1<(lks.length:Int)/\(Cf lks k.1 k.2).1=0 then some (k.1,(Cf lks k.1 k.2).2)else none
 else if ws=[]then some (-1,Em)else none
def BP (pls:Wds) (ths:List Thing) (lks:List LockD) (ws:Wds):Option NoteP:=
 (CL ws).bind fun n=>(Eo atW n.2).bind fun w1=>(A8 id pls w1).bind fun p=>(CB ths p.2).bind fun c=>(CU lks c.2).map fun k=>⟨n.1,p.1,k.1,c.1,k.2⟩
inductive LnG where
 |lock (x:LockD) (c:List Int)
 |note (n:NoteP)
 |tries (n:Int)
def addG (G:GP):LnG->GP
 | .lock x c=>{G with lks:=G.lks++[x],cds:=G.cds++[c]}
 | .note n=>{G with nts:=G.nts++[n]}
 | .tries n=>{G with tr:=n}
def kdG:LnG->Int
 | .lock _ _=>0
 | .note _=>1
 | .tries _=>2
def EY (G:GP) (kd:Int) (t:ByteArray):Option LnG:=
 (BN (Ab 32 t)).bind fun h=>
  if seq h.1 A4 then(if kd=0 then(Eq h.2).map fun x=>.lock x.1 x.2 else none)
  else if seq h.1 DI then(if kd<=1 then(BP G.rm.pls.l G.rm.ths.l G.lks h.2).map .note else none)
  else if seq h.1 B0 then(if kd<=1 then(IK h.2).map .tries else none)else none
def gp0:GP:=⟨room0.e,[],[],[],0⟩
def finG (G:GP):GP×Int×Int:=if Bo G≠0 then(gp0,0,Bo G)else(G,0,0)
def Hn:GP->Int->Int->List ByteArray->GP×Int×Int
 |_,_,i,[]=>(gp0,i+1,4)
 |G,kd,i,t::ts=>match ts with
  |[]=>if seq t ⟨#[]⟩=true/\kd=2 then finG G else(gp0,i+1,4)
  |_=>match EY G kd t with
   |some x=>Hn (addG G x) (kdG x) (i+1) ts
   |none=>(gp0,i+1,4)
variable {G:GP}
theorem GK {t:ByteArray}:Hn G kd i [t]=if seq t ⟨#[]⟩=true/\kd=2 then finG G else(gp0,i+1,4):=by unfold Hn;rfl
theorem Ol {t:ByteArray} {x:LnG} (h0:0<ts.length) (h:EY G kd t=some x):Hn G kd i (t::ts)=Hn (addG G x) (kdG x) (i+1) ts:=by
 cases ts with
 |nil=>simp at h0
 |cons a b=>rw[Hn]<;>simp[h]
theorem Pj {t:ByteArray} (h0:0<ts.length) (h:EY G kd t=none):Hn G kd i (t::ts)=(gp0,i+1,4):=by
 cases ts with
 |nil=>simp at h0
 |cons a b=>rw[Hn]<;>simp[h]
def B6 (t:ByteArray):Bool:=seq t X0||goalSp.isPrefixOf (bl t)
def linN (t:ByteArray):Int:=((Ab 10 t).length:Int)-1
def Dl (t:ByteArray):Int:=idxF B6 (Ab 10 t).dropLast
def EE (t:ByteArray):Int:=if 0<=Dl t then Dl t+1 else linN t
def LO (ls:List ByteArray):ByteArray:=ba (ls.flatMap fun x=>bl x++[10])
def Ct (t:ByteArray):ByteArray:=if 0<=Dl t then LO ((Ab 10 t).take (Dl t+1).toNat)else t
def D2 (t:ByteArray):GP×Int×Int:=
 if(CR (Ct t)).2.2≠0 then(gp0,(CR (Ct t)).2.1,(CR (Ct t)).2.2)else Hn ⟨(CR (Ct t)).1.e,[],[],[],0⟩ 0 (EE t) ((Ab 10 t).drop (EE t).toNat)
theorem KZ {t:ByteArray} {x:Room×Int×Int} (hx:CR (Ct t)=x) (h:¬x.2.2=0):D2 t=(gp0,x.2.1,x.2.2):=by
 unfold D2;rw[hx];exact if_pos h
theorem Ox {t:ByteArray} {x:Room×Int×Int} (hx:CR (Ct t)=x) (h:x.2.2=0):D2 t=Hn ⟨x.1.e,[],[],[],0⟩ 0 (EE t) ((Ab 10 t).drop (EE t).toNat):=by
 unfold D2;rw[hx];exact if_neg (fun h2=>h2 h)
theorem Gj (t:ByteArray): -1<=Dl t/\Dl t<linN t:=by
 have hp:=AE 10 t;unfold Dl linN idxF;split
 ·rename_i i hi;rw[List.findIdx?_eq_some_iff_getElem]at hi;obtain⟨h,_⟩:=hi;rw[List.length_dropLast]at h;omega
 omega
theorem KN (t:ByteArray):0<=EE t/\EE t<=linN t:=by
 have h:=Gj t;have hp:=AE 10 t;unfold EE;split
 ·omega
 unfold linN;omega
theorem Jx:∀{ts:List ByteArray} {r:Room} {kd i:Int},0<ts.length->(CW r kd i ts).2.2=0->seq (nth ts (ts.length-1)) ⟨#[]⟩=true
 |[],_,_,_,h,_=>by simp at h
 |[t],r,kd,i,_,h=>by
  rw[C7]at h;split at h
  ·rename_i h1;exact h1
  cases h
 |t::t2::ts,r,kd,i,_,h=>by
  cases hl:BC r kd t with
  |none=>rw[FZ (by simp) hl]at h;cases h
  |some x=>
   rw[FY (x:=x.2) (k:=x.1) (by simp) hl]at h;have ih:=Jx (ts:=t2::ts) (by simp) h
   have e:nth (t::t2::ts) (((t::t2::ts).length:Int)-1)=nth (t2::ts) (((t2::ts).length:Int)-1):=by
    have e1:(((t::t2::ts).length:Int)-1).toNat=(((t2::ts).length:Int)-1).toNat+1:=by simp only[List.length_cons];omega
    unfold nth;rw[e1];rfl
   rw[e];exact ih
theorem TO {t:ByteArray} (h:(CR t).2.2=0):seq (Hk t) ⟨#[]⟩=true:=Jx (AE 10 t) h
def CQ (ths:List Thing):Wds->Option (List Lit)
 |[]=>some []
 |t::r=>match litT ths t,CQ ths r with
  |some a,some c=>some (a::c)
  |_,_=>none
variable {ths:List Thing}
theorem U7 {t:ByteArray} (h:resB t=true):litT ths t=none:=by
 unfold resB at h;obtain⟨x,hx,e⟩:=List.any_eq_true.1 h;obtain rfl:x=t:=C9.1 e;simp only[wordL,List.mem_cons,List.not_mem_nil,or_false]at hx;rcases hx with rfl|rfl|rfl|rfl|rfl|rfl|rfl|rfl|rfl|rfl<;>exact if_neg fun h=>absurd h.1 (by decide)
theorem WZ {t:ByteArray} (h:seq t Br=true):resB t=true:=by
 obtain rfl:=C9.1 h;decide+kernel
theorem Mm {t:ByteArray} {r:Wds} (h:resB t=true):BE ths (t::r)=some ([],t::r):=by unfold BE;exact if_pos h
theorem KC {ths:List Thing} {post:Wds} (hq:post=[]\/isW Br post=true):∀{pre:Wds} {c:List Lit},CQ ths pre=some c->BE ths (pre++post)=some (c,post)
 |[],c,h=>by
  cases h;rcases hq with rfl|h1
  ·rfl
  cases post with
  |nil=>cases h1
  |cons t r=>exact Mm (WZ h1)
 |t::r,c,h=>by
  unfold CQ at h;cases hl:litT ths t with
  |none=>rw[hl]at h;cases h
  |some a=>
   cases hc:CQ ths r with
   |none=>rw[hl,hc]at h;cases h
   |some c'=>
    rw[hl,hc]at h;have ih:=KC hq (pre:=r) hc
    have hr:resB t=false:=by
     cases hr:resB t with
     |false=>rfl
     |true=>rw[U7 hr]at hl;cases hl
    rw[List.cons_append,BE,if_neg (by rw[hr];decide),hl,ih];cases h;rfl
variable {lks:List LockD}
theorem Pf {t:ByteArray} {r:Wds} (h:seq t Br=false):CU lks (t::r)=none:=by
 unfold CU;rw[if_neg (show¬isW Br (t::r)=true by show¬seq t Br=true;rw[h];decide)];exact if_neg (by simp)
theorem Oh {ths:List Thing} {lks:List LockD} {post:Wds}:∀{pre:Wds},(∀x∈pre,seq x Br=false)->CQ ths pre=none->(BE ths (pre++post)).bind (fun x=>CU lks x.2)=none
 |[],_,h=>by cases h
 |t::r,hx,h=>by
  cases hr:resB t with
  |true=>
   rw[List.cons_append,Mm hr];exact Pf (hx t List.mem_cons_self)
  |false=>
   unfold CQ at h;rw[List.cons_append,BE,if_neg (by rw[hr];decide)];cases hl:litT ths t with
   |none=>rfl
   |some a=>
    rw[hl]at h
    have hn:CQ ths r=none:=by
     cases hc:CQ ths r with
     |none=>rfl
     |some c=>rw[hc]at h;cases h
    have ih:=Oh (lks:=lks) (post:=post) (fun x hx'=>hx x (List.mem_cons_of_mem _ hx')) hn;cases hc:BE ths (r++post)with
    |none=>rfl
    |some c=>
     rw[hc]at ih;exact ih
theorem JG {ths:List Thing} {t:ByteArray} {a:Lit}:∀{ws:Wds} {c:List Lit},CQ ths ws=some c->litT ths t=some a->CQ ths (ws++[t])=some (c++[a])
 |[],c,h,ha=>by
  cases h;rw[List.nil_append,CQ,ha];rfl
 |x::r,c,h,ha=>by
  unfold CQ at h;cases hl:litT ths x with
  |none=>rw[hl]at h;cases h
  |some b=>
   cases hc:CQ ths r with
   |none=>rw[hl,hc]at h;cases h
   |some c'=>
    rw[hl,hc]at h;cases h;rw[List.cons_append,CQ,hl,JG hc ha];rfl
theorem LN {ths:List Thing} {t:ByteArray}:∀{ws:Wds},t∈ws->litT ths t=none->CQ ths ws=none
 |x::r,hm,h=>by
  unfold CQ;rcases List.mem_cons.1 hm with rfl|hm
  ·rw[h]
  rw[LN hm h];cases litT ths x<;>rfl
def FQ (ths:List Thing) (lks:List LockD) (ws:Wds):Option (List Lit×Int×Clue):=(CB ths ws).bind fun c=>(CU lks c.2).map fun k=>(c.1,k.1,k.2)
theorem DY {x:ByteArray} {r:Wds}:CL (x::r)=if Au x=true then some (x,r)else none:=rfl
theorem Gu {t x:ByteArray} {r:Wds}:Eo t (x::r)=if seq x t=true then some r else none:=rfl
theorem IU {f:α->ByteArray} {l:List α} {x:ByteArray} {r:Wds}:A8 f l (x::r)=if Au x=true/\0<=idxN f l x then some (idxN f l x,r)else none:=by
 unfold A8;rw[DY]
 by_cases h:Au x=true
 ·rw[if_pos h,Option.bind_some]
  by_cases h2:0<=idxN f l x
  ·rw[if_pos h2,if_pos ⟨h,h2⟩]
  rw[if_neg h2,if_neg fun h3=>h2 h3.2]
 rw[if_neg h,if_neg fun h3=>h h3.1];rfl
variable {pls:Wds}
theorem M3 (h:ws.length<3):BP pls ths lks ws=none:=by
 match ws,h with
 |[],_=>rfl
 |[a],_=>
  unfold BP;rw[DY];split<;>rfl
 |[a,b],_=>
  unfold BP;rw[DY];split
  ·rw[Option.bind_some,Gu];split<;>rfl
  rfl
theorem F0 {a b c:ByteArray} {r:Wds} (h:¬(Au a=true/\seq b atW=true/\Au c=true/\0<=idxN id pls c)):BP pls ths lks (a::b::c::r)=none:=by
 unfold BP;rw[DY];split
 ·rename_i h1;rw[Option.bind_some,Gu];split
  ·rename_i h2;rw[Option.bind_some,IU,if_neg fun h3=>h ⟨h1,h2,h3⟩];rfl
  rfl
 rfl
theorem Rf {a b c:ByteArray} {r:Wds} (h1:Au a=true) (h2:seq b atW=true) (h3:Au c=true) (h4:0<=idxN id pls c):
  BP pls ths lks (a::b::c::r)=(FQ ths lks r).map fun x=>⟨a,idxN id pls c,x.2.1,x.1,x.2.2⟩:=by
 unfold BP FQ;rw[DY,if_pos h1,Option.bind_some,Gu,if_pos h2,Option.bind_some,IU,if_pos ⟨h3,h4⟩,Option.bind_some];cases CB ths r with
 |none=>rfl
 |some x=>
  rw[Option.bind_some,Option.bind_some];cases CU lks x.2<;>rfl
theorem Xl (h:isW ifW ws=false):FQ ths lks ws=(CU lks ws).map fun k=>([],k.1,k.2):=by
 unfold FQ CB;rw[if_neg (by rw[h];decide)];rfl
variable {post:Wds}
theorem WD {pre:Wds} {c:List Lit} (hq:post=[]\/isW Br post=true) (hl:CQ ths pre=some c) (h0:c≠[]):FQ ths lks (ifW::(pre++post))=(CU lks post).map fun k=>(c,k.1,k.2):=by
 unfold FQ CB;rw[if_pos (show isW ifW (ifW::(pre++post))=true from CI _),List.tail_cons,KC hq hl,Option.bind_some,if_neg h0];rfl
theorem Ry {pre:Wds} (hx:∀x∈pre,seq x Br=false) (hl:CQ ths pre=none):FQ ths lks (ifW::(pre++post))=none:=by
 unfold FQ CB;rw[if_pos (show isW ifW (ifW::(pre++post))=true from CI _),List.tail_cons];have h:=Oh (lks:=lks) (post:=post) hx hl;cases hc:BE ths (pre++post)with
 |none=>rfl
 |some x=>
  rw[hc]at h;rw[Option.bind_some];split
  ·rfl
  rw[Option.bind_some,show CU lks x.2=none from h];rfl
theorem SZ (hq:post=[]\/isW Br post=true):FQ ths lks (ifW::post)=none:=by
 unfold FQ CB;rw[if_pos (show isW ifW (ifW::post)=true from CI _),List.tail_cons,show BE ths post=some ([],post)from KC hq (pre:=[]) rfl,Option.bind_some,if_pos rfl];rfl
theorem TZ:BL ⟨#[]⟩=none:=by decide+kernel
theorem Rk:¬(Cf lks k []).1=0:=by
 have e:jnB []=⟨#[]⟩:=rfl;unfold Cf;rw[e]
 by_cases h:Cc (nth lks k).w (nth lks k).s=0
 ·rw[Fs (NW h) (by decide) TZ];decide
 rw[FH h];exact h
theorem OC (c:UInt8):∀l:List UInt8,(sepd c (AO c l)).flatten=l
 |[]=>rfl
 |b::r=>by
  have ih:=OC c r
  by_cases h:b=c
  ·subst h;rw[AO,if_pos rfl,DQ _ _ (C4 b r)];simp[ih]
  have hq:=C4 c r;rw[AO,if_neg h];cases hs:AO c r with
  |nil=>rw[hs]at hq;simp at hq
  |cons x xs=>
   rw[hs]at ih;show(sepd c ((b::x)::xs)).flatten=_;rw[Jb];cases hd:sepd c (x::xs)with
   |nil=>
    have:=KR c (x::xs);rw[hd]at this;simp at this
   |cons z zs=>
    rw[hd]at ih;rw[List.flatten_cons]at ih;rw[List.flatten_cons,List.cons_append,ih]
theorem K5 (c:UInt8):∀(l:List (List UInt8)) (n:Nat),n<l.length->(sepd c l).take n=(l.take n).map (· ++[c])
 |x::y::xs,0,_=>rfl
 |x::y::xs,n+1,h=>by
  rw[DQ c x (by simp),List.take_succ_cons,List.take_succ_cons,List.map_cons,K5 c (y::xs) n (by simpa using h)]
 |[_],0,_=>rfl
 |[_],n+1,h=>by simp at h
 |[],n,h=>by simp at h
def catS (xs:List ByteArray):ByteArray:=ba (xs.flatMap bl)
theorem J0 (t:ByteArray):catS (aftS 10 t)=t:=by
 refine G9 ?_;show(aftS 10 t).flatMap bl=bl t;unfold aftS;rw[List.flatMap_def,List.map_map];have e:(bl∘ba)=(id:List UInt8->List UInt8):=by funext l;rfl
 rw[e,List.map_id];exact OC 10 (bl t)
theorem LM {t:ByteArray} (h:n<(Ab 10 t).length):catS ((aftS 10 t).take n)=LO ((Ab 10 t).take n):=by
 have hl:n<(AO 10 (bl t)).length:=by simpa [Ab]using h
 refine G9 ?_;show((aftS 10 t).take n).flatMap bl=((Ab 10 t).take n).flatMap fun x=>bl x++[10];unfold aftS Ab;rw[<-List.map_take,<-List.map_take,K5 _ _ _ hl,List.flatMap_def,List.flatMap_def,List.map_map,List.map_map,List.map_map]
 rfl
theorem Kq (t:ByteArray):catS (linS t)=t:=by
 unfold linS;split
 ·rename_i h;have hp:=AE 10 t;have ha:=EI 10 t;have e1:=Ii (l:=aftS 10 t) (i:=(linN t)) (by unfold linN;omega) (by unfold linN;omega);rw[HQ (by unfold linN;omega) (by unfold linN;omega)]at e1;have e2:nth (Ab 10 t) (linN t)=⟨#[]⟩:=C9.1 h;rw[e2]at e1
  have e3:aftS 10 t=(aftS 10 t).dropLast++[⟨#[]⟩]:=by
   have hne:aftS 10 t≠[]:=fun h0=>by rw[h0]at ha;simp at ha;omega
   have e4:(aftS 10 t).getLast hne=⟨#[]⟩:=by
    rw[List.getLast_eq_getElem];have:=(List.getElem?_eq_some_iff.1 e1).2;rw[<-this];congr 1;unfold linN;omega
   conv=>lhs;rw[<-List.dropLast_concat_getLast hne,e4]
  have h5:=J0 t;rw[e3]at h5;refine G9 ?_;have h6:=congrArg bl h5;have h7:((aftS 10 t).dropLast++[(⟨#[]⟩:ByteArray)]).flatMap bl=bl t:=h6;rw[List.flatMap_append,show([(⟨#[]⟩:ByteArray)]).flatMap bl=[]from rfl,List.append_nil]at h7;exact h7
 exact J0 t
theorem V8 {t:ByteArray} (h:n<(Ab 10 t).length):(linS t).take n=(aftS 10 t).take n:=by
 unfold linS;split
 ·rw[List.dropLast_eq_take,List.take_take,EI,Nat.min_eq_left (by omega)]
 rfl
theorem Rq {t:ByteArray} (h0:0<=i) (h1:i<linN t) (hn:∀j:Int,0<=j->j<i->B6 (nth (Ab 10 t) j)=false) (h:B6 (nth (Ab 10 t) i)=true):Dl t=i:=by
 have hp:=AE 10 t
 have hd:∀j:Int,0<=j->j<linN t->nth (Ab 10 t).dropLast j=nth (Ab 10 t) j:=fun j h2 h3=>by
  unfold linN at h3;refine JF ?_;rw[List.dropLast_eq_take,List.getElem?_take,if_pos (by omega)];exact Ii h2 (by omega)
 unfold Dl;refine AM h0 (by rw[List.length_dropLast];unfold linN at h1;omega) (fun j h2 h3=>?_) ?_
 ·rw[hd j h2 (by omega)];exact hn j h2 h3
 rw[hd i h0 h1];exact h
theorem P7 {t:ByteArray} (hn:∀j:Int,0<=j->j<linN t->B6 (nth (Ab 10 t) j)=false):Dl t = -1:=by
 have hp:=AE 10 t;unfold Dl;refine A2 fun j h2 h3=>?_;rw[List.length_dropLast]at h3
 have h4:nth (Ab 10 t).dropLast j=nth (Ab 10 t) j:=by
  refine JF ?_;rw[List.dropLast_eq_take,List.getElem?_take,if_pos (by omega)];exact Ii h2 (by omega)
 rw[h4];exact hn j h2 (by unfold linN;omega)
theorem WV {t:ByteArray} (h:Dl t=i) (h0:0<=i):EE t=i+1/\Ct t=LO ((Ab 10 t).take (i+1).toNat):=by
 subst h;unfold EE Ct;rw[if_pos h0,if_pos h0];exact⟨rfl,rfl⟩
theorem Uz {t:ByteArray} (h:Dl t = -1):EE t=linN t/\Ct t=t:=by
 unfold EE Ct;rw[h];exact⟨rfl,rfl⟩
end Go.Proofs.YtllebkdchemabaaGreatDoor
