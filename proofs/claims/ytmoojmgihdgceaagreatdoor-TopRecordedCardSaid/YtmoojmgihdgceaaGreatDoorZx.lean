/- Merged texts of this proof (walks and plain laws), printed by a program of the prover. -/
import Derived.Test.YtmoojmgihdgceaaGreatDoorZa
import Derived.ProofKit
import Derived.Deep.Slices
import Derived.Lib.SmallJoins
import Derived.Test.YtmoojmgihdgceaaGreatDoorZb
import Derived.MakeChecks
import Derived.ChangeVars
import Derived.LaidMore
import Derived.Lay
import Derived.LaidOnce
import Derived.SevenTiedAt
import Derived.Handed
import Derived.Test.YtmoojmgihdgceaaGreatDoorZh
import Derived.Test.YtmoojmgihdgceaaGreatDoorRows
import Derived.Test.YtmoojmgihdgceaaGreatDoorZu
namespace Go.Proofs.YtmoojmgihdgceaaGreatDoor
set_option linter.unusedVariables false
set_option linter.unusedSimpArgs false
open Go.ChangeShapes Go.WideShapes Go.ChangeAt Go.RowKit Go.Deep Go.Joins Go.Proofs.Tryz
section
variable {H:Type} {enc:TypeId×Value→H} {P:Program} {w:World} {base:Nat}
theorem Fv (hl:laidOutB P=true) {W W':World} {sp:Nat→Bool}:∀{ts:List TypeId} {vs:List Value} {ds:List (DataW H)} {ps:List MemPlace},(∀t∈ts,P.readableRec t=true∧t<P.types.size)→
  DataW.TrodAll enc P W base (fun _=>true) true ts vs ds ps→(∀p∈ps,W.sameAt W' p)→(∀p∈ps,sp p.block=true)→DataW.TrodAll enc P W' base sp true ts vs ds ps
 |[],[],[],ps,_,h,_,_=>h
 |t::ts,v::vs,d::ds,ps,hr,⟨p,q,h1,h2,e⟩,hs,hsp=>by
  subst e
  exact⟨p,q,WideElems.Trod_stays hl (hr t (by simp)).1 (hr t (by simp)).2 h1 (fun x hx=>hs x (by simp[hx])) (fun x hx=>hsp x (by simp[hx])),
   Fv hl (fun t ht=>hr t (by simp[ht])) h2 (fun x hx=>hs x (by simp[hx])) (fun x hx=>hsp x (by simp[hx])),rfl⟩
 |[],[],_::_,_,_,h,_,_=>h.elim
 |[],_::_,_,_,_,h,_,_=>h.elim
 |_::_,[],_,_,_,h,_,_=>h.elim
 |_::_,_::_,[],_,_,h,_,_=>h.elim
theorem So {f:Func} {s:ChangeSpec} {apart fresh handsOn again:Bool} {W W':World} {args:Array Value} {ds:List (DataW H)} {gs:List (DataW H)} {before:List MemPlace} {tb:TypeId}
  (hl:laidOutB P=true) (hr0:(f.params.toList.all fun t=>P.readableRec t&&decide (t<P.types.size))=true) (hrt:f.resultTypes = #[tb]) (htb:P.underlying tb=some .bool)
  (hW:DataW.Whole enc P f.params.toList s.vars apart W args.toList ds gs before) (hv:s.vars=[]) (hb:Below W.heap.size W W')
  (hres:(s.fn H (ds++gs)).results=[.lit (.bool true)]) (hargs:(s.fn H (ds++gs)).args=ds) (hvars:(s.fn H (ds++gs)).vars=[]):s.post enc P f apart fresh handsOn again W args (.bool true) W':=by
 have hr:∀t∈f.params.toList,P.readableRec t=true∧t<P.types.size:=fun t ht=>by
  have:=List.all_eq_true.1 hr0 t ht
  simpa using this
 have hlt:∀p∈before,p.block<W.heap.size:=fun p hp=>hW.lt p hp;have hW0:=hW;obtain⟨p,q,hA,hV,rfl,hfz,hnd⟩:=hW;rw[hv]at hV;obtain⟨rfl,rfl⟩:=trodVars_none hV
 have hone:∀(b:Nat) (sp:Nat→Bool) (hd:Bool),DataW.TrodAll enc P W' b sp hd [tb] [.bool true] [.lit (.bool true)] []:=fun b sp hd=>
  trodAll_mk1 ⟨1,by simp[DataW.trod,Value.cells,htb]⟩
 have hall:∀sp:Nat→Bool,(∀x∈p,sp x.block=true)→DataW.TrodAll enc P W' 0 sp true f.params.toList args.toList ds p:=fun sp hsp=>
  Fv hl hr hA (fun x hx=>hb.same (hlt x (by simp[hx]))) hsp
 refine⟨ds,[],p++[],[],p,[],hW0,?_,?_,?_,hb.frame _,fun _=>⟨?_,.lit (.bool true)::ds,[],[]++p++[],?_,?_⟩⟩
 ·rw[hres,hrt];exact hone _ _ _
 ·rw[hargs];exact hall _ (fun x hx=>by simpa using hlt x (by simp[hx]))
 ·rw[hvars,hv];rfl
 ·rw[hrt];intro j t r h1 h2
  have hj:j=0:=by
   have:=(Array.getElem?_eq_some_iff.1 h1).1
   simpa using this
  subst hj;simp at h1;simp[Value.resultList]at h2;subst h1;subst h2;simp[Value.okWide,htb,Cell.okWide,Cell.ok]
 ·rw[hrt,hv];refine⟨[]++p,[],trodAll_append (hall _ (fun _ _=>rfl)) (hone _ _ _),rfl,rfl,?_,?_⟩
  ·intro b off hx;rw[hb.frozen (p:=⟨b,off,none⟩) (hlt (.cell b off) (by simpa using hx))];exact hfz b off (by simpa using hx)
  intro ha;have:=hnd ha
  simpa using this
 intro x hx _
 simpa using hx
end
section
variable {H:Type} {enc:TypeId×Value→H} {P:Program} {w:World} {base:Nat} {held:Bool}
def Rd (enc:TypeId×Value→H) (P:Program) (w:World) (base:Nat) (held:Bool) (t:TypeId) {α:Type} (C:Cel α):Prop:=
 ∀(fuel:Nat) (cs:List Value) (x:DataW H×List MemPlace),DataW.trod enc P w base (fun _=>true) held fuel t cs=some x→∃a,cs=C.cells a∧C.ok w a
theorem A3 {t:TypeId} (ht:P.underlying t=some (.int .i64)):Rd enc P w base held t cInt:=fun _ _ _ h=>let⟨n,e,_⟩:=DataW.trod_int ht h;⟨n,e,trivial⟩
theorem Ie {t:TypeId} (ht:P.underlying t=some .string):Rd enc P w base held t cStr:=fun _ _ _ h=>let⟨n,e,_⟩:=DataW.trod_string ht h;⟨n,e,trivial⟩
theorem PB {t:TypeId} (ht:P.underlying t=some .bool):Rd enc P w base held t cBool:=fun _ _ _ h=>let⟨n,e,_⟩:=DataW.trod_bool ht h;⟨n,e,trivial⟩
theorem AP {α:Type} [Inhabited α] {C:Cel α} {t s:TypeId} (ht:P.underlying t=some (.slice s)) (hC:P.cellsOf s=C.k) (h0:0<C.k) (hr:Rd enc P w base held s C):Rd enc P w base held t (cSl C):=by
 intro fuel cs x h;rcases open_slice ht h with⟨h1,_⟩|⟨a,len,cap,m,n,D,Pl,h1,_,hl,hm,hmm,_,hcell⟩
 ·subst h1;exact⟨⟨.slice none 0 0,[]⟩,rfl,SlT.nil C w⟩
 subst h1;simp at hmm;have hm':cap≤9223372036854775807:=hm;rw[hC]at hcell
 obtain⟨f,hf⟩:=choose_lt (α:=α) (n:=len) (p:=fun i c=>w.cells? base (a.add (i*C.k)) C.k=some (C.cells c)∧C.ok w c) (fun i hi=>by
  obtain⟨cs',k1,k2⟩:=hcell i (by omega);obtain⟨c,rfl,k3⟩:=hr _ _ _ k2
  exact⟨c,k1,k3⟩)
 have hlen:((List.range len).map f).length=len:=by simp
 refine⟨⟨.slice (some a) len cap,(List.range len).map f⟩,rfl,⟨⟨?_,some a,cap,by simp,⟨by simpa using hl,hm'⟩,?_⟩,?_⟩⟩
 ·rw[Bv]
 ·rcases Nat.eq_zero_or_pos len with hz|hz
  ·left;simpa using hz
  right;obtain⟨b,o,s'⟩:=a
  have hs:s'=none:=by
   have:=(World.cells?_some (hf 0 hz).1).2.2 0 h0;rw[List.getElem?_eq_getElem (by rw[C.len];exact h0)]at this
   simpa [Addr.add]using World.cell?_spot this
  subst hs;refine⟨b,o,rfl,fun k y hy=>?_⟩
  have hk:k<len*C.k:=by
   have h1:=(List.getElem?_eq_some_iff.1 hy).1;simp only[Bv,hlen]at h1;exact h1
  obtain⟨q,hq⟩:∃q,q=k/C.k:=⟨_,rfl⟩;obtain⟨r,hrr⟩:∃r,r=k%C.k:=⟨_,rfl⟩;have hql:q<len:=by rw[hq];exact(Nat.div_lt_iff_lt_mul h0).2 hk
  have hr:r<C.k:=by rw[hrr];exact Nat.mod_lt _ h0
  have e:k=q*C.k+r:=by rw[hq,hrr,Nat.mul_comm];exact(Nat.div_add_mod k C.k).symm
  clear hq hrr;subst e;have hat:=BK C (l:=(List.range len).map f) (i:=(q:Int)) (by omega) (by rw[hlen];omega) r hr;rw[show((q:Int)).toNat=q by omega]at hat;simp only at hy;rw[hat]at hy
  have hn:nth ((List.range len).map f) (q:Int)=f q:=by
   simp[nth,List.getD,hql]
  rw[hn]at hy;have:=(World.cells?_some (hf _ hql).1).2.2 r hr;rw[hy]at this;rw[Bl,Bl]at this
  simpa [Nat.add_assoc]using this
 intro c hc;obtain⟨i,hi,rfl⟩:=List.mem_map.1 hc;exact(hf i (List.mem_range.1 hi)).2
theorem QZ {t s:TypeId} {fuel:Nat} {v:Value} {x:DataW H×List MemPlace} (ht:P.underlying t=some (.slice s)) (hs:P.underlying s=some .string) (hc:P.cellsOf s=1)
  (h:DataW.trod enc P w base (fun _=>true) held fuel t [v]=some x) {l:List ByteArray} {sp:List (DataW H)} (hx:x.1 = .slice (l.map fun a=>.lit (.string a.data.toList)) sp):SlT cStr w ⟨v,l⟩:=by
 rcases open_slice ht h with⟨_,h1⟩|⟨a,len,cap,m,n,D,Pl,h1,_,hl,hm,hmm,h2,hcell⟩
 ·rw[h1]at hx;cases hx
 rw[h2]at hx;simp only[DataW.slice.injEq]at hx;have hd:=hx.1;have hlen:len=l.length:=by simpa using congrArg List.length hd
 simp at h1 hmm;subst h1;have hm':cap≤9223372036854775807:=hm;rw[hc]at hcell
 have hat:∀i (hi:i<l.length),w.cell? (a.add i)=some (.string l[i]):=fun i hi=>by
  obtain⟨cs',k1,k2⟩:=hcell i (by omega);obtain⟨b,rfl,e,_⟩:=DataW.trod_string hs k2;have e1:=congrArg (fun q=>q[i]?) hd;simp only[List.getElem?_map,List.getElem?_eq_getElem hi,Option.map_some]at e1;rw[List.getElem?_range (by omega)]at e1;simp only[Option.map_some,Option.some.injEq]at e1;have e2:=(Prod.mk.inj e).1;rw[e2]at e1;simp only[DataW.lit.injEq,Lit.string.injEq]at e1
  have e3:b=l[i]:=by
   cases b;cases hb:l[i]
   rw[hb]at e1;simp at e1;rw[e1]
  have:=(World.cells?_some k1).2.2 0 (by decide);rw[Nat.mul_one]at this;rw[←e3]
  simpa [Addr.add]using this
 refine⟨⟨by simp[Bv,cStr],some a,cap,by rw[←hlen],⟨by simp only;omega,hm'⟩,?_⟩,fun _ _=>trivial⟩;rcases Nat.eq_zero_or_pos l.length with hz|hz
 ·left;exact hz
 right;obtain⟨b,o,s'⟩:=a;have hs':s'=none:=by simpa [Addr.add]using World.cell?_spot (hat 0 hz)
 subst hs';refine⟨b,o,rfl,fun k y hy=>?_⟩
 have hk:k<l.length:=by
  have h1:=(List.getElem?_eq_some_iff.1 hy).1;rw[Bv]at h1
  simpa [cStr]using h1
 have e:=BK cStr (l:=l) (i:=(k:Int)) (by omega) (by omega) 0 (by decide);rw[show cStr.k=1 from rfl,Nat.mul_one,Nat.add_zero,show((k:Int)).toNat=k by omega]at e;simp only at hy;rw[e]at hy;have hn:nth l (k:Int)=l[k]:=by simp[nth,List.getD,hk]
 rw[hn]at hy;have h3:=hat k hk;rw[Bl]at h3;rw[h3]
 simpa [cStr]using hy
end
end Go.Proofs.YtmoojmgihdgceaaGreatDoor
set_option maxHeartbeats 8000000
namespace Go.Proofs.YtmoojmgihdgceaaGreatDoor
open Go.ChangeShapes Go.WideShapes Go.ChangeAt Go.RowKit Go.Proofs Go.Joins Go.Proofs.Tryz
set_option maxRecDepth 100000
set_option linter.unusedVariables false
set_option linter.unusedSimpArgs false
theorem Lg {W:World} (h:laidMetH prog [("padlock/room.reserved",Rows.laid_padlock_room_reserved)] W):∃g,GOk W g:=by
 rw[MakeChecks.laidMetH_plain _ _ _ (by kernel_rfl)]at h;obtain⟨ps,⟨gg,t,cs,fuel,p,q,hg,ht,hv,hd,_,_⟩,_,_⟩:=h;obtain rfl:=Option.some.inj ((show prog.globalNamed "padlock/room.reserved" = some 0 by kernel_rfl).symm.trans hg);obtain rfl:=Option.some.inj ((show(prog.globals[0]?).map (·.type)=some 22 by kernel_rfl).symm.trans ht);have hc:prog.cellsOf 9=1:=by kernel_rfl
 obtain⟨s,e,_⟩:=((AP underlying22 (by kernel_rfl) (by decide) (Ie underlying9)):Rd (fun _=>()) prog W 0 false 22 (cSl cStr)) _ _ _ hd;have e1:cs.toList=[s.v]:=e;rw[e1]at hd;have hs:=QZ underlying22 underlying9 hc hd (l:=wordL) (sp:=[]) rfl;refine⟨⟨s.v,wordL⟩,rfl,fun u hb=>⟨?_,hs.ext hb⟩⟩;refine HN hb (Nat.le_refl _) ?_;rw[World.var?_cell hg hv 0];have:cs[0]? = cs.toList[0]?:=by simp
 rw[this,e1];rfl
section
variable {H:Type} {enc:TypeId×Value→H} {w:World} {base:Nat} {held:Bool}
theorem H4:Rd enc prog w base held 152 cLit:=by
 intro fuel cs x h;obtain⟨xs,n,_,_,hl,hlen,hf⟩:=DataW.trod_struct underlying152 h;rw[show prog.cellsOf 152=3 by kernel_rfl]at hl
 match cs,hl with
 |[c0,c1,c2],_=>
  match xs,hlen with
  |[y0,y1,y2],_=>
   have z0:prog.cellsOf 4=1:=by kernel_rfl
   have z1:prog.cellsOf 3=1:=by kernel_rfl
   have q0:DataW.trod enc prog w base (fun _=>true) held n 3 (([c0,c1,c2].drop 0).take (prog.cellsOf 3))=[y0,y1,y2][0]?:=hf 0 _ rfl;rw[z1]at q0;obtain⟨a0,e0,r0⟩:=(A3 underlying3) _ _ _ (show DataW.trod enc prog w base (fun _=>true) held n 3 [c0]=some y0 from q0);have q1:DataW.trod enc prog w base (fun _=>true) held n 3 (([c0,c1,c2].drop 1).take (prog.cellsOf 3))=[y0,y1,y2][1]?:=hf 1 _ rfl;rw[z1]at q1;obtain⟨a1,e1,r1⟩:=(A3 underlying3) _ _ _ (show DataW.trod enc prog w base (fun _=>true) held n 3 [c1]=some y1 from q1);have q2:DataW.trod enc prog w base (fun _=>true) held n 4 (([c0,c1,c2].drop 2).take (prog.cellsOf 4))=[y0,y1,y2][2]?:=hf 2 _ rfl;rw[z0]at q2;obtain⟨a2,e2,r2⟩:=(PB underlying4) _ _ _ (show DataW.trod enc prog w base (fun _=>true) held n 4 [c2]=some y2 from q2);obtain rfl:c0=_:=(List.cons.inj e0).1;obtain rfl:c1=_:=(List.cons.inj e1).1;obtain rfl:c2=_:=(List.cons.inj e2).1;exact⟨⟨a0,a1,a2⟩,rfl,trivial⟩
theorem Uh:Rd enc prog w base held 142 cPut:=by
 intro fuel cs x h;obtain⟨xs,n,_,_,hl,hlen,hf⟩:=DataW.trod_struct underlying142 h;rw[show prog.cellsOf 142=2 by kernel_rfl]at hl
 match cs,hl with
 |[c0,c1],_=>
  match xs,hlen with
  |[y0,y1],_=>
   have z0:prog.cellsOf 3=1:=by kernel_rfl
   have q0:DataW.trod enc prog w base (fun _=>true) held n 3 (([c0,c1].drop 0).take (prog.cellsOf 3))=[y0,y1][0]?:=hf 0 _ rfl;rw[z0]at q0;obtain⟨a0,e0,r0⟩:=(A3 underlying3) _ _ _ (show DataW.trod enc prog w base (fun _=>true) held n 3 [c0]=some y0 from q0);have q1:DataW.trod enc prog w base (fun _=>true) held n 3 (([c0,c1].drop 1).take (prog.cellsOf 3))=[y0,y1][1]?:=hf 1 _ rfl;rw[z0]at q1;obtain⟨a1,e1,r1⟩:=(A3 underlying3) _ _ _ (show DataW.trod enc prog w base (fun _=>true) held n 3 [c1]=some y1 from q1);obtain rfl:c0=_:=(List.cons.inj e0).1;obtain rfl:c1=_:=(List.cons.inj e1).1;exact⟨⟨a0,a1⟩,rfl,trivial⟩
theorem WO:Rd enc prog w base held 49 cMove:=by
 intro fuel cs x h;obtain⟨xs,n,_,_,hl,hlen,hf⟩:=DataW.trod_struct underlying49 h;rw[show prog.cellsOf 49=3 by kernel_rfl]at hl
 match cs,hl with
 |[c0,c1,c2],_=>
  match xs,hlen with
  |[y0,y1,y2],_=>
   have z0:prog.cellsOf 3=1:=by kernel_rfl
   have q0:DataW.trod enc prog w base (fun _=>true) held n 3 (([c0,c1,c2].drop 0).take (prog.cellsOf 3))=[y0,y1,y2][0]?:=hf 0 _ rfl;rw[z0]at q0;obtain⟨a0,e0,r0⟩:=(A3 underlying3) _ _ _ (show DataW.trod enc prog w base (fun _=>true) held n 3 [c0]=some y0 from q0);have q1:DataW.trod enc prog w base (fun _=>true) held n 3 (([c0,c1,c2].drop 1).take (prog.cellsOf 3))=[y0,y1,y2][1]?:=hf 1 _ rfl;rw[z0]at q1;obtain⟨a1,e1,r1⟩:=(A3 underlying3) _ _ _ (show DataW.trod enc prog w base (fun _=>true) held n 3 [c1]=some y1 from q1);have q2:DataW.trod enc prog w base (fun _=>true) held n 3 (([c0,c1,c2].drop 2).take (prog.cellsOf 3))=[y0,y1,y2][2]?:=hf 2 _ rfl;rw[z0]at q2;obtain⟨a2,e2,r2⟩:=(A3 underlying3) _ _ _ (show DataW.trod enc prog w base (fun _=>true) held n 3 [c2]=some y2 from q2);obtain rfl:c0=_:=(List.cons.inj e0).1;obtain rfl:c1=_:=(List.cons.inj e1).1;obtain rfl:c2=_:=(List.cons.inj e2).1;exact⟨⟨a0,a1,a2⟩,rfl,trivial⟩
theorem Sf:Rd enc prog w base held 159 cThing:=by
 intro fuel cs x h;obtain⟨xs,n,_,_,hl,hlen,hf⟩:=DataW.trod_struct underlying159 h;rw[show prog.cellsOf 159=4 by kernel_rfl]at hl
 match cs,hl with
 |[c0,c1,c2,c3],_=>
  match xs,hlen with
  |[y0,y1,y2,y3],_=>
   have z0:prog.cellsOf 3=1:=by kernel_rfl
   have z1:prog.cellsOf 9=1:=by kernel_rfl
   have q0:DataW.trod enc prog w base (fun _=>true) held n 9 (([c0,c1,c2,c3].drop 0).take (prog.cellsOf 9))=[y0,y1,y2,y3][0]?:=hf 0 _ rfl;rw[z1]at q0;obtain⟨a0,e0,r0⟩:=(Ie underlying9) _ _ _ (show DataW.trod enc prog w base (fun _=>true) held n 9 [c0]=some y0 from q0);have q1:DataW.trod enc prog w base (fun _=>true) held n 3 (([c0,c1,c2,c3].drop 1).take (prog.cellsOf 3))=[y0,y1,y2,y3][1]?:=hf 1 _ rfl;rw[z0]at q1;obtain⟨a1,e1,r1⟩:=(A3 underlying3) _ _ _ (show DataW.trod enc prog w base (fun _=>true) held n 3 [c1]=some y1 from q1);have q2:DataW.trod enc prog w base (fun _=>true) held n 3 (([c0,c1,c2,c3].drop 2).take (prog.cellsOf 3))=[y0,y1,y2,y3][2]?:=hf 2 _ rfl;rw[z0]at q2;obtain⟨a2,e2,r2⟩:=(A3 underlying3) _ _ _ (show DataW.trod enc prog w base (fun _=>true) held n 3 [c2]=some y2 from q2);have q3:DataW.trod enc prog w base (fun _=>true) held n 3 (([c0,c1,c2,c3].drop 3).take (prog.cellsOf 3))=[y0,y1,y2,y3][3]?:=hf 3 _ rfl;rw[z0]at q3;obtain⟨a3,e3,r3⟩:=(A3 underlying3) _ _ _ (show DataW.trod enc prog w base (fun _=>true) held n 3 [c3]=some y3 from q3);obtain rfl:c0=_:=(List.cons.inj e0).1;obtain rfl:c1=_:=(List.cons.inj e1).1;obtain rfl:c2=_:=(List.cons.inj e2).1;obtain rfl:c3=_:=(List.cons.inj e3).1;exact⟨⟨a0,a1,a2,a3⟩,rfl,trivial⟩
theorem Zu:Rd enc prog w base held 138 cPro:=by
 intro fuel cs x h;obtain⟨xs,n,_,_,hl,hlen,hf⟩:=DataW.trod_struct underlying138 h;rw[show prog.cellsOf 138=3 by kernel_rfl]at hl
 match cs,hl with
 |[c0,c1,c2],_=>
  match xs,hlen with
  |[y0,y1,y2],_=>
   have z0:prog.cellsOf 29=1:=by kernel_rfl
   have z1:prog.cellsOf 3=1:=by kernel_rfl
   have z2:prog.cellsOf 9=1:=by kernel_rfl
   have q0:DataW.trod enc prog w base (fun _=>true) held n 9 (([c0,c1,c2].drop 0).take (prog.cellsOf 9))=[y0,y1,y2][0]?:=hf 0 _ rfl;rw[z2]at q0;obtain⟨a0,e0,r0⟩:=(Ie underlying9) _ _ _ (show DataW.trod enc prog w base (fun _=>true) held n 9 [c0]=some y0 from q0);have q1:DataW.trod enc prog w base (fun _=>true) held n 3 (([c0,c1,c2].drop 1).take (prog.cellsOf 3))=[y0,y1,y2][1]?:=hf 1 _ rfl;rw[z1]at q1;obtain⟨a1,e1,r1⟩:=(A3 underlying3) _ _ _ (show DataW.trod enc prog w base (fun _=>true) held n 3 [c1]=some y1 from q1);have q2:DataW.trod enc prog w base (fun _=>true) held n 29 (([c0,c1,c2].drop 2).take (prog.cellsOf 29))=[y0,y1,y2][2]?:=hf 2 _ rfl;rw[z0]at q2;obtain⟨a2,e2,r2⟩:=(AP underlying29 (by kernel_rfl) (by decide) H4) _ _ _ (show DataW.trod enc prog w base (fun _=>true) held n 29 [c2]=some y2 from q2);obtain rfl:c0=_:=(List.cons.inj e0).1;obtain rfl:c1=_:=(List.cons.inj e1).1;obtain rfl:c2=_:=(List.cons.inj e2).1;exact⟨⟨a0,a1,a2⟩,rfl,r2⟩
theorem Y8:Rd enc prog w base held 140 cWay:=by
 intro fuel cs x h;obtain⟨xs,n,_,_,hl,hlen,hf⟩:=DataW.trod_struct underlying140 h;rw[show prog.cellsOf 140=3 by kernel_rfl]at hl
 match cs,hl with
 |[c0,c1,c2],_=>
  match xs,hlen with
  |[y0,y1,y2],_=>
   have z0:prog.cellsOf 29=1:=by kernel_rfl
   have z1:prog.cellsOf 3=1:=by kernel_rfl
   have q0:DataW.trod enc prog w base (fun _=>true) held n 3 (([c0,c1,c2].drop 0).take (prog.cellsOf 3))=[y0,y1,y2][0]?:=hf 0 _ rfl;rw[z1]at q0;obtain⟨a0,e0,r0⟩:=(A3 underlying3) _ _ _ (show DataW.trod enc prog w base (fun _=>true) held n 3 [c0]=some y0 from q0);have q1:DataW.trod enc prog w base (fun _=>true) held n 3 (([c0,c1,c2].drop 1).take (prog.cellsOf 3))=[y0,y1,y2][1]?:=hf 1 _ rfl;rw[z1]at q1;obtain⟨a1,e1,r1⟩:=(A3 underlying3) _ _ _ (show DataW.trod enc prog w base (fun _=>true) held n 3 [c1]=some y1 from q1);have q2:DataW.trod enc prog w base (fun _=>true) held n 29 (([c0,c1,c2].drop 2).take (prog.cellsOf 29))=[y0,y1,y2][2]?:=hf 2 _ rfl;rw[z0]at q2;obtain⟨a2,e2,r2⟩:=(AP underlying29 (by kernel_rfl) (by decide) H4) _ _ _ (show DataW.trod enc prog w base (fun _=>true) held n 29 [c2]=some y2 from q2);obtain rfl:c0=_:=(List.cons.inj e0).1;obtain rfl:c1=_:=(List.cons.inj e1).1;obtain rfl:c2=_:=(List.cons.inj e2).1;exact⟨⟨a0,a1,a2⟩,rfl,r2⟩
theorem Xl:Rd enc prog w base held 123 cAct:=by
 intro fuel cs x h;obtain⟨xs,n,_,_,hl,hlen,hf⟩:=DataW.trod_struct underlying123 h;rw[show prog.cellsOf 123=8 by kernel_rfl]at hl
 match cs,hl with
 |[c0,c1,c2,c3,c4,c5,c6,c7],_=>
  match xs,hlen with
  |[y0,y1,y2,y3,y4,y5,y6,y7],_=>
   have z0:prog.cellsOf 121=1:=by kernel_rfl
   have z1:prog.cellsOf 37=1:=by kernel_rfl
   have z2:prog.cellsOf 29=1:=by kernel_rfl
   have z3:prog.cellsOf 3=1:=by kernel_rfl
   have z4:prog.cellsOf 9=1:=by kernel_rfl
   have q0:DataW.trod enc prog w base (fun _=>true) held n 9 (([c0,c1,c2,c3,c4,c5,c6,c7].drop 0).take (prog.cellsOf 9))=[y0,y1,y2,y3,y4,y5,y6,y7][0]?:=hf 0 _ rfl;rw[z4]at q0;obtain⟨a0,e0,r0⟩:=(Ie underlying9) _ _ _ (show DataW.trod enc prog w base (fun _=>true) held n 9 [c0]=some y0 from q0);have q1:DataW.trod enc prog w base (fun _=>true) held n 3 (([c0,c1,c2,c3,c4,c5,c6,c7].drop 1).take (prog.cellsOf 3))=[y0,y1,y2,y3,y4,y5,y6,y7][1]?:=hf 1 _ rfl;rw[z3]at q1;obtain⟨a1,e1,r1⟩:=(A3 underlying3) _ _ _ (show DataW.trod enc prog w base (fun _=>true) held n 3 [c1]=some y1 from q1);have q2:DataW.trod enc prog w base (fun _=>true) held n 3 (([c0,c1,c2,c3,c4,c5,c6,c7].drop 2).take (prog.cellsOf 3))=[y0,y1,y2,y3,y4,y5,y6,y7][2]?:=hf 2 _ rfl;rw[z3]at q2;obtain⟨a2,e2,r2⟩:=(A3 underlying3) _ _ _ (show DataW.trod enc prog w base (fun _=>true) held n 3 [c2]=some y2 from q2);have q3:DataW.trod enc prog w base (fun _=>true) held n 37 (([c0,c1,c2,c3,c4,c5,c6,c7].drop 3).take (prog.cellsOf 37))=[y0,y1,y2,y3,y4,y5,y6,y7][3]?:=hf 3 _ rfl;rw[z1]at q3;obtain⟨a3,e3,r3⟩:=(AP underlying37 (by kernel_rfl) (by decide) (A3 underlying3)) _ _ _ (show DataW.trod enc prog w base (fun _=>true) held n 37 [c3]=some y3 from q3);have q4:DataW.trod enc prog w base (fun _=>true) held n 29 (([c0,c1,c2,c3,c4,c5,c6,c7].drop 4).take (prog.cellsOf 29))=[y0,y1,y2,y3,y4,y5,y6,y7][4]?:=hf 4 _ rfl;rw[z2]at q4;obtain⟨a4,e4,r4⟩:=(AP underlying29 (by kernel_rfl) (by decide) H4) _ _ _ (show DataW.trod enc prog w base (fun _=>true) held n 29 [c4]=some y4 from q4);have q5:DataW.trod enc prog w base (fun _=>true) held n 121 (([c0,c1,c2,c3,c4,c5,c6,c7].drop 5).take (prog.cellsOf 121))=[y0,y1,y2,y3,y4,y5,y6,y7][5]?:=hf 5 _ rfl;rw[z0]at q5;obtain⟨a5,e5,r5⟩:=(AP underlying121 (by kernel_rfl) (by decide) Uh) _ _ _ (show DataW.trod enc prog w base (fun _=>true) held n 121 [c5]=some y5 from q5);have q6:DataW.trod enc prog w base (fun _=>true) held n 37 (([c0,c1,c2,c3,c4,c5,c6,c7].drop 6).take (prog.cellsOf 37))=[y0,y1,y2,y3,y4,y5,y6,y7][6]?:=hf 6 _ rfl;rw[z1]at q6;obtain⟨a6,e6,r6⟩:=(AP underlying37 (by kernel_rfl) (by decide) (A3 underlying3)) _ _ _ (show DataW.trod enc prog w base (fun _=>true) held n 37 [c6]=some y6 from q6);have q7:DataW.trod enc prog w base (fun _=>true) held n 37 (([c0,c1,c2,c3,c4,c5,c6,c7].drop 7).take (prog.cellsOf 37))=[y0,y1,y2,y3,y4,y5,y6,y7][7]?:=hf 7 _ rfl;rw[z1]at q7;obtain⟨a7,e7,r7⟩:=(AP underlying37 (by kernel_rfl) (by decide) (A3 underlying3)) _ _ _ (show DataW.trod enc prog w base (fun _=>true) held n 37 [c7]=some y7 from q7);obtain rfl:c0=_:=(List.cons.inj e0).1;obtain rfl:c1=_:=(List.cons.inj e1).1;obtain rfl:c2=_:=(List.cons.inj e2).1;obtain rfl:c3=_:=(List.cons.inj e3).1;obtain rfl:c4=_:=(List.cons.inj e4).1;obtain rfl:c5=_:=(List.cons.inj e5).1;obtain rfl:c6=_:=(List.cons.inj e6).1;obtain rfl:c7=_:=(List.cons.inj e7).1;exact⟨⟨a0,a1,a2,a3,a4,a5,a6,a7⟩,rfl,⟨r3,r4,r5,r6,r7⟩⟩
theorem U2:Rd enc prog w base held 144 cAuto:=by
 intro fuel cs x h;obtain⟨xs,n,_,_,hl,hlen,hf⟩:=DataW.trod_struct underlying144 h;rw[show prog.cellsOf 144=3 by kernel_rfl]at hl
 match cs,hl with
 |[c0,c1,c2],_=>
  match xs,hlen with
  |[y0,y1],_=>
   have z0:prog.cellsOf 29=1:=by kernel_rfl
   have z1:prog.cellsOf 142=2:=by kernel_rfl
   have q0:DataW.trod enc prog w base (fun _=>true) held n 29 (([c0,c1,c2].drop 0).take (prog.cellsOf 29))=[y0,y1][0]?:=hf 0 _ rfl;rw[z0]at q0;obtain⟨a0,e0,r0⟩:=(AP underlying29 (by kernel_rfl) (by decide) H4) _ _ _ (show DataW.trod enc prog w base (fun _=>true) held n 29 [c0]=some y0 from q0);have q1:DataW.trod enc prog w base (fun _=>true) held n 142 (([c0,c1,c2].drop 1).take (prog.cellsOf 142))=[y0,y1][1]?:=hf 1 _ rfl;rw[z1]at q1;obtain⟨a1,e1,r1⟩:=Uh _ _ _ (show DataW.trod enc prog w base (fun _=>true) held n 142 [c1,c2]=some y1 from q1);obtain rfl:c0=_:=(List.cons.inj e0).1;obtain rfl:c1=_:=(List.cons.inj e1).1;obtain rfl:c2=_:=(List.cons.inj (List.cons.inj e1).2).1;exact⟨⟨a0,a1.t,a1.s⟩,rfl,r0⟩
theorem VE {fuel:Nat} {cs:List Value} {x:DataW H×List MemPlace} (h:DataW.trod enc prog w base (fun _=>true) held fuel 31 cs=some x):∃r:Room,cs=r.cells∧RoomOk w r:=by
 obtain⟨xs,n,_,_,hl,hlen,hf⟩:=DataW.trod_struct underlying31 h;rw[show prog.cellsOf 31=8 by kernel_rfl]at hl
 match cs,hl with
 |[c0,c1,c2,c3,c4,c5,c6,c7],_=>
  match xs,hlen with
  |[y0,y1,y2,y3,y4,y5,y6,y7],_=>
   have z0:prog.cellsOf 26=1:=by kernel_rfl
   have z1:prog.cellsOf 27=1:=by kernel_rfl
   have z2:prog.cellsOf 24=1:=by kernel_rfl
   have z3:prog.cellsOf 23=1:=by kernel_rfl
   have z4:prog.cellsOf 25=1:=by kernel_rfl
   have z5:prog.cellsOf 22=1:=by kernel_rfl
   have z6:prog.cellsOf 29=1:=by kernel_rfl
   have z7:prog.cellsOf 3=1:=by kernel_rfl
   have q0:DataW.trod enc prog w base (fun _=>true) held n 22 (([c0,c1,c2,c3,c4,c5,c6,c7].drop 0).take (prog.cellsOf 22))=[y0,y1,y2,y3,y4,y5,y6,y7][0]?:=hf 0 _ rfl;rw[z5]at q0;obtain⟨a0,e0,r0⟩:=(AP underlying22 (by kernel_rfl) (by decide) (Ie underlying9)) _ _ _ (show DataW.trod enc prog w base (fun _=>true) held n 22 [c0]=some y0 from q0);have q1:DataW.trod enc prog w base (fun _=>true) held n 23 (([c0,c1,c2,c3,c4,c5,c6,c7].drop 1).take (prog.cellsOf 23))=[y0,y1,y2,y3,y4,y5,y6,y7][1]?:=hf 1 _ rfl;rw[z3]at q1;obtain⟨a1,e1,r1⟩:=(AP underlying23 (by kernel_rfl) (by decide) Sf) _ _ _ (show DataW.trod enc prog w base (fun _=>true) held n 23 [c1]=some y1 from q1);have q2:DataW.trod enc prog w base (fun _=>true) held n 24 (([c0,c1,c2,c3,c4,c5,c6,c7].drop 2).take (prog.cellsOf 24))=[y0,y1,y2,y3,y4,y5,y6,y7][2]?:=hf 2 _ rfl;rw[z2]at q2;obtain⟨a2,e2,r2⟩:=(AP underlying24 (by kernel_rfl) (by decide) Zu) _ _ _ (show DataW.trod enc prog w base (fun _=>true) held n 24 [c2]=some y2 from q2);have q3:DataW.trod enc prog w base (fun _=>true) held n 25 (([c0,c1,c2,c3,c4,c5,c6,c7].drop 3).take (prog.cellsOf 25))=[y0,y1,y2,y3,y4,y5,y6,y7][3]?:=hf 3 _ rfl;rw[z4]at q3;obtain⟨a3,e3,r3⟩:=(AP underlying25 (by kernel_rfl) (by decide) Y8) _ _ _ (show DataW.trod enc prog w base (fun _=>true) held n 25 [c3]=some y3 from q3);have q4:DataW.trod enc prog w base (fun _=>true) held n 26 (([c0,c1,c2,c3,c4,c5,c6,c7].drop 4).take (prog.cellsOf 26))=[y0,y1,y2,y3,y4,y5,y6,y7][4]?:=hf 4 _ rfl;rw[z0]at q4;obtain⟨a4,e4,r4⟩:=(AP underlying26 (by kernel_rfl) (by decide) Xl) _ _ _ (show DataW.trod enc prog w base (fun _=>true) held n 26 [c4]=some y4 from q4);have q5:DataW.trod enc prog w base (fun _=>true) held n 27 (([c0,c1,c2,c3,c4,c5,c6,c7].drop 5).take (prog.cellsOf 27))=[y0,y1,y2,y3,y4,y5,y6,y7][5]?:=hf 5 _ rfl;rw[z1]at q5;obtain⟨a5,e5,r5⟩:=(AP underlying27 (by kernel_rfl) (by decide) U2) _ _ _ (show DataW.trod enc prog w base (fun _=>true) held n 27 [c5]=some y5 from q5);have q6:DataW.trod enc prog w base (fun _=>true) held n 3 (([c0,c1,c2,c3,c4,c5,c6,c7].drop 6).take (prog.cellsOf 3))=[y0,y1,y2,y3,y4,y5,y6,y7][6]?:=hf 6 _ rfl;rw[z7]at q6;obtain⟨a6,e6,r6⟩:=(A3 underlying3) _ _ _ (show DataW.trod enc prog w base (fun _=>true) held n 3 [c6]=some y6 from q6);have q7:DataW.trod enc prog w base (fun _=>true) held n 29 (([c0,c1,c2,c3,c4,c5,c6,c7].drop 7).take (prog.cellsOf 29))=[y0,y1,y2,y3,y4,y5,y6,y7][7]?:=hf 7 _ rfl;rw[z6]at q7;obtain⟨a7,e7,r7⟩:=(AP underlying29 (by kernel_rfl) (by decide) H4) _ _ _ (show DataW.trod enc prog w base (fun _=>true) held n 29 [c7]=some y7 from q7);obtain rfl:c0=_:=(List.cons.inj e0).1;obtain rfl:c1=_:=(List.cons.inj e1).1;obtain rfl:c2=_:=(List.cons.inj e2).1;obtain rfl:c3=_:=(List.cons.inj e3).1;obtain rfl:c4=_:=(List.cons.inj e4).1;obtain rfl:c5=_:=(List.cons.inj e5).1;obtain rfl:c6=_:=(List.cons.inj e6).1;obtain rfl:c7=_:=(List.cons.inj e7).1;exact⟨⟨a0,a1,a2,a3,a4,a5,a6,a7⟩,rfl,⟨r0,r1,r2,r3,r4,r5,r7⟩⟩
end
def cClue:Cel (Clue×Value):=⟨7,fun a=>[.int .i64 a.1.k,.int .i64 a.1.a,.int .i64 a.1.b,.int .i64 a.1.n,.int .i64 a.1.m,a.2,.bool a.1.nt],fun w a=>SlI w a.2 a.1.g,fun _=>rfl,fun _ _ _ h hb=>h.ext hb,fun _ _ h v hv=>by
 simp at hv;rcases hv with rfl|rfl|rfl|rfl|rfl|rfl|rfl
 ·rfl
 ·rfl
 ·rfl
 ·rfl
 ·rfl
 ·exact h.one1
 rfl⟩
section
variable {H:Type} {enc:TypeId×Value→H} {w:World} {base:Nat} {held:Bool}
theorem Ww:Rd enc prog w base held 74 cLock:=by
 intro fuel cs x h;obtain⟨xs,n,_,_,hl,hlen,hf⟩:=DataW.trod_struct underlying74 h;rw[show prog.cellsOf 74=2 by kernel_rfl]at hl
 match cs,hl with
 |[c0,c1],_=>
  match xs,hlen with
  |[y0,y1],_=>
   have z0:prog.cellsOf 3=1:=by kernel_rfl
   have q0:DataW.trod enc prog w base (fun _=>true) held n 3 (([c0,c1].drop 0).take (prog.cellsOf 3))=[y0,y1][0]?:=hf 0 _ rfl;rw[z0]at q0;obtain⟨a0,e0,r0⟩:=(A3 underlying3) _ _ _ (show DataW.trod enc prog w base (fun _=>true) held n 3 [c0]=some y0 from q0);have q1:DataW.trod enc prog w base (fun _=>true) held n 3 (([c0,c1].drop 1).take (prog.cellsOf 3))=[y0,y1][1]?:=hf 1 _ rfl;rw[z0]at q1;obtain⟨a1,e1,r1⟩:=(A3 underlying3) _ _ _ (show DataW.trod enc prog w base (fun _=>true) held n 3 [c1]=some y1 from q1);obtain rfl:c0=_:=(List.cons.inj e0).1;obtain rfl:c1=_:=(List.cons.inj e1).1;exact⟨⟨a0,a1⟩,rfl,trivial⟩
theorem U7:Rd enc prog w base held 76 cClue:=by
 intro fuel cs x h;obtain⟨xs,n,_,_,hl,hlen,hf⟩:=DataW.trod_struct underlying76 h;rw[show prog.cellsOf 76=7 by kernel_rfl]at hl
 match cs,hl with
 |[c0,c1,c2,c3,c4,c5,c6],_=>
  match xs,hlen with
  |[y0,y1,y2,y3,y4,y5,y6],_=>
   have z0:prog.cellsOf 37=1:=by kernel_rfl
   have z1:prog.cellsOf 4=1:=by kernel_rfl
   have z2:prog.cellsOf 3=1:=by kernel_rfl
   have q0:DataW.trod enc prog w base (fun _=>true) held n 3 (([c0,c1,c2,c3,c4,c5,c6].drop 0).take (prog.cellsOf 3))=[y0,y1,y2,y3,y4,y5,y6][0]?:=hf 0 _ rfl;rw[z2]at q0;obtain⟨a0,e0,r0⟩:=(A3 underlying3) _ _ _ (show DataW.trod enc prog w base (fun _=>true) held n 3 [c0]=some y0 from q0);have q1:DataW.trod enc prog w base (fun _=>true) held n 3 (([c0,c1,c2,c3,c4,c5,c6].drop 1).take (prog.cellsOf 3))=[y0,y1,y2,y3,y4,y5,y6][1]?:=hf 1 _ rfl;rw[z2]at q1;obtain⟨a1,e1,r1⟩:=(A3 underlying3) _ _ _ (show DataW.trod enc prog w base (fun _=>true) held n 3 [c1]=some y1 from q1);have q2:DataW.trod enc prog w base (fun _=>true) held n 3 (([c0,c1,c2,c3,c4,c5,c6].drop 2).take (prog.cellsOf 3))=[y0,y1,y2,y3,y4,y5,y6][2]?:=hf 2 _ rfl;rw[z2]at q2;obtain⟨a2,e2,r2⟩:=(A3 underlying3) _ _ _ (show DataW.trod enc prog w base (fun _=>true) held n 3 [c2]=some y2 from q2);have q3:DataW.trod enc prog w base (fun _=>true) held n 3 (([c0,c1,c2,c3,c4,c5,c6].drop 3).take (prog.cellsOf 3))=[y0,y1,y2,y3,y4,y5,y6][3]?:=hf 3 _ rfl;rw[z2]at q3;obtain⟨a3,e3,r3⟩:=(A3 underlying3) _ _ _ (show DataW.trod enc prog w base (fun _=>true) held n 3 [c3]=some y3 from q3);have q4:DataW.trod enc prog w base (fun _=>true) held n 3 (([c0,c1,c2,c3,c4,c5,c6].drop 4).take (prog.cellsOf 3))=[y0,y1,y2,y3,y4,y5,y6][4]?:=hf 4 _ rfl;rw[z2]at q4;obtain⟨a4,e4,r4⟩:=(A3 underlying3) _ _ _ (show DataW.trod enc prog w base (fun _=>true) held n 3 [c4]=some y4 from q4);have q5:DataW.trod enc prog w base (fun _=>true) held n 37 (([c0,c1,c2,c3,c4,c5,c6].drop 5).take (prog.cellsOf 37))=[y0,y1,y2,y3,y4,y5,y6][5]?:=hf 5 _ rfl;rw[z0]at q5;obtain⟨a5,e5,r5⟩:=(AP underlying37 (by kernel_rfl) (by decide) (A3 underlying3)) _ _ _ (show DataW.trod enc prog w base (fun _=>true) held n 37 [c5]=some y5 from q5);have q6:DataW.trod enc prog w base (fun _=>true) held n 4 (([c0,c1,c2,c3,c4,c5,c6].drop 6).take (prog.cellsOf 4))=[y0,y1,y2,y3,y4,y5,y6][6]?:=hf 6 _ rfl;rw[z1]at q6;obtain⟨a6,e6,r6⟩:=(PB underlying4) _ _ _ (show DataW.trod enc prog w base (fun _=>true) held n 4 [c6]=some y6 from q6);obtain rfl:c0=_:=(List.cons.inj e0).1;obtain rfl:c1=_:=(List.cons.inj e1).1;obtain rfl:c2=_:=(List.cons.inj e2).1;obtain rfl:c3=_:=(List.cons.inj e3).1;obtain rfl:c4=_:=(List.cons.inj e4).1;obtain rfl:c5=_:=(List.cons.inj e5).1;obtain rfl:c6=_:=(List.cons.inj e6).1;exact⟨(⟨a0,a1,a2,a3,a4,a5.l,a6⟩,a5.v),rfl,r5.ints⟩
theorem Vp:Rd enc prog w base held 80 cNote:=by
 intro fuel cs x h;obtain⟨xs,n,_,_,hl,hlen,hf⟩:=DataW.trod_struct underlying80 h;rw[show prog.cellsOf 80=11 by kernel_rfl]at hl
 match cs,hl with
 |[c0,c1,c2,c3,c4,c5,c6,c7,c8,c9,c10],_=>
  match xs,hlen with
  |[y0,y1,y2,y3,y4],_=>
   have z0:prog.cellsOf 76=7:=by kernel_rfl
   have z1:prog.cellsOf 29=1:=by kernel_rfl
   have z2:prog.cellsOf 3=1:=by kernel_rfl
   have z3:prog.cellsOf 9=1:=by kernel_rfl
   have q0:DataW.trod enc prog w base (fun _=>true) held n 9 (([c0,c1,c2,c3,c4,c5,c6,c7,c8,c9,c10].drop 0).take (prog.cellsOf 9))=[y0,y1,y2,y3,y4][0]?:=hf 0 _ rfl;rw[z3]at q0;obtain⟨a0,e0,r0⟩:=(Ie underlying9) _ _ _ (show DataW.trod enc prog w base (fun _=>true) held n 9 [c0]=some y0 from q0);have q1:DataW.trod enc prog w base (fun _=>true) held n 3 (([c0,c1,c2,c3,c4,c5,c6,c7,c8,c9,c10].drop 1).take (prog.cellsOf 3))=[y0,y1,y2,y3,y4][1]?:=hf 1 _ rfl;rw[z2]at q1;obtain⟨a1,e1,r1⟩:=(A3 underlying3) _ _ _ (show DataW.trod enc prog w base (fun _=>true) held n 3 [c1]=some y1 from q1);have q2:DataW.trod enc prog w base (fun _=>true) held n 3 (([c0,c1,c2,c3,c4,c5,c6,c7,c8,c9,c10].drop 2).take (prog.cellsOf 3))=[y0,y1,y2,y3,y4][2]?:=hf 2 _ rfl;rw[z2]at q2;obtain⟨a2,e2,r2⟩:=(A3 underlying3) _ _ _ (show DataW.trod enc prog w base (fun _=>true) held n 3 [c2]=some y2 from q2);have q3:DataW.trod enc prog w base (fun _=>true) held n 29 (([c0,c1,c2,c3,c4,c5,c6,c7,c8,c9,c10].drop 3).take (prog.cellsOf 29))=[y0,y1,y2,y3,y4][3]?:=hf 3 _ rfl;rw[z1]at q3;obtain⟨a3,e3,r3⟩:=(AP underlying29 (by kernel_rfl) (by decide) H4) _ _ _ (show DataW.trod enc prog w base (fun _=>true) held n 29 [c3]=some y3 from q3);have q4:DataW.trod enc prog w base (fun _=>true) held n 76 (([c0,c1,c2,c3,c4,c5,c6,c7,c8,c9,c10].drop 4).take (prog.cellsOf 76))=[y0,y1,y2,y3,y4][4]?:=hf 4 _ rfl;rw[z0]at q4;obtain⟨a4,e4,r4⟩:=U7 _ _ _ (show DataW.trod enc prog w base (fun _=>true) held n 76 [c4,c5,c6,c7,c8,c9,c10]=some y4 from q4);obtain rfl:c0=_:=(List.cons.inj e0).1;obtain rfl:c1=_:=(List.cons.inj e1).1;obtain rfl:c2=_:=(List.cons.inj e2).1;obtain rfl:c3=_:=(List.cons.inj e3).1;obtain rfl:c4=_:=(List.cons.inj e4).1;obtain rfl:c5=_:=(List.cons.inj (List.cons.inj e4).2).1;obtain rfl:c6=_:=(List.cons.inj (List.cons.inj (List.cons.inj e4).2).2).1;obtain rfl:c7=_:=(List.cons.inj (List.cons.inj (List.cons.inj (List.cons.inj e4).2).2).2).1;obtain rfl:c8=_:=(List.cons.inj (List.cons.inj (List.cons.inj (List.cons.inj (List.cons.inj e4).2).2).2).2).1;obtain rfl:c9=_:=(List.cons.inj (List.cons.inj (List.cons.inj (List.cons.inj (List.cons.inj (List.cons.inj e4).2).2).2).2).2).1;obtain rfl:c10=_:=(List.cons.inj (List.cons.inj (List.cons.inj (List.cons.inj (List.cons.inj (List.cons.inj (List.cons.inj e4).2).2).2).2).2).2).1;exact⟨⟨a0,a1,a2,a3,a4.1,a4.2⟩,rfl,⟨r3,r4⟩⟩
theorem U0 {fuel:Nat} {cs:List Value} {x:DataW H×List MemPlace} (h:DataW.trod enc prog w base (fun _=>true) held fuel 36 cs=some x):∃G:Game,cs=(gcl G)∧GameOk w G:=by
 obtain⟨xs,n,_,_,hl,hlen,hf⟩:=DataW.trod_struct underlying36 h;rw[show prog.cellsOf 36=12 by kernel_rfl]at hl
 match cs,hl with
 |[c0,c1,c2,c3,c4,c5,c6,c7,c8,c9,c10,c11],_=>
  match xs,hlen with
  |[y0,y1,y2,y3,y4],_=>
   have z0:prog.cellsOf 33=1:=by kernel_rfl
   have z1:prog.cellsOf 32=1:=by kernel_rfl
   have z2:prog.cellsOf 34=1:=by kernel_rfl
   have z3:prog.cellsOf 31=8:=by kernel_rfl
   have z4:prog.cellsOf 3=1:=by kernel_rfl
   have q0:DataW.trod enc prog w base (fun _=>true) held n 31 (([c0,c1,c2,c3,c4,c5,c6,c7,c8,c9,c10,c11].drop 0).take (prog.cellsOf 31))=[y0,y1,y2,y3,y4][0]?:=hf 0 _ rfl;rw[z3]at q0;obtain⟨a0,e0,r0⟩:= @VE H enc w base held _ _ _ (show DataW.trod enc prog w base (fun _=>true) held n 31 [c0,c1,c2,c3,c4,c5,c6,c7]=some y0 from q0);have q1:DataW.trod enc prog w base (fun _=>true) held n 32 (([c0,c1,c2,c3,c4,c5,c6,c7,c8,c9,c10,c11].drop 8).take (prog.cellsOf 32))=[y0,y1,y2,y3,y4][1]?:=hf 1 _ rfl;rw[z1]at q1;obtain⟨a1,e1,r1⟩:=(AP underlying32 (by kernel_rfl) (by decide) Ww) _ _ _ (show DataW.trod enc prog w base (fun _=>true) held n 32 [c8]=some y1 from q1);have q2:DataW.trod enc prog w base (fun _=>true) held n 33 (([c0,c1,c2,c3,c4,c5,c6,c7,c8,c9,c10,c11].drop 9).take (prog.cellsOf 33))=[y0,y1,y2,y3,y4][2]?:=hf 2 _ rfl;rw[z0]at q2;obtain⟨a2,e2,r2⟩:=(AP underlying33 (by kernel_rfl) (by decide) (AP underlying37 (by kernel_rfl) (by decide) (A3 underlying3))) _ _ _ (show DataW.trod enc prog w base (fun _=>true) held n 33 [c9]=some y2 from q2);have q3:DataW.trod enc prog w base (fun _=>true) held n 34 (([c0,c1,c2,c3,c4,c5,c6,c7,c8,c9,c10,c11].drop 10).take (prog.cellsOf 34))=[y0,y1,y2,y3,y4][3]?:=hf 3 _ rfl;rw[z2]at q3;obtain⟨a3,e3,r3⟩:=(AP underlying34 (by kernel_rfl) (by decide) Vp) _ _ _ (show DataW.trod enc prog w base (fun _=>true) held n 34 [c10]=some y3 from q3);have q4:DataW.trod enc prog w base (fun _=>true) held n 3 (([c0,c1,c2,c3,c4,c5,c6,c7,c8,c9,c10,c11].drop 11).take (prog.cellsOf 3))=[y0,y1,y2,y3,y4][4]?:=hf 4 _ rfl;rw[z4]at q4;obtain⟨a4,e4,r4⟩:=(A3 underlying3) _ _ _ (show DataW.trod enc prog w base (fun _=>true) held n 3 [c11]=some y4 from q4);obtain rfl:c0=_:=(List.cons.inj e0).1;obtain rfl:c1=_:=(List.cons.inj (List.cons.inj e0).2).1;obtain rfl:c2=_:=(List.cons.inj (List.cons.inj (List.cons.inj e0).2).2).1;obtain rfl:c3=_:=(List.cons.inj (List.cons.inj (List.cons.inj (List.cons.inj e0).2).2).2).1;obtain rfl:c4=_:=(List.cons.inj (List.cons.inj (List.cons.inj (List.cons.inj (List.cons.inj e0).2).2).2).2).1;obtain rfl:c5=_:=(List.cons.inj (List.cons.inj (List.cons.inj (List.cons.inj (List.cons.inj (List.cons.inj e0).2).2).2).2).2).1;obtain rfl:c6=_:=(List.cons.inj (List.cons.inj (List.cons.inj (List.cons.inj (List.cons.inj (List.cons.inj (List.cons.inj e0).2).2).2).2).2).2).1;obtain rfl:c7=_:=(List.cons.inj (List.cons.inj (List.cons.inj (List.cons.inj (List.cons.inj (List.cons.inj (List.cons.inj (List.cons.inj e0).2).2).2).2).2).2).2).1;obtain rfl:c8=_:=(List.cons.inj e1).1;obtain rfl:c9=_:=(List.cons.inj e2).1;obtain rfl:c10=_:=(List.cons.inj e3).1;obtain rfl:c11=_:=(List.cons.inj e4).1;exact⟨⟨a0,a1,a2,a3,a4⟩,rfl,⟨r0,r1,r2,r3⟩⟩
end
section
variable {H:Type} {enc:TypeId×Value→H} {w:World} {base:Nat} {held:Bool}
theorem SU:Rd enc prog w base held 51 cEntry:=by
 intro fuel cs x h;obtain⟨xs,n,_,_,hl,hlen,hf⟩:=DataW.trod_struct underlying51 h;rw[show prog.cellsOf 51=7 by kernel_rfl]at hl
 match cs,hl with
 |[c0,c1,c2,c3,c4,c5,c6],_=>
  match xs,hlen with
  |[y0,y1,y2,y3,y4],_=>
   have z0:prog.cellsOf 49=3:=by kernel_rfl
   have z1:prog.cellsOf 3=1:=by kernel_rfl
   have q0:DataW.trod enc prog w base (fun _=>true) held n 3 (([c0,c1,c2,c3,c4,c5,c6].drop 0).take (prog.cellsOf 3))=[y0,y1,y2,y3,y4][0]?:=hf 0 _ rfl;rw[z1]at q0;obtain⟨a0,e0,r0⟩:=(A3 underlying3) _ _ _ (show DataW.trod enc prog w base (fun _=>true) held n 3 [c0]=some y0 from q0);have q1:DataW.trod enc prog w base (fun _=>true) held n 3 (([c0,c1,c2,c3,c4,c5,c6].drop 1).take (prog.cellsOf 3))=[y0,y1,y2,y3,y4][1]?:=hf 1 _ rfl;rw[z1]at q1;obtain⟨a1,e1,r1⟩:=(A3 underlying3) _ _ _ (show DataW.trod enc prog w base (fun _=>true) held n 3 [c1]=some y1 from q1);have q2:DataW.trod enc prog w base (fun _=>true) held n 49 (([c0,c1,c2,c3,c4,c5,c6].drop 2).take (prog.cellsOf 49))=[y0,y1,y2,y3,y4][2]?:=hf 2 _ rfl;rw[z0]at q2;obtain⟨a2,e2,r2⟩:=WO _ _ _ (show DataW.trod enc prog w base (fun _=>true) held n 49 [c2,c3,c4]=some y2 from q2);have q3:DataW.trod enc prog w base (fun _=>true) held n 3 (([c0,c1,c2,c3,c4,c5,c6].drop 5).take (prog.cellsOf 3))=[y0,y1,y2,y3,y4][3]?:=hf 3 _ rfl;rw[z1]at q3;obtain⟨a3,e3,r3⟩:=(A3 underlying3) _ _ _ (show DataW.trod enc prog w base (fun _=>true) held n 3 [c5]=some y3 from q3);have q4:DataW.trod enc prog w base (fun _=>true) held n 3 (([c0,c1,c2,c3,c4,c5,c6].drop 6).take (prog.cellsOf 3))=[y0,y1,y2,y3,y4][4]?:=hf 4 _ rfl;rw[z1]at q4;obtain⟨a4,e4,r4⟩:=(A3 underlying3) _ _ _ (show DataW.trod enc prog w base (fun _=>true) held n 3 [c6]=some y4 from q4);obtain rfl:c0=_:=(List.cons.inj e0).1;obtain rfl:c1=_:=(List.cons.inj e1).1;obtain rfl:c2=_:=(List.cons.inj e2).1;obtain rfl:c3=_:=(List.cons.inj (List.cons.inj e2).2).1;obtain rfl:c4=_:=(List.cons.inj (List.cons.inj (List.cons.inj e2).2).2).1;obtain rfl:c5=_:=(List.cons.inj e3).1;obtain rfl:c6=_:=(List.cons.inj e4).1;exact⟨⟨a0,a1,a2,a3,a4⟩,rfl,trivial⟩
end
end Go.Proofs.YtmoojmgihdgceaaGreatDoor
