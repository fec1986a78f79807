/- Merged texts of this proof. -/
import Derived.Test.YtllebkdchemabaaGreatDoorZa
import Derived.ProofKit
import Derived.Deep.Slices
import Derived.Lib.SmallJoins
import Derived.Test.YtllebkdchemabaaGreatDoorZb
import Derived.MakeChecks
import Derived.ChangeVars
import Derived.LaidMore
import Derived.Lay
import Derived.LaidOnce
import Derived.SevenTiedAt
import Derived.Handed
import Derived.OpenShut
import Derived.Shelf.Vars
import Derived.Test.YtllebkdchemabaaGreatDoorZg
import Derived.Test.YtllebkdchemabaaGreatDoorRows
import Derived.Test.YtllebkdchemabaaGreatDoorZi
namespace Go.Proofs.YtllebkdchemabaaGreatDoor
set_option linter.unusedVariables false
set_option linter.unusedSimpArgs false
open Go.ChangeShapes Go.WideShapes Go.ChangeAt Go.RowKit Go.Deep Go.Joins Go.Proofs.Tryz
variable {s:ChangeSpec} {W:World}
section
variable {H:Type} {enc:TypeId×Value->H} {P:Program} {w:World} {base:Nat}
theorem Gh (hl:laidOutB P=true) {W W':World} {sp:Nat->Bool}:∀{ts:List TypeId} {vs:List Value} {ds:List (DataW H)} {ps:List MemPlace},(∀t∈ts,P.readableRec t=true/\t<P.types.size)->
  DataW.TrodAll enc P W base (fun _=>true) true ts vs ds ps->(∀p∈ps,W.sameAt W' p)->(∀p∈ps,sp p.block=true)->DataW.TrodAll enc P W' base sp true ts vs ds ps
 |[],[],[],ps,_,h,_,_=>h
 |t::ts,v::vs,d::ds,ps,hr,⟨p,q,h1,h2,e⟩,hs,hsp=>by
  subst e
  exact⟨p,q,WideElems.Trod_stays hl (hr t (by simp)).1 (hr t (by simp)).2 h1 (fun x hx=>hs x (by simp[hx])) (fun x hx=>hsp x (by simp[hx])),
   Gh hl (fun t ht=>hr t (by simp[ht])) h2 (fun x hx=>hs x (by simp[hx])) (fun x hx=>hsp x (by simp[hx])),rfl⟩
 |[],[],_::_,_,_,h,_,_=>h.elim
 |[],_::_,_,_,_,h,_,_=>h.elim
 |_::_,[],_,_,_,h,_,_=>h.elim
 |_::_,_::_,[],_,_,h,_,_=>h.elim
theorem VL {f:Func} {apart fresh handsOn again:Bool} {W':World} {args:Array Value} {ds:List (DataW H)} {gs:List (DataW H)} {before:List MemPlace} {tb:TypeId}
  (hl:laidOutB P=true) (hr0:(f.params.toList.all fun t=>P.readableRec t&&decide (t<P.types.size))=true) (hrt:f.resultTypes = #[tb]) (htb:P.underlying tb=some .bool)
  (hW:DataW.Whole enc P f.params.toList s.vars apart W args.toList ds gs before) (hv:s.vars=[]) (hb:Below W.heap.size W W')
  (hres:(s.fn H (ds++gs)).results=[.lit (.bool true)]) (hargs:(s.fn H (ds++gs)).args=ds) (hvars:(s.fn H (ds++gs)).vars=[]):s.post enc P f apart fresh handsOn again W args (.bool true) W':=by
 have hr:∀t∈f.params.toList,P.readableRec t=true/\t<P.types.size:=fun t ht=>by
  have:=List.all_eq_true.1 hr0 t ht
  simpa using this
 have hlt:∀p∈before,p.block<W.heap.size:=fun p hp=>hW.lt p hp;have hW0:=hW;obtain⟨p,q,hA,hV,rfl,hfz,hnd⟩:=hW;rw[hv]at hV;obtain⟨rfl,rfl⟩:=trodVars_none hV
 have hone:∀(b:Nat) (sp:Nat->Bool) (hd:Bool),DataW.TrodAll enc P W' b sp hd [tb] [.bool true] [.lit (.bool true)] []:=fun b sp hd=>
  trodAll_mk1 ⟨1,by simp[DataW.trod,Value.cells,htb]⟩
 have hall:∀sp:Nat->Bool,(∀x∈p,sp x.block=true)->DataW.TrodAll enc P W' 0 sp true f.params.toList args.toList ds p:=fun sp hsp=>
  Gh hl hr hA (fun x hx=>hb.same (hlt x (by simp[hx]))) hsp
 refine⟨ds,[],p++[],[],p,[],hW0,?_,?_,?_,hb.frame _,fun _=>⟨?_,.lit (.bool true)::ds,[],[]++p++[],?_,?_⟩⟩
 ·rw[hres,hrt];exact hone _ _ _
 ·rw[hargs];exact hall _ (fun x hx=>by simpa using hlt x (by simp[hx]))
 ·rw[hvars,hv];rfl
 ·rw[hrt];intro j t r h1 h2
  have hj:j=0:=by
   have:=(Array.getElem?_eq_some_iff.1 h1).1
   simpa using this
  subst hj;simp at h1;simp[Value.resultList]at h2;subst h1;subst h2;simp[Value.okWide,htb,Cell.okWide,Cell.ok]
 ·rw[hrt,hv];refine⟨[]++p,[],trodAll_append (hall _ (fun _ _=>rfl)) (hone _ _ _),rfl,rfl,?_,?_⟩
  ·intro b off hx;rw[hb.frozen (p:=⟨b,off,none⟩) (hlt (.cell b off) (by simpa using hx))];exact hfz b off (by simpa using hx)
  intro ha;have:=hnd ha
  simpa using this
 intro x hx _
 simpa using hx
end
section
variable {H:Type} {enc:TypeId×Value->H} {P:Program} {w:World} {base:Nat} {held:Bool}
def Rd (enc:TypeId×Value->H) (P:Program) (w:World) (base:Nat) (held:Bool) (t:TypeId) {α:Type} (C:Cel α):Prop:=
 ∀(fuel:Nat) (cs:List Value) (x:DataW H×List MemPlace),DataW.trod enc P w base (fun _=>true) held fuel t cs=some x->∃a,cs=C.cells a/\C.ok w a
theorem XF {t:TypeId} (ht:P.underlying t=some .string):Rd enc P w base held t cStr:=fun _ _ _ h=>let⟨n,e,_⟩:=DataW.trod_string ht h;⟨n,e,trivial⟩
theorem OP {α:Type} [Inhabited α] {C:Cel α} {t s:TypeId} (ht:P.underlying t=some (.slice s)) (hC:P.cellsOf s=C.k) (h0:0<C.k) (hr:Rd enc P w base held s C):Rd enc P w base held t (cSl C):=by
 intro fuel cs x h;rcases open_slice ht h with⟨h1,_⟩|⟨a,len,cap,m,n,D,Pl,h1,_,hl,hm,hmm,_,hcell⟩
 ·subst h1;exact⟨⟨.slice none 0 0,[]⟩,rfl,SlT.nil C w⟩
 subst h1;simp at hmm;have hm':cap<=9223372036854775807:=hm;rw[hC]at hcell
 obtain⟨f,hf⟩:=choose_lt (α:=α) (n:=len) (p:=fun i c=>w.cells? base (a.add (i*C.k)) C.k=some (C.cells c)/\C.ok w c) (fun i hi=>by
  obtain⟨cs',k1,k2⟩:=hcell i (by omega);obtain⟨c,rfl,k3⟩:=hr _ _ _ k2
  exact⟨c,k1,k3⟩)
 have hlen:((List.range len).map f).length=len:=by simp
 refine⟨⟨.slice (some a) len cap,(List.range len).map f⟩,rfl,⟨⟨?_,some a,cap,by simp,⟨by simpa using hl,hm'⟩,?_⟩,?_⟩⟩
 ·rw[BQ]
 ·rcases Nat.eq_zero_or_pos len with hz|hz
  ·left;simpa using hz
  right;obtain⟨b,o,s'⟩:=a
  have hs:s'=none:=by
   have:=(World.cells?_some (hf 0 hz).1).2.2 0 h0;rw[List.getElem?_eq_getElem (by rw[C.len];exact h0)]at this
   simpa [Addr.add]using World.cell?_spot this
  subst hs;refine⟨b,o,rfl,fun k y hy=>?_⟩
  have hk:k<len*C.k:=by
   have h1:=(List.getElem?_eq_some_iff.1 hy).1;simp only[BQ,hlen]at h1;exact h1
  obtain⟨q,hq⟩:∃q,q=k/C.k:=⟨_,rfl⟩;obtain⟨r,hrr⟩:∃r,r=k%C.k:=⟨_,rfl⟩;have hql:q<len:=by rw[hq];exact(Nat.div_lt_iff_lt_mul h0).2 hk
  have hr:r<C.k:=by rw[hrr];exact Nat.mod_lt _ h0
  have e:k=q*C.k+r:=by rw[hq,hrr,Nat.mul_comm];exact(Nat.div_add_mod k C.k).symm
  clear hq hrr;subst e;have hat:=BW C (l:=(List.range len).map f) (i:=(q:Int)) (by omega) (by rw[hlen];omega) r hr;rw[show((q:Int)).toNat=q by omega]at hat;simp only at hy;rw[hat]at hy
  have hn:nth ((List.range len).map f) (q:Int)=f q:=by
   simp[nth,List.getD,hql]
  rw[hn]at hy;have:=(World.cells?_some (hf _ hql).1).2.2 r hr;rw[hy]at this;rw[BJ,BJ]at this
  simpa [Nat.add_assoc]using this
 intro c hc;obtain⟨i,hi,rfl⟩:=List.mem_map.1 hc;exact(hf i (List.mem_range.1 hi)).2
theorem Lr {t s:TypeId} {fuel:Nat} {v:Value} {x:DataW H×List MemPlace} (ht:P.underlying t=some (.slice s)) (hs:P.underlying s=some .string) (hc:P.cellsOf s=1)
  (h:DataW.trod enc P w base (fun _=>true) held fuel t [v]=some x) {l:List ByteArray} {sp:List (DataW H)} (hx:x.1 = .slice (l.map fun a=>.lit (.string a.data.toList)) sp):SlT cStr w ⟨v,l⟩:=by
 rcases open_slice ht h with⟨_,h1⟩|⟨a,len,cap,m,n,D,Pl,h1,_,hl,hm,hmm,h2,hcell⟩
 ·rw[h1]at hx;cases hx
 rw[h2]at hx;simp only[DataW.slice.injEq]at hx;have hd:=hx.1;have hlen:len=l.length:=by simpa using congrArg List.length hd
 simp at h1 hmm;subst h1;have hm':cap<=9223372036854775807:=hm;rw[hc]at hcell
 have hat:∀i (hi:i<l.length),w.cell? (a.add i)=some (.string l[i]):=fun i hi=>by
  obtain⟨cs',k1,k2⟩:=hcell i (by omega);obtain⟨b,rfl,e,_⟩:=DataW.trod_string hs k2;have e1:=congrArg (fun q=>q[i]?) hd;simp only[List.getElem?_map,List.getElem?_eq_getElem hi,Option.map_some]at e1;rw[List.getElem?_range (by omega)]at e1;simp only[Option.map_some,Option.some.injEq]at e1;have e2:=(Prod.mk.inj e).1;rw[e2]at e1;simp only[DataW.lit.injEq,Lit.string.injEq]at e1
  have e3:b=l[i]:=by
   cases b;cases hb:l[i]
   rw[hb]at e1;simp at e1;rw[e1]
  have:=(World.cells?_some k1).2.2 0 (by decide);rw[Nat.mul_one]at this;rw[<-e3]
  simpa [Addr.add]using this
 refine⟨⟨by simp[BQ,cStr],some a,cap,by rw[<-hlen],⟨by simp only;omega,hm'⟩,?_⟩,fun _ _=>trivial⟩;rcases Nat.eq_zero_or_pos l.length with hz|hz
 ·left;exact hz
 right;obtain⟨b,o,s'⟩:=a;have hs':s'=none:=by simpa [Addr.add]using World.cell?_spot (hat 0 hz)
 subst hs';refine⟨b,o,rfl,fun k y hy=>?_⟩
 have hk:k<l.length:=by
  have h1:=(List.getElem?_eq_some_iff.1 hy).1;rw[BQ]at h1
  simpa [cStr]using h1
 have e:=BW cStr (l:=l) (i:=(k:Int)) (by omega) (by omega) 0 (by decide);rw[show cStr.k=1 from rfl,Nat.mul_one,Nat.add_zero,show((k:Int)).toNat=k by omega]at e;simp only at hy;rw[e]at hy;have hn:nth l (k:Int)=l[k]:=by simp[nth,List.getD,hk]
 rw[hn]at hy;have h3:=hat k hk;rw[BJ]at h3;rw[h3]
 simpa [cStr]using hy
end
end Go.Proofs.YtllebkdchemabaaGreatDoor
namespace Go.Proofs.YtllebkdchemabaaGreatDoor
set_option linter.unusedVariables false
set_option linter.unusedSimpArgs false
open Go.RowKit Go.Proofs Go.Proofs.Tryz
variable {s:ChangeSpec}
theorem JV {H:Type} {enc:TypeId×Value->H} {a:Assume} {C:Checked} {os:Os} {f:FuncId} {fn:Func} {conds:List PathCond} {apart fresh handsOn again:Bool} {X:World->Array Value->Prop}
  (hX:∀(w w':World) (args:Array Value),w.heap=w'.heap->X w args->X w' args)
  (own:ownKnob C.prog.godebug=none) (started:os.Started) (noInit:C.prog.inits.idxOf? f=none) (hfn:C.prog.funcs[f]? = some fn)
  (witness:∃(w:World) (tape:Tape) (i:Input),w.os=os/\(w.forCall tape i).Shaped C.prog/\i.vars=[]/\Input.okWide C.prog (w.forCall tape i) .any w.heap.size f i/\
   ((s.pre enc C.prog fn conds apart (w.forCall tape i).memory i.args/\X (w.forCall tape i).memory i.args)/\sizedMet enc C.prog fn (OpenSpec.ofChange s) apart (w.forCall tape i).memory i.args)/\a.holds C.prog (lone (Frame.enter C.prog f i.args .normal) [] (w.forCall tape i)))
  (contract:∀(W:World) (base:Nat) (args:Array Value) (ds gs:List (DataW H)) (before:List MemPlace),W.ShapedOpen C.prog->
   (∀(j:Nat) t v,fn.params[j]? = some t->args[j]? = some v->Value.okWide C.prog W .any base t v)->
   DataW.Whole enc C.prog fn.params.toList s.vars apart W args.toList ds gs before->
   X W args->
   Calls C.prog f args W fun e W'=>∃v,e = .returned v/\s.post enc C.prog fn apart fresh handsOn again W args v W'):
  ReturnsInHanded a C os f .any (fun w args=>(s.pre enc C.prog fn conds apart w args/\X w args)/\sizedMet enc C.prog fn (OpenSpec.ofChange s) apart w args) (s.post enc C.prog fn apart fresh handsOn again):=by
 refine returnsInHanded_of_calls own started noInit witness fun w tape i _ hsh _ hok hpre _=>?_;obtain⟨_,_,_,fn',hfn',_,_,_,_,hval⟩:=hok;obtain rfl:fn'=fn:=Option.some.inj (hfn'.symm.trans hfn);obtain⟨⟨⟨ds,gs,before,hw,_⟩,hx⟩,_⟩:=hpre;refine(contract (w.forCall tape i) w.heap.size i.args ds gs before hsh hval (DataW.Whole.of_heap (w':=w.forCall tape i) (by rfl) hw) (hX _ _ _ (by rfl) hx)).mono fun e W' ⟨v,he,hp⟩=>?_;subst he;exact ChangeSpec.post_blind hp
variable {W:World}
theorem Md {P:Program} {name:String} {zs:List (List UInt8)} {rest:List (String×DataW Unit)} {g:Nat} {t e:TypeId} {n:Nat}
  (hg:P.globalNamed name=some g) (hty:(P.globals[g]?).map (·.type)=some t) (ht:P.underlying t=some (.array n e)) (he:P.underlying e=some .string) (hce:P.cellsOf e=1) (hct:P.cellsOf t=n)
  (h:laidMet P ((name,.agg (zs.map fun z=>.lit (.string z)))::rest) W):∀j,j<n->W.cell? ⟨g,j,none⟩=some (.string ⟨(zs.getD j []).toArray⟩):=by
 obtain⟨ps,⟨g',t',cs,fuel,p,q,hg',ht',hvar,hd,_,_⟩,_⟩:=h;obtain rfl:=Option.some.inj (hg.symm.trans hg');obtain rfl:=Option.some.inj (hty.symm.trans ht');intro j hj;obtain⟨xs,m,_,hx,hl,hxl,hi⟩:=DataW.trod_array ht hd;have h1:=hi j hj;rw[hce,Nat.mul_one]at h1;have hj2:j<xs.length:=by omega
 rw[List.getElem?_eq_getElem hj2]at h1;obtain⟨s,e1,e2,_⟩:=DataW.trod_string he h1
 have e3:xs.map (·.1)=zs.map fun z=>DataW.lit (.string z):=by
  have:=congrArg Prod.fst hx;exact(DataW.agg.inj this).symm
 have e4:(DataW.lit (.string s.data.toList):DataW Unit) = .lit (.string (zs.getD j [])):=by
  have a1:(xs.map (·.1))[j]? = some (.lit (.string s.data.toList)):=by rw[List.getElem?_map,List.getElem?_eq_getElem hj2,e2];rfl
  rw[e3,List.getElem?_map]at a1;cases hz:zs[j]? with
  |none=>rw[hz]at a1;cases a1
  |some z=>
   rw[hz]at a1;have:=Option.some.inj a1;rw[<-this,List.getD,hz];rfl
 have e5:s.data.toList=zs.getD j []:=by
  injection e4 with e6
  injection e6
 rw[World.var?_cell hg hvar j]
 have hc:cs.toList[j]? = some (.string s):=by
  have:=congrArg (fun l:List Value=>l[0]?) e1;simp only[List.getElem?_take,List.getElem?_drop]at this
  simpa using this
 rw[<-Array.getElem?_toList,hc,<-e5]
end Go.Proofs.YtllebkdchemabaaGreatDoor
set_option maxHeartbeats 8000000
namespace Go.Proofs.YtllebkdchemabaaGreatDoor
open Go.ChangeShapes Go.WideShapes Go.ChangeAt Go.RowKit Go.Proofs Go.Joins Go.Proofs.Tryz
set_option maxRecDepth 100000
set_option linter.unusedVariables false
set_option linter.unusedSimpArgs false
variable {W:World}
theorem Oa (h:laidMetH prog [("padlock/room.reserved",Rows.laid_padlock_room_reserved)] W):∃g,GOk W g:=by
 rw[MakeChecks.laidMetH_plain _ _ _ (by kernel_rfl)]at h;obtain⟨ps,⟨gg,t,cs,fuel,p,q,hg,ht,hv,hd,_,_⟩,_,_⟩:=h;obtain rfl:=Option.some.inj ((show prog.globalNamed "padlock/room.reserved" = some 3 by kernel_rfl).symm.trans hg);obtain rfl:=Option.some.inj ((show(prog.globals[3]?).map (·.type)=some 23 by kernel_rfl).symm.trans ht);have hc:prog.cellsOf 9=1:=by kernel_rfl
 obtain⟨s,e,_⟩:=((OP underlying23 (by kernel_rfl) (by decide) (XF underlying9)):Rd (fun _=>()) prog W 0 false 23 (cSl cStr)) _ _ _ hd;have e1:cs.toList=[s.v]:=e;rw[e1]at hd;have hs:=Lr underlying23 underlying9 hc hd (l:=wordL) (sp:=[]) rfl;refine⟨⟨s.v,wordL⟩,rfl,fun u hb=>⟨?_,hs.ext hb⟩⟩;refine Bi hb (Nat.le_refl _) ?_;rw[World.var?_cell hg hv 0];have:cs[0]? = cs.toList[0]?:=by simp
 rw[this,e1];rfl
theorem Vc (h:W.ShapedOpen prog):MaxOk W:=
 cell_of_shapedOpen_int (zero:=#[.int .i64 0]) (t:=3) h (of_decide_eq_true (by kernel_rfl)) (by kernel_rfl) rfl (by kernel_rfl) (by kernel_rfl) underlying3
end Go.Proofs.YtllebkdchemabaaGreatDoor
