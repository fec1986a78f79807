/- Merged texts of this proof (walks and plain laws), printed by a program of the prover. -/
import Derived.Test.YtfbfdnoodccgiaaGreatDoorZa
import Derived.ProofKit
import Derived.Deep.Slices
import Derived.Lib.SmallJoins
import Derived.Test.YtfbfdnoodccgiaaGreatDoorZb
import Derived.MakeChecks
import Derived.ChangeVars
import Derived.LaidMore
import Derived.Lay
import Derived.LaidOnce
import Derived.SevenTiedAt
import Derived.Handed
import Derived.OpenShut
import Derived.Shelf.Vars
import Derived.LaidHandle
import Derived.LaidSub
import Derived.WideKeyElems2
import Derived.Lib.LaidTab
import Derived.Test.YtfbfdnoodccgiaaGreatDoorXf
import Derived.Test.YtfbfdnoodccgiaaGreatDoorRows
import Derived.Test.YtfbfdnoodccgiaaGreatDoorZh
import Derived.Test.YtfbfdnoodccgiaaGreatDoorZu
namespace Go.Proofs.YtfbfdnoodccgiaaGreatDoor
set_option linter.unusedVariables false
set_option linter.unusedSimpArgs false
open Go.ChangeShapes Go.WideShapes Go.ChangeAt Go.RowKit Go.Deep Go.Joins
section
variable {H:Type} {enc:TypeId × Value→H} {P:Program} {w:World} {base:Nat}
theorem Je7 (hl:laidOutB P=true) {W W':World} {sp:Nat→Bool}:∀ {ts:List TypeId} {vs:List Value} {ds:List (DataW H)} {ps:List MemPlace},(∀ t∈ts,P.readableRec t=true∧t < P.types.size) →
  DataW.TrodAll enc P W base (fun _=>true) true ts vs ds ps→(∀ p∈ps,W.sameAt W' p)→(∀ p∈ps,sp p.block=true)→DataW.TrodAll enc P W' base sp true ts vs ds ps
 | [],[],[],ps,_,h,_,_=>h
 | t::ts,v::vs,d::ds,ps,hr,⟨p,q,h1,h2,e⟩,hs,hsp=>by
  subst e
  exact ⟨p,q,WideElems.Trod_stays hl (hr t (by simp)).1 (hr t (by simp)).2 h1 (fun x hx=>hs x (by simp [hx])) (fun x hx=>hsp x (by simp [hx])),
   Je7 hl (fun t ht=>hr t (by simp [ht])) h2 (fun x hx=>hs x (by simp [hx])) (fun x hx=>hsp x (by simp [hx])),rfl⟩
 | [],[],_::_,_,_,h,_,_=>h.elim
 | [],_::_,_,_,_,h,_,_=>h.elim
 | _::_,[],_,_,_,h,_,_=>h.elim
 | _::_,_::_,[],_,_,h,_,_=>h.elim
theorem Jxl {f:Func} {s:ChangeSpec} {apart fresh handsOn again:Bool} {W W':World} {args:Array Value} {ds:List (DataW H)} {gs:List (DataW H)} {before:List MemPlace} {tb:TypeId}
  (hl:laidOutB P=true) (hr0:(f.params.toList.all fun t=>P.readableRec t && decide (t < P.types.size))=true) (hrt:f.resultTypes = #[tb]) (htb:P.underlying tb=some .bool)
  (hW:DataW.Whole enc P f.params.toList s.vars apart W args.toList ds gs before) (hv:s.vars=[]) (hb:Below W.heap.size W W')
  (hres:(s.fn H (ds++gs)).results=[.lit (.bool true)]) (hargs:(s.fn H (ds++gs)).args=ds) (hvars:(s.fn H (ds++gs)).vars=[]):s.post enc P f apart fresh handsOn again W args (.bool true) W':=by
 have hr:∀ t∈f.params.toList,P.readableRec t=true∧t < P.types.size:=fun t ht=>by
  have:=List.all_eq_true.1 hr0 t ht
  simpa using this
 have hlt:∀ p∈before,p.block < W.heap.size:=fun p hp=>hW.lt p hp
 have hW0:=hW
 obtain ⟨p,q,hA,hV,rfl,hfz,hnd⟩:=hW
 rw [hv] at hV
 obtain ⟨rfl,rfl⟩:=trodVars_none hV
 have hone:∀ (b:Nat) (sp:Nat→Bool) (hd:Bool),DataW.TrodAll enc P W' b sp hd [tb] [.bool true] [.lit (.bool true)] []:=fun b sp hd =>
  trodAll_mk1 ⟨1,by simp [DataW.trod,Value.cells,htb]⟩
 have hall:∀ sp:Nat→Bool,(∀ x∈p,sp x.block=true)→DataW.TrodAll enc P W' 0 sp true f.params.toList args.toList ds p:=fun sp hsp =>
  Je7 hl hr hA (fun x hx=>hb.same (hlt x (by simp [hx]))) hsp
 refine ⟨ds,[],p++[],[],p,[],hW0,?_,?_,?_,hb.frame _,fun _=>⟨?_,.lit (.bool true)::ds,[],[]++p++[],?_,?_⟩⟩
 ·
  rw [hres,hrt]; exact hone _ _ _
 ·
  rw [hargs]; exact hall _ (fun x hx=>by simpa using hlt x (by simp [hx]))
 ·
  rw [hvars,hv]; rfl
 ·
  rw [hrt]
  intro j t r h1 h2
  have hj:j=0:=by
   have:=(Array.getElem?_eq_some_iff.1 h1).1
   simpa using this
  subst hj
  simp at h1
  simp [Value.resultList] at h2
  subst h1; subst h2
  simp [Value.okWide,htb,Cell.okWide,Cell.ok]
 ·
  rw [hrt,hv]
  refine ⟨[]++p,[],trodAll_append (hall _ (fun _ _=>rfl)) (hone _ _ _),rfl,rfl,?_,?_⟩
  ·
   intro b off hx
   rw [hb.frozen (p:=⟨b,off,none⟩) (hlt (.cell b off) (by simpa using hx))]
   exact hfz b off (by simpa using hx)
  intro ha
  have:=hnd ha
  simpa using this
 intro x hx _
 simpa using hx
end
section
variable {H:Type} {enc:TypeId × Value→H} {P:Program} {w:World} {base:Nat} {held:Bool}
def Rd (enc:TypeId × Value→H) (P:Program) (w:World) (base:Nat) (held:Bool) (t:TypeId) {α:Type} (C:Cel α):Prop :=
 ∀ (fuel:Nat) (cs:List Value) (x:DataW H × List MemPlace),DataW.trod enc P w base (fun _=>true) held fuel t cs=some x→∃ a,cs=C.cells a∧C.ok w a
theorem Jhk {t:TypeId} (ht:P.underlying t=some (.int .i64)):Rd enc P w base held t cInt:=fun _ _ _ h=>let ⟨n,e,_⟩:=DataW.trod_int ht h; ⟨n,e,trivial⟩
theorem J3q {t:TypeId} (ht:P.underlying t=some .string):Rd enc P w base held t cStr:=fun _ _ _ h=>let ⟨n,e,_⟩:=DataW.trod_string ht h; ⟨n,e,trivial⟩
theorem Jnn {α:Type} [Inhabited α] {C:Cel α} {t s:TypeId} (ht:P.underlying t=some (.slice s)) (hC:P.cellsOf s=C.k) (h0:0 < C.k) (hr:Rd enc P w base held s C):Rd enc P w base held t (cSl C):=by
 intro fuel cs x h
 rcases open_slice ht h with ⟨h1,_⟩ | ⟨a,len,cap,m,n,D,Pl,h1,_,hl,hm,hmm,_,hcell⟩
 ·
  subst h1
  exact ⟨⟨.slice none 0 0,[]⟩,rfl,SlT.nil C w⟩
 subst h1
 simp at hmm
 have hm':cap≤9223372036854775807:=hm
 rw [hC] at hcell
 obtain ⟨f,hf⟩:=choose_lt (α:=α) (n:=len) (p:=fun i c=>w.cells? base (a.add (i * C.k)) C.k=some (C.cells c)∧C.ok w c) (fun i hi=>by
  obtain ⟨cs',k1,k2⟩:=hcell i (by omega)
  obtain ⟨c,rfl,k3⟩:=hr _ _ _ k2
  exact ⟨c,k1,k3⟩)
 have hlen:((List.range len).map f).length=len:=by simp
 refine ⟨⟨.slice (some a) len cap,(List.range len).map f⟩,rfl,⟨⟨?_,some a,cap,by simp,⟨by simpa using hl,hm'⟩,?_⟩,?_⟩⟩
 ·
  rw [Jb5]
 ·
  rcases Nat.eq_zero_or_pos len with hz | hz
  ·
   left; simpa using hz
  right
  obtain ⟨b,o,s'⟩:=a
  have hs:s'=none:=by
   have:=(World.cells?_some (hf 0 hz).1).2.2 0 h0
   rw [List.getElem?_eq_getElem (by rw [C.len]; exact h0)] at this
   simpa [Addr.add] using World.cell?_spot this
  subst hs
  refine ⟨b,o,rfl,fun k y hy=>?_⟩
  have hk:k < len * C.k:=by
   have h1:=(List.getElem?_eq_some_iff.1 hy).1
   simp only [Jb5,hlen] at h1
   exact h1
  obtain ⟨q,hq⟩:∃ q,q=k / C.k:=⟨_,rfl⟩
  obtain ⟨r,hrr⟩:∃ r,r=k % C.k:=⟨_,rfl⟩
  have hql:q < len:=by rw [hq]; exact (Nat.div_lt_iff_lt_mul h0).2 hk
  have hr:r < C.k:=by rw [hrr]; exact Nat.mod_lt _ h0
  have e:k=q * C.k+r:=by rw [hq,hrr,Nat.mul_comm]; exact (Nat.div_add_mod k C.k).symm
  clear hq hrr
  subst e
  have hat:=Jcf C (l:=(List.range len).map f) (i:=(q:Int)) (by omega) (by rw [hlen]; omega) r hr
  rw [show ((q:Int)).toNat=q by omega] at hat
  simp only at hy
  rw [hat] at hy
  have hn:nth ((List.range len).map f) (q:Int)=f q:=by
   simp [nth,List.getD,hql]
  rw [hn] at hy
  have:=(World.cells?_some (hf _ hql).1).2.2 r hr
  rw [hy] at this
  rw [Jbb,Jbb] at this
  simpa [Nat.add_assoc] using this
 intro c hc
 obtain ⟨i,hi,rfl⟩:=List.mem_map.1 hc
 exact (hf i (List.mem_range.1 hi)).2
theorem Jrs {t s:TypeId} {fuel:Nat} {v:Value} {x:DataW H × List MemPlace} (ht:P.underlying t=some (.slice s)) (hs:P.underlying s=some .string) (hc:P.cellsOf s=1)
  (h:DataW.trod enc P w base (fun _=>true) held fuel t [v]=some x) {l:List ByteArray} {sp:List (DataW H)} (hx:x.1 = .slice (l.map fun a=>.lit (.string a.data.toList)) sp):SlT cStr w ⟨v,l⟩:=by
 rcases open_slice ht h with ⟨_,h1⟩ | ⟨a,len,cap,m,n,D,Pl,h1,_,hl,hm,hmm,h2,hcell⟩
 ·
  rw [h1] at hx; cases hx
 rw [h2] at hx
 simp only [DataW.slice.injEq] at hx
 have hd:=hx.1
 have hlen:len=l.length:=by simpa using congrArg List.length hd
 simp at h1 hmm
 subst h1
 have hm':cap≤9223372036854775807:=hm
 rw [hc] at hcell
 have hat:∀ i (hi:i < l.length),w.cell? (a.add i)=some (.string l[i]):=fun i hi=>by
  obtain ⟨cs',k1,k2⟩:=hcell i (by omega)
  obtain ⟨b,rfl,e,_⟩:=DataW.trod_string hs k2
  have e1:=congrArg (fun q=>q[i]?) hd
  simp only [List.getElem?_map,List.getElem?_eq_getElem hi,Option.map_some] at e1
  rw [List.getElem?_range (by omega)] at e1
  simp only [Option.map_some,Option.some.injEq] at e1
  have e2:=(Prod.mk.inj e).1
  rw [e2] at e1
  simp only [DataW.lit.injEq,Lit.string.injEq] at e1
  have e3:b=l[i]:=by
   cases b; cases hb:l[i]
   rw [hb] at e1
   simp at e1
   rw [e1]
  have:=(World.cells?_some k1).2.2 0 (by decide)
  rw [Nat.mul_one] at this
  rw [← e3]
  simpa [Addr.add] using this
 refine ⟨⟨by simp [Jb5,cStr],some a,cap,by rw [← hlen],⟨by simp only; omega,hm'⟩,?_⟩,fun _ _=>trivial⟩
 rcases Nat.eq_zero_or_pos l.length with hz | hz
 ·
  left; exact hz
 right
 obtain ⟨b,o,s'⟩:=a
 have hs':s'=none:=by simpa [Addr.add] using World.cell?_spot (hat 0 hz)
 subst hs'
 refine ⟨b,o,rfl,fun k y hy=>?_⟩
 have hk:k < l.length:=by
  have h1:=(List.getElem?_eq_some_iff.1 hy).1
  rw [Jb5] at h1
  simpa [cStr] using h1
 have e:=Jcf cStr (l:=l) (i:=(k:Int)) (by omega) (by omega) 0 (by decide)
 rw [show cStr.k=1 from rfl,Nat.mul_one,Nat.add_zero,show ((k:Int)).toNat=k by omega] at e
 simp only at hy
 rw [e] at hy
 have hn:nth l (k:Int)=l[k]:=by simp [nth,List.getD,hk]
 rw [hn] at hy
 have h3:=hat k hk
 rw [Jbb] at h3
 rw [h3]
 simpa [cStr] using hy
end
end Go.Proofs.YtfbfdnoodccgiaaGreatDoor
namespace Go.Proofs.YtfbfdnoodccgiaaGreatDoor
set_option linter.unusedVariables false
set_option linter.unusedSimpArgs false
open Go.RowKit Go.Proofs
theorem Jjg {H:Type} {enc:TypeId × Value→H} {a:Assume} {C:Checked} {os:Os} {f:FuncId} {fn:Func} {s:ChangeSpec} {conds:List PathCond} {apart fresh handsOn again:Bool} {X:World→Array Value→Prop}
  (hX:∀ (w w':World) (args:Array Value),w.heap=w'.heap→X w args→X w' args)
  (own:ownKnob C.prog.godebug=none) (started:os.Started) (noInit:C.prog.inits.idxOf? f=none) (hfn:C.prog.funcs[f]? = some fn)
  (witness:∃ (w:World) (tape:Tape) (i:Input),w.os=os∧(w.forCall tape i).Shaped C.prog∧i.vars=[]∧Input.okWide C.prog (w.forCall tape i) .any w.heap.size f i ∧
   ((s.pre enc C.prog fn conds apart (w.forCall tape i).memory i.args∧X (w.forCall tape i).memory i.args)∧sizedMet enc C.prog fn (OpenSpec.ofChange s) apart (w.forCall tape i).memory i.args)∧a.holds C.prog (lone (Frame.enter C.prog f i.args .normal) [] (w.forCall tape i)))
  (contract:∀ (W:World) (base:Nat) (args:Array Value) (ds gs:List (DataW H)) (before:List MemPlace),W.ShapedOpen C.prog →
   (∀ (j:Nat) t v,fn.params[j]? = some t→args[j]? = some v→Value.okWide C.prog W .any base t v) →
   DataW.Whole enc C.prog fn.params.toList s.vars apart W args.toList ds gs before →
   X W args →
   Calls C.prog f args W fun e W'=>∃ v,e = .returned v∧s.post enc C.prog fn apart fresh handsOn again W args v W') :
  ReturnsInHanded a C os f .any (fun w args=>(s.pre enc C.prog fn conds apart w args∧X w args)∧sizedMet enc C.prog fn (OpenSpec.ofChange s) apart w args) (s.post enc C.prog fn apart fresh handsOn again):=by
 refine returnsInHanded_of_calls own started noInit witness fun w tape i _ hsh _ hok hpre _=>?_
 obtain ⟨_,_,_,fn',hfn',_,_,_,_,hval⟩:=hok
 obtain rfl:fn'=fn:=Option.some.inj (hfn'.symm.trans hfn)
 obtain ⟨⟨⟨ds,gs,before,hw,_⟩,hx⟩,_⟩:=hpre
 refine (contract (w.forCall tape i) w.heap.size i.args ds gs before hsh hval (DataW.Whole.of_heap (w':=w.forCall tape i) (by rfl) hw) (hX _ _ _ (by rfl) hx)).mono fun e W' ⟨v,he,hp⟩=>?_
 subst he
 exact ChangeSpec.post_blind hp
end Go.Proofs.YtfbfdnoodccgiaaGreatDoor
set_option maxHeartbeats 8000000
namespace Go.Proofs.YtfbfdnoodccgiaaGreatDoor
open Go.ChangeShapes Go.WideShapes Go.ChangeAt Go.RowKit Go.Proofs Go.Joins
set_option maxRecDepth 100000
set_option linter.unusedVariables false
set_option linter.unusedSimpArgs false
theorem Jvp {W:World} (h:W.ShapedOpen Tryz.prog):MaxOk W :=
 cell_of_shapedOpen_int (zero := #[.int .i64 0]) (t:=3) h (of_decide_eq_true (by kernel_rfl)) (by kernel_rfl) rfl (by kernel_rfl) (by kernel_rfl) Tryz.underlying3
theorem Jfn {v:Value} {q:Int} (h:keyOf Tryz.prog 3 v=some (.int .i64 q)):v = .int .i64 q:=by
 rw [Go.keyOf_int Tryz.underlying3] at h
 unfold mapKey at h
 rw [Tryz.underlying3] at h
 split at h
 all_goals first | (cases h; done) | skip
 all_goals simp_all
theorem Jg2 {W:World} {sp:Nat→Bool} {n:Nat} {v:Value} {s:List UInt8} {b:UInt8} {r:List UInt8} {q:List MemPlace} {f0:FuncId}
  (hone:((List.range Tryz.prog.funcs.size).filter fun f=>(Tryz.prog.funcs[f]?).any (·.name.toUTF8.data.toList == b::r))=[f0])
  (h:Go.WideElems.elemAt (funcToken Tryz.prog) Tryz.prog W 0 sp true n 71 v=some (.agg [.lit (.string s),.held (b::r)],q)):v = .agg #[.string ⟨s.toArray⟩,.func (.func f0) #[] #[]]:=by
 unfold Go.WideElems.elemAt at h
 split at h
 ·
  rename_i hf
  obtain ⟨xs,n',rfl,hx,hl,hs,hc⟩:=DataW.trod_struct Tryz.underlying71 h
  have hcc:Tryz.prog.cellsOf 71=2:=by kernel_rfl
  have hc1:Tryz.prog.cellsOf 9=1:=by kernel_rfl
  have hc2:Tryz.prog.cellsOf 69=1:=by kernel_rfl
  cases v with
  | agg cs =>
   rw [hcc] at hl
   obtain ⟨c0,c1,e⟩:∃ c0 c1,cs = #[c0,c1]:=by
    obtain ⟨l⟩:=cs
    match l,hl with
    | [c0,c1],_=>exact ⟨c0,c1,rfl⟩
   subst e
   have h0:=hc 0 _ rfl
   have h1:=hc 1 _ rfl
   match xs,hs with
   | [x0,x1],_ =>
    obtain ⟨a0,p0⟩:=x0
    obtain ⟨a1,p1⟩:=x1
    have hx1:=congrArg Prod.fst hx
    simp only [List.map_cons,List.map_nil,DataW.agg.injEq,List.cons.injEq,and_true] at hx1
    obtain ⟨rfl,rfl⟩:=hx1
    have h0':DataW.trod (funcToken Tryz.prog) Tryz.prog W 0 sp true n' 9 [c0]=some (.lit (.string s),p0):=by
     simpa [Value.cells,hc1] using h0
    have h1':DataW.trod (funcToken Tryz.prog) Tryz.prog W 0 sp true n' 69 [c1]=some (.held (b::r),p1):=by
     simpa [Value.cells,hc2] using h1
    obtain ⟨s',e1,e2,_⟩:=DataW.trod_string Tryz.underlying9 h0'
    have e3:=func_of_trod Tryz.underlying69 hone h1'
    have e4:s=s'.data.toList:=by
     have:=congrArg Prod.fst e2
     simpa using this
    have e5:c0 = .string s':=by simpa using e1
    rw [e3,e5,e4]
  | _=>simp [Value.formed,Tryz.underlying71] at hf
 cases h
theorem Jk4 {H:Type} {z:Go.Lit × DataW H}:∀ {l:List (Go.Lit × DataW H)},z∈l.foldr DataW.insert [] ↔ z∈l
 | []=>Iff.rfl
 | x::l=>by rw [List.foldr_cons,Go.ChangeMaps.mem_insert_iff,Jk4,List.mem_cons]
theorem J6n:((List.range Tryz.prog.funcs.size).filter fun f=>(Tryz.prog.funcs[f]?).any (·.name.toUTF8.data.toList == [112,97,100,108,111,99,107,47,114,101,99,111,114,100,46,115,104,97,112,101,115,36,49]))=[234]:=by kernel_rfl
theorem J5t:((List.range Tryz.prog.funcs.size).filter fun f=>(Tryz.prog.funcs[f]?).any (·.name.toUTF8.data.toList == [112,97,100,108,111,99,107,47,114,101,99,111,114,100,46,115,104,97,112,101,115,36,50]))=[235]:=by kernel_rfl
theorem J5l:((List.range Tryz.prog.funcs.size).filter fun f=>(Tryz.prog.funcs[f]?).any (·.name.toUTF8.data.toList == [112,97,100,108,111,99,107,47,114,101,99,111,114,100,46,115,104,97,112,101,115,36,51]))=[236]:=by kernel_rfl
theorem J51:((List.range Tryz.prog.funcs.size).filter fun f=>(Tryz.prog.funcs[f]?).any (·.name.toUTF8.data.toList == [112,97,100,108,111,99,107,47,114,101,99,111,114,100,46,115,104,97,112,101,115,36,52]))=[237]:=by kernel_rfl
theorem J52:((List.range Tryz.prog.funcs.size).filter fun f=>(Tryz.prog.funcs[f]?).any (·.name.toUTF8.data.toList == [112,97,100,108,111,99,107,47,114,101,99,111,114,100,46,115,104,97,112,101,115,36,53]))=[238]:=by kernel_rfl
def shapesD:List (Go.Lit × DataW (List UInt8)):=[(.int .i64 1,.agg [.lit (.string [109,111,118,101]),.held [112,97,100,108,111,99,107,47,114,101,99,111,114,100,46,115,104,97,112,101,115,36,49]]),(.int .i64 2,.agg [.lit (.string [104,105,110,116]),.held [112,97,100,108,111,99,107,47,114,101,99,111,114,100,46,115,104,97,112,101,115,36,50]]),(.int .i64 3,.agg [.lit (.string [112,97,117,115,101]),.held [112,97,100,108,111,99,107,47,114,101,99,111,114,100,46,115,104,97,112,101,115,36,51]]),(.int .i64 4,.agg [.lit (.string [114,101,115,117,109,101]),.held [112,97,100,108,111,99,107,47,114,101,99,111,114,100,46,115,104,97,112,101,115,36,52]]),(.int .i64 5,.agg [.lit (.string [115,101,110,115,101]),.held [112,97,100,108,111,99,107,47,114,101,99,111,114,100,46,115,104,97,112,101,115,36,53]])]
theorem Jhp {W:World} (h:funcsAt Tryz.prog W "padlock/record.shapes" (match (Rows.laid_padlock_record_shapes:DataW Unit) with | .iface _ d=>d | d=>d)):∃ m es c,ShpOk W m es c:=by
 obtain ⟨g,t,cs,fuel,p,hg,ht,hv,hd⟩:=h
 obtain rfl:=Option.some.inj ((show Tryz.prog.globalNamed "padlock/record.shapes" = some 0 by kernel_rfl).symm.trans hg)
 obtain rfl:=Option.some.inj ((show (Tryz.prog.globals[0]?).map (·.type)=some 73 by kernel_rfl).symm.trans ht)
 have hd2:DataW.trod (funcToken Tryz.prog) Tryz.prog W 0 (fun _=>true) true fuel 73 cs.toList=some (.map shapesD,p):=hd
 rcases Go.WideElems.open_map mapU hd2 with ⟨_,hx⟩ | ⟨b,es,clock,n,rfl,hcs,hb,_,F,hx⟩
 ·
  cases hx
 have hD:=congrArg Prod.fst hx
 simp only [DataW.map.injEq] at hD
 have hmem:∀ z,z∈shapesD ↔ z∈es.toList.map (Go.WideElems.rg Tryz.prog 3 (Go.WideElems.elemAt (funcToken Tryz.prog) Tryz.prog W 0 (fun _=>true) true n 71)):=fun z=>by rw [hD,Jk4]
 have hone:∀ e∈es.toList,∃ k,inK k=true∧e.key = .int .i64 k∧e.val = .agg #[.string (kwE k),.func (.func (fnE k)) #[] #[]]:=by
  intro e he
  obtain ⟨y,hy⟩:=F.reads e he
  have hyD:=(hmem y).2 (List.mem_map.2 ⟨e,he,Go.WideElems.rg_of hy⟩)
  have hk:=Go.WideElems.rd_key hy
  obtain ⟨z,hz,hyz⟩:=Go.WideElems.rd_val hy
  obtain ⟨z1,z2⟩:=z
  simp only at hyz
  subst hyz
  unfold shapesD at hyD
  simp only [List.mem_cons,List.not_mem_nil,or_false] at hyD
  rcases hyD with rfl | rfl | rfl | rfl | rfl
  ·
   exact ⟨1,rfl,Jfn hk,Jg2 J6n hz⟩
  ·
   exact ⟨2,rfl,Jfn hk,Jg2 J5t hz⟩
  ·
   exact ⟨3,rfl,Jfn hk,Jg2 J5l hz⟩
  ·
   exact ⟨4,rfl,Jfn hk,Jg2 J51 hz⟩
  exact ⟨5,rfl,Jfn hk,Jg2 J52 hz⟩
 refine ⟨b,es.toList,clock,?_,⟨by simpa using hb,F.stamped.1,F.stamped.2.1⟩,hone,?_⟩
 ·
  rw [World.var?_cell hg hv 0]
  have:cs[0]? = cs.toList[0]?:=by simp
  rw [this,hcs]; rfl
 intro k hk
 have hin:∃ d,(Go.Lit.int .i64 k,d)∈shapesD:=by
  rcases Jjb hk with rfl | rfl | rfl | rfl | rfl
  all_goals exact ⟨_,by unfold shapesD; repeat (first | exact List.mem_cons_self | apply List.mem_cons_of_mem)⟩
 obtain ⟨d,hin⟩:=hin
 obtain ⟨e,he,hr⟩:=List.mem_map.1 ((hmem _).1 hin)
 obtain ⟨y,hy⟩:=F.reads e he
 rw [Go.WideElems.rg_of hy] at hr
 subst hr
 exact ⟨e,he,Jfn (Go.WideElems.rd_key hy)⟩
theorem Jlf {W:World} (h:laidMetH Tryz.prog [("padlock/room.reserved", Rows.laid_padlock_room_reserved)] W):∃ g,GOk W g:=by
 rw [MakeChecks.laidMetH_plain _ _ _ (by kernel_rfl)] at h
 obtain ⟨ps,⟨gg,t,cs,fuel,p,q,hg,ht,hv,hd,_,_⟩,_,_⟩:=h
 obtain rfl:=Option.some.inj ((show Tryz.prog.globalNamed "padlock/room.reserved" = some 9 by kernel_rfl).symm.trans hg)
 obtain rfl:=Option.some.inj ((show (Tryz.prog.globals[9]?).map (·.type)=some 34 by kernel_rfl).symm.trans ht)
 have hc:Tryz.prog.cellsOf 9=1:=by kernel_rfl
 obtain ⟨s,e,_⟩:=((Jnn Tryz.underlying34 (by kernel_rfl) (by decide) (J3q Tryz.underlying9)):Rd (fun _=>()) Tryz.prog W 0 false 34 (cSl cStr)) _ _ _ hd
 have e1:cs.toList=[s.v]:=e
 rw [e1] at hd
 have hs:=Jrs Tryz.underlying34 Tryz.underlying9 hc hd (l:=wordL) (sp:=[]) rfl
 refine ⟨⟨s.v,wordL⟩,rfl,fun u hb=>⟨?_,hs.ext hb⟩⟩
 refine Jb9 hb (Nat.le_refl _) ?_
 rw [World.var?_cell hg hv 0]
 have:cs[0]? = cs.toList[0]?:=by simp
 rw [this,e1]; rfl
section
variable {H:Type} {enc:TypeId × Value→H} {w:World} {base:Nat} {held:Bool}
theorem J0b:Rd enc Tryz.prog w base held 51 cMove:=by
 intro fuel cs x h
 obtain ⟨xs,n,_,_,hl,hlen,hf⟩:=DataW.trod_struct Tryz.underlying51 h
 rw [show Tryz.prog.cellsOf 51=3 by kernel_rfl] at hl
 match cs,hl with
 | [c0,c1,c2],_ =>
  match xs,hlen with
  | [y0,y1,y2],_ =>
   have z0:Tryz.prog.cellsOf 3=1:=by kernel_rfl
   have q0:DataW.trod enc Tryz.prog w base (fun _=>true) held n 3 (([c0,c1,c2].drop 0).take (Tryz.prog.cellsOf 3))=[y0,y1,y2][0]?:=hf 0 _ rfl
   rw [z0] at q0
   obtain ⟨a0,e0,r0⟩:=(Jhk Tryz.underlying3) _ _ _ (show DataW.trod enc Tryz.prog w base (fun _=>true) held n 3 [c0]=some y0 from q0)
   have q1:DataW.trod enc Tryz.prog w base (fun _=>true) held n 3 (([c0,c1,c2].drop 1).take (Tryz.prog.cellsOf 3))=[y0,y1,y2][1]?:=hf 1 _ rfl
   rw [z0] at q1
   obtain ⟨a1,e1,r1⟩:=(Jhk Tryz.underlying3) _ _ _ (show DataW.trod enc Tryz.prog w base (fun _=>true) held n 3 [c1]=some y1 from q1)
   have q2:DataW.trod enc Tryz.prog w base (fun _=>true) held n 3 (([c0,c1,c2].drop 2).take (Tryz.prog.cellsOf 3))=[y0,y1,y2][2]?:=hf 2 _ rfl
   rw [z0] at q2
   obtain ⟨a2,e2,r2⟩:=(Jhk Tryz.underlying3) _ _ _ (show DataW.trod enc Tryz.prog w base (fun _=>true) held n 3 [c2]=some y2 from q2)
   obtain rfl:c0=_:=(List.cons.inj e0).1
   obtain rfl:c1=_:=(List.cons.inj e1).1
   obtain rfl:c2=_:=(List.cons.inj e2).1
   exact ⟨⟨a0,a1,a2⟩,rfl,trivial⟩
end
theorem Jpp {P:Program} {w0:World} {laid:List (String × DataW Unit)} (args:Array Value) (hf:w0.layFits P laid []=true) (hi:w0.layIfaces P laid (w0.layVars P laid)=true) :
  laidMet P laid ((w0.layVars P laid).forCall (fun _ _=>0) ⟨#[],args,[]⟩).memory:=by
 have e1:(laid.filter fun x=>(laid.map (·.1)).contains x.1)=laid:=List.filter_eq_self.2 fun x hx=>List.contains_iff_mem.2 (List.mem_map.2 ⟨x,hx,rfl⟩)
 have e2:(laid.filter fun x => !(laid.map (·.1)).contains x.1)=[]:=List.filter_eq_nil_iff.2 fun x hx=>by rw [List.contains_iff_mem.2 (List.mem_map.2 ⟨x,hx,rfl⟩)]; simp
 have h:laidMet P laid (w0.layVars P laid):=laidMet_layVars (w0:=w0) (laid.map (·.1)) [] (by rw [e1]) (by rw [e1]; exact hf) (by rw [e1]; exact hi) (by rw [e2]; exact LaidIn.none)
 exact h.of_heap (by simp [World.memory,World.forCall,Input.heap])
noncomputable def wit (os:Os):World:=(World.doorLaid Tryz.prog 112 os).layVars Tryz.prog [("math/bits.deBruijn32tab", Rows.laid_math_bits_deBruijn32tab),("math/bits.deBruijn64tab", Rows.laid_math_bits_deBruijn64tab),("internal/strconv.uint64pow10", Rows.laid_internal_strconv_uint64pow10),("unicode/utf8.acceptRanges", Rows.laid_unicode_utf8_acceptRanges),("strconv.ErrRange", Rows.laid_strconv_ErrRange),("strconv.ErrSyntax", Rows.laid_strconv_ErrSyntax),("padlock/room.reserved", Rows.laid_padlock_room_reserved),("unicode/utf8.first", Rows.laid_unicode_utf8_first)]
theorem J2v (os:Os):(wit os).os=os:=(World.layVars_os _ _ _).trans rfl
theorem Jpw (os:Os) (args:Array Value):((wit os).forCall (fun _ _=>0) ⟨#[],args,[]⟩).Shaped Tryz.checked.prog:=World.shaped_of_ZipB (by kernel_rfl) (by kernel_rfl)
theorem Jzn (os:Os) (args:Array Value):laidMetH Tryz.prog [("math/bits.deBruijn32tab", Rows.laid_math_bits_deBruijn32tab),("math/bits.deBruijn64tab", Rows.laid_math_bits_deBruijn64tab),("internal/strconv.uint64pow10", Rows.laid_internal_strconv_uint64pow10),("unicode/utf8.acceptRanges", Rows.laid_unicode_utf8_acceptRanges),("strconv.ErrRange", Rows.laid_strconv_ErrRange),("strconv.ErrSyntax", Rows.laid_strconv_ErrSyntax),("padlock/room.reserved", Rows.laid_padlock_room_reserved),("padlock/record.shapes", Rows.laid_padlock_record_shapes),("unicode/utf8.first", Rows.laid_unicode_utf8_first)] ((wit os).forCall (fun _ _=>0) ⟨#[],args,[]⟩).memory :=
 laidMetH_of_parts3 (fuel:=8) (Jpp (laid:=[("math/bits.deBruijn32tab", Rows.laid_math_bits_deBruijn32tab),("math/bits.deBruijn64tab", Rows.laid_math_bits_deBruijn64tab),("internal/strconv.uint64pow10", Rows.laid_internal_strconv_uint64pow10),("unicode/utf8.acceptRanges", Rows.laid_unicode_utf8_acceptRanges),("strconv.ErrRange", Rows.laid_strconv_ErrRange),("strconv.ErrSyntax", Rows.laid_strconv_ErrSyntax),("padlock/room.reserved", Rows.laid_padlock_room_reserved),("unicode/utf8.first", Rows.laid_unicode_utf8_first)]) args (by kernel_rfl) (by kernel_rfl)) (by kernel_rfl) (by kernel_rfl)
theorem Jkw {W:World} (h:laidMetH Tryz.prog [("math/bits.deBruijn32tab", Rows.laid_math_bits_deBruijn32tab),("math/bits.deBruijn64tab", Rows.laid_math_bits_deBruijn64tab),("internal/strconv.uint64pow10", Rows.laid_internal_strconv_uint64pow10),("unicode/utf8.acceptRanges", Rows.laid_unicode_utf8_acceptRanges),("strconv.ErrRange", Rows.laid_strconv_ErrRange),("strconv.ErrSyntax", Rows.laid_strconv_ErrSyntax),("padlock/room.reserved", Rows.laid_padlock_room_reserved),("padlock/record.shapes", Rows.laid_padlock_record_shapes),("unicode/utf8.first", Rows.laid_unicode_utf8_first)] W):∃ g,GOk W g:=Jlf (by
 have h2:=h.filter (fun x=>x.1 == "padlock/room.reserved")
 exact h2)
theorem Jk6 {W:World} (h:laidMetH Tryz.prog [("math/bits.deBruijn32tab", Rows.laid_math_bits_deBruijn32tab),("math/bits.deBruijn64tab", Rows.laid_math_bits_deBruijn64tab),("internal/strconv.uint64pow10", Rows.laid_internal_strconv_uint64pow10),("unicode/utf8.acceptRanges", Rows.laid_unicode_utf8_acceptRanges),("strconv.ErrRange", Rows.laid_strconv_ErrRange),("strconv.ErrSyntax", Rows.laid_strconv_ErrSyntax),("padlock/room.reserved", Rows.laid_padlock_room_reserved),("padlock/record.shapes", Rows.laid_padlock_record_shapes),("unicode/utf8.first", Rows.laid_unicode_utf8_first)] W):Lib.TabIs Tryz.prog W "internal/strconv.uint64pow10" .u64 Lib.pow10Tab:=by
 have h2:=h.filter (fun x=>x.1 == "internal/strconv.uint64pow10")
 have h3:laidMetH Tryz.prog [("internal/strconv.uint64pow10", Lib.tabData .u64 Lib.pow10Tab)] W:=h2
 rw [MakeChecks.laidMetH_plain _ _ _ (by kernel_rfl)] at h3
 exact Lib.tabIs_of_head (g:=2) (t:=195) (e:=162) (n:=20) (by kernel_rfl) (by kernel_rfl) Tryz.underlying195 Tryz.underlying162 (by kernel_rfl) (by kernel_rfl) h3
theorem Jhu {W:World} (h:laidMetH Tryz.prog [("math/bits.deBruijn32tab", Rows.laid_math_bits_deBruijn32tab),("math/bits.deBruijn64tab", Rows.laid_math_bits_deBruijn64tab),("internal/strconv.uint64pow10", Rows.laid_internal_strconv_uint64pow10),("unicode/utf8.acceptRanges", Rows.laid_unicode_utf8_acceptRanges),("strconv.ErrRange", Rows.laid_strconv_ErrRange),("strconv.ErrSyntax", Rows.laid_strconv_ErrSyntax),("padlock/room.reserved", Rows.laid_padlock_room_reserved),("padlock/record.shapes", Rows.laid_padlock_record_shapes),("unicode/utf8.first", Rows.laid_unicode_utf8_first)] W):∃ m es c,ShpOk W m es c:=Jhp (h.funcs (by repeat (first | exact List.mem_cons_self | apply List.mem_cons_of_mem)))
section
variable {H:Type} {enc:TypeId × Value→H} {w:World} {base:Nat} {held:Bool}
theorem Jxj:Rd enc Tryz.prog w base held 56 cEntry:=by
 intro fuel cs x h
 obtain ⟨xs,n,_,_,hl,hlen,hf⟩:=DataW.trod_struct Tryz.underlying56 h
 rw [show Tryz.prog.cellsOf 56=7 by kernel_rfl] at hl
 match cs,hl with
 | [c0,c1,c2,c3,c4,c5,c6],_ =>
  match xs,hlen with
  | [y0,y1,y2,y3,y4],_ =>
   have z0:Tryz.prog.cellsOf 51=3:=by kernel_rfl
   have z1:Tryz.prog.cellsOf 3=1:=by kernel_rfl
   have q0:DataW.trod enc Tryz.prog w base (fun _=>true) held n 3 (([c0,c1,c2,c3,c4,c5,c6].drop 0).take (Tryz.prog.cellsOf 3))=[y0,y1,y2,y3,y4][0]?:=hf 0 _ rfl
   rw [z1] at q0
   obtain ⟨a0,e0,r0⟩:=(Jhk Tryz.underlying3) _ _ _ (show DataW.trod enc Tryz.prog w base (fun _=>true) held n 3 [c0]=some y0 from q0)
   have q1:DataW.trod enc Tryz.prog w base (fun _=>true) held n 3 (([c0,c1,c2,c3,c4,c5,c6].drop 1).take (Tryz.prog.cellsOf 3))=[y0,y1,y2,y3,y4][1]?:=hf 1 _ rfl
   rw [z1] at q1
   obtain ⟨a1,e1,r1⟩:=(Jhk Tryz.underlying3) _ _ _ (show DataW.trod enc Tryz.prog w base (fun _=>true) held n 3 [c1]=some y1 from q1)
   have q2:DataW.trod enc Tryz.prog w base (fun _=>true) held n 51 (([c0,c1,c2,c3,c4,c5,c6].drop 2).take (Tryz.prog.cellsOf 51))=[y0,y1,y2,y3,y4][2]?:=hf 2 _ rfl
   rw [z0] at q2
   obtain ⟨a2,e2,r2⟩:=J0b _ _ _ (show DataW.trod enc Tryz.prog w base (fun _=>true) held n 51 [c2,c3,c4]=some y2 from q2)
   have q3:DataW.trod enc Tryz.prog w base (fun _=>true) held n 3 (([c0,c1,c2,c3,c4,c5,c6].drop 5).take (Tryz.prog.cellsOf 3))=[y0,y1,y2,y3,y4][3]?:=hf 3 _ rfl
   rw [z1] at q3
   obtain ⟨a3,e3,r3⟩:=(Jhk Tryz.underlying3) _ _ _ (show DataW.trod enc Tryz.prog w base (fun _=>true) held n 3 [c5]=some y3 from q3)
   have q4:DataW.trod enc Tryz.prog w base (fun _=>true) held n 3 (([c0,c1,c2,c3,c4,c5,c6].drop 6).take (Tryz.prog.cellsOf 3))=[y0,y1,y2,y3,y4][4]?:=hf 4 _ rfl
   rw [z1] at q4
   obtain ⟨a4,e4,r4⟩:=(Jhk Tryz.underlying3) _ _ _ (show DataW.trod enc Tryz.prog w base (fun _=>true) held n 3 [c6]=some y4 from q4)
   obtain rfl:c0=_:=(List.cons.inj e0).1
   obtain rfl:c1=_:=(List.cons.inj e1).1
   obtain rfl:c2=_:=(List.cons.inj e2).1
   obtain rfl:c3=_:=(List.cons.inj (List.cons.inj e2).2).1
   obtain rfl:c4=_:=(List.cons.inj (List.cons.inj (List.cons.inj e2).2).2).1
   obtain rfl:c5=_:=(List.cons.inj e3).1
   obtain rfl:c6=_:=(List.cons.inj e4).1
   exact ⟨⟨a0,a1,a2,a3,a4⟩,rfl,trivial⟩
end
end Go.Proofs.YtfbfdnoodccgiaaGreatDoor
