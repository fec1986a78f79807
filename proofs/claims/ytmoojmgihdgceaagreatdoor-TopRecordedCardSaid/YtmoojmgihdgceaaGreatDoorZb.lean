/- Merged texts of this proof (walks and plain laws), printed by a program of the prover. -/
import Derived.Test.YtmoojmgihdgceaaGreatDoorZa
import Derived.Lib.ItoaLen
import Derived.Lib.Join
import Derived.Lib.SplitLaws
import Derived.Lib.SlTrimSet
import Derived.Lib.Atoi
import Derived.Lib.AtoiErrMem
import Derived.Lib.SlicesS
import Derived.Lib.IndexLaws
import Derived.Laws.StructEq
import Derived.ChangeKeysEq
import Derived.MapKept
import Derived.WideLaws
import Derived.Lib.AppendStr
import Derived.DefersIn
import Derived.Recover
namespace Go.Proofs.YtmoojmgihdgceaaGreatDoor
set_option linter.unusedVariables false
set_option linter.unusedSimpArgs false
open Go.RowKit Go.Proofs
structure Cel (α:Type) where
 k:Nat
 cells:α→List Value
 ok:World→α→Prop
 len:∀a,(cells a).length=k
 ext:∀(w u:World) (a:α),ok w a→Below w.heap.size w u→ok u a
 one:∀(w:World) (a:α),ok w a→∀v∈cells a,v.oneCell'=true
structure Sl (α:Type) where
 v:Value
 l:List α
instance {α:Type}:Inhabited (Sl α):=⟨⟨.slice none 0 0,[]⟩⟩
section
variable {α:Type} (C:Cel α)
def Ay (l:List α):List Value:=(l.map C.cells).flatten
theorem Bv (l:List α):(Ay C l).length=l.length*C.k:=by
 unfold Ay;rw[LS C.k _ (by intro x hx;obtain⟨a,_,rfl⟩:=List.mem_map.1 hx;exact C.len a),List.length_map]
theorem B6 (l m:List α):Ay C (l++m)=Ay C l++Ay C m:=by simp[Ay]
theorem DU (a:α):Ay C [a]=C.cells a:=by simp[Ay]
theorem BK [Inhabited α] {l:List α} {i:Int} (h0:0≤i) (h1:i<l.length) (j:Nat) (hj:j<C.k):(Ay C l)[i.toNat*C.k+j]? = (C.cells (nth l i))[j]?:=by
 have hc:i.toNat<l.length:=by omega
 unfold Ay;rw[Kt C.k _ (by intro x hx;obtain⟨a,_,rfl⟩:=List.mem_map.1 hx;exact C.len a) _ _ hj];simp[nth,List.getD,hc]
theorem NJ {l:List α} (h:∀a∈l,∀v∈C.cells a,v.oneCell'=true):∀v∈Ay C l,v.oneCell'=true:=fun v hv=>by
 unfold Ay at hv;rw[List.mem_flatten]at hv;obtain⟨x,hx,hv⟩:=hv;obtain⟨a,ha,rfl⟩:=List.mem_map.1 hx;exact h a ha v hv
theorem QE {l:List α} {i j:Nat} {a:α} {v:Value} (hi:i<l.length) (hj:j<C.k) (ha:C.cells a=(C.cells l[i]).set j v):(Ay C l).set (i*C.k+j) v=Ay C (l.set i a):=by
 induction l generalizing i with
 |nil=>simp at hi
 |cons b l ih=>
  cases i with
  |zero=>
   have hb:=C.len b;simp only[Ay,List.map_cons,List.flatten_cons,List.set_cons_zero,Nat.zero_mul,Nat.zero_add]at ha⊢;rw[List.set_append_left _ _ (by omega)];congr 1;exact ha.symm
  |succ i=>
   have hb:=C.len b;have h1:=ih (i:=i) (by simpa using hi) (by simpa using ha);simp only[Ay,List.map_cons,List.flatten_cons,List.set_cons_succ]at h1⊢;rw[←h1,List.set_append_right _ _ (by rw[hb,Nat.succ_mul];omega)];congr 2;rw[hb,Nat.succ_mul];omega
structure SlT (w:World) (s:Sl α):Prop where
 sp:SlC w s.v s.l.length C.k (Ay C s.l)
 el:∀a∈s.l,C.ok w a
end
theorem H2 {α:Type} (C:Cel α) (l:List α) (n:Nat):Ay C (l.take n)=(Ay C l).take (n*C.k):=by
 induction l generalizing n with
 |nil=>simp[Ay]
 |cons a l ih=>
  cases n with
  |zero=>simp[Ay]
  |succ n=>
   have h:=C.len a;have:=ih n;simp only[Ay,List.map_cons,List.flatten_cons,List.take_succ_cons]at this⊢;rw[this,List.take_append,h,Nat.succ_mul,List.take_of_length_le (l:=C.cells a) (by omega)];congr 2;omega
theorem HJ {α:Type} (C:Cel α) (l:List α) (n:Nat):Ay C (l.drop n)=(Ay C l).drop (n*C.k):=by
 induction l generalizing n with
 |nil=>simp[Ay]
 |cons a l ih=>
  cases n with
  |zero=>simp[Ay]
  |succ n=>
   have h:=C.len a;have:=ih n;simp only[Ay,List.map_cons,List.flatten_cons,List.drop_succ_cons]at this⊢;rw[this,List.drop_append,h,Nat.succ_mul,List.drop_of_length_le (l:=C.cells a) (by omega),List.nil_append];congr 1;omega
section
variable {α:Type} {C:Cel α} {w u:World} {s:Sl α}
theorem SlT.ext (h:SlT C w s) (hb:Below w.heap.size w u):SlT C u s:=⟨h.sp.ext hb,fun a ha=>C.ext _ _ a (h.el a ha) hb⟩
theorem SlT.st {w0:World} {L:List SA} (h:SlT C w0 s) (hu:St w0.heap.size w0 L u):SlT C u s:=h.ext hu.below
theorem SlT.le (h:SlT C w s):s.l.length≤9223372036854775807:=h.sp.le
theorem SlT.one (h:SlT C w s):∀v∈Ay C s.l,v.oneCell'=true:=NJ C fun a ha=>C.one w a (h.el a ha)
theorem SlT.at [Inhabited α] (h:SlT C w s) {i:Int} (h0:0≤i) (h1:i<s.l.length):C.ok w (nth s.l i):=h.el _ (Ad h0 h1)
def Sl.cut {α:Type} (k:Nat) (s:Sl α) (lo hi:Nat):Sl α:=⟨sub2 k s.v lo hi,(s.l.drop lo).take (hi-lo)⟩
theorem SlT.cut (h:SlT C w s) {lo hi:Nat} (h0:lo≤hi) (h1:hi≤s.l.length):SlT C w (s.cut C.k lo hi):=by
 have h2:=h.sp.sub2 h0 h1;refine⟨?_,fun a ha=>h.el a (List.mem_of_mem_drop (List.mem_of_mem_take ha))⟩;unfold Sl.cut;simp only;rw[H2,HJ]
 rwa [show((s.l.drop lo).take (hi-lo)).length=hi-lo by simp;omega]
theorem SlT.nil (C:Cel α) (w:World):SlT C w ⟨.slice none 0 0,[]⟩:=⟨⟨by simp[Ay],none,0,rfl,⟨Nat.le_refl 0,by decide⟩,.inl rfl⟩,fun a ha=>by cases ha⟩
end
def cSl {α:Type} (C:Cel α):Cel (Sl α) where
 k:=1
 cells s:=[s.v]
 ok:=SlT C
 len _:=rfl
 ext _ _ _ h hb:=h.ext hb
 one w s h v hv:=by
  simp at hv;subst hv;obtain⟨_,p,cap,e,_⟩:=h.sp;rw[e];rfl
def cInt:Cel Int:=⟨1,fun x=>[.int .i64 x],fun _ _=>True,fun _=>rfl,fun _ _ _ _ _=>trivial,fun _ _ _ v hv=>by simp at hv;subst hv;rfl⟩
def cBool:Cel Bool:=⟨1,fun x=>[.bool x],fun _ _=>True,fun _=>rfl,fun _ _ _ _ _=>trivial,fun _ _ _ v hv=>by simp at hv;subst hv;rfl⟩
def cStr:Cel ByteArray:=⟨1,fun x=>[.string x],fun _ _=>True,fun _=>rfl,fun _ _ _ _ _=>trivial,fun _ _ _ v hv=>by simp at hv;subst hv;rfl⟩
theorem JF (xs:List Int):Ay cInt xs=xs.map (Value.int .i64):=by
 unfold Ay
 induction xs with
 |nil=>rfl
 |cons x xs ih=>rw[List.map_cons,List.flatten_cons,ih];rfl
theorem SlT.ints {w:World} {s:Sl Int} (h:SlT cInt w s):SlI w s.v s.l:=by
 have:=h.sp;rw[JF]at this;exact this
theorem SlI.tree {w:World} {v:Value} {xs:List Int} (h:SlI w v xs):SlT cInt w ⟨v,xs⟩:=⟨by rw[JF];exact h,fun _ _=>trivial⟩
section
variable {P:Program} {ro:Option Nat} {n0:Nat} {w0:World} {ds:List Deferred} {ops:Array Oper} {Q:Exit→Act→World→Prop} {L:List SA}
 {rest:List Oper} {l:List Value} {d:Option Tmp} {ty:TypeId} {ps:String} {af:Array Edge} {g:Option (Nat×Bool)} {D:World→Prop}
 {α:Type} {C:Cel α}
theorem Cy {T e:TypeId} {by_ k:Nat} {x y:Operand} {v:Value} {i:Int} {w:World} {s:Sl α} (hT:sl P T=some (e,k,by_)) (hx:evo l x=some v) (hy:evo l y=some (.int .i64 i))
  (hv:s.v=v) (hk:C.k=k) (hs:SlT C w s) (h0:0≤i) (h1:i<s.l.length):Det P D ⟨d,.indexAddr T x y,ty,ps,af,g⟩ l (.pointer (some (sla v (i.toNat*k)))):=by
 subst hv;exact BN hT hx hy hs.sp h0 h1
theorem E1 {T e:TypeId} {by_ k:Nat} {x y:Operand} {i:Int} {w:World} {s:Sl α} (hT:sl P T=some (e,k,by_)) (hx:evo l x=some s.v) (hy:evo l y=some (.int .i64 i))
  (hs:SlT C w s) (hk:C.k=k) (h0:0≤i) (h1:i<s.l.length):Det P D ⟨d,.indexAddr T x y,ty,ps,af,g⟩ l (.pointer (some (sla s.v (i.toNat*k)))):=Cy hT hx hy rfl hk hs h0 h1
theorem Gs {T e:TypeId} {a b:Nat} {x:Operand} {w:World} {s:Sl α} (hT:sl P T=some (e,a,b)) (hx:evo l x=some s.v) (hs:SlT C w s):
  Det P D ⟨d,.call ⟨.builtin .len,#[x],#[T]⟩,ty,ps,af,g⟩ l (.int .i64 s.l.length):=Bi hT hx hs.sp
variable [Inhabited α]
theorem Vk {T:TypeId} {k:Nat} {x:Operand} {v:Value} {s:Sl α} {i:Int} {cs:List Value} (hx:evo l x=some (.pointer (some (sla v (i.toNat*k))))) (hv:s.v=v) (hk:C.k=k) (hs:SlT C w0 s) (h:0≤i∧i<s.l.length)
  (hc:C.cells (nth s.l i)=cs) (hT:tk P T=some (true,k)):Det P (St w0.heap.size w0 L) ⟨d,.load T x,ty,ps,af,g⟩ l (.agg cs.toArray):=by
 subst hv;subst hk;subst hc;refine Ci hx (fun _ hu=>hs.sp.st hu) (fun j y hy=>?_) (by rw[C.len];exact hT);have hj:j<C.k:=by have:=(List.getElem?_eq_some_iff.1 hy).1;rwa [C.len]at this
 rw[BK C h.1 h.2 j hj];exact hy
theorem CW {T:TypeId} {k z j:Nat} {x:Operand} {v y:Value} {s:Sl α} {i:Int} (hx:evo l x=some (.pointer (some (sla v (i.toNat*k+j))))) (hv:s.v=v) (hk:C.k=k) (hs:SlT C w0 s) (h:0≤i∧i<s.l.length) (hj:j<k)
  (hc:(C.cells (nth s.l i))[j]? = some y) (hT:tk P T=some (false,z)):Det P (St w0.heap.size w0 L) ⟨d,.load T x,ty,ps,af,g⟩ l y:=by
 subst hv;subst hk;exact B7 hx (fun _ hu=>hs.sp.st hu) (by rw[BK C h.1 h.2 j hj];exact hc) hT
theorem Jp {T:TypeId} {z:Nat} {x:Operand} {v y:Value} {s:Sl α} {i:Int} (hx:evo l x=some (.pointer (some (sla v (i.toNat*1))))) (hv:s.v=v) (hk:C.k=1) (hs:SlT C w0 s) (h:0≤i∧i<s.l.length)
  (hc:(C.cells (nth s.l i))[0]? = some y) (hT:tk P T=some (false,z)):Det P (St w0.heap.size w0 L) ⟨d,.load T x,ty,ps,af,g⟩ l y:=CW (j:=0) hx hv hk hs h (by decide) hc hT
theorem PS {T:TypeId} {k:Nat} {x:Operand} {s:Sl α} {i:Int} {cs:List Value} (hx:evo l x=some (.pointer (some (sla s.v (i.toNat*k))))) (hs:SlT C w0 s) (hk:C.k=k) (h:0≤i∧i<s.l.length)
  (hc:C.cells (nth s.l i)=cs) (hT:tk P T=some (true,k)):Det P (St w0.heap.size w0 L) ⟨d,.load T x,ty,ps,af,g⟩ l (.agg cs.toArray):=Vk hx rfl hk hs h hc hT
theorem SP {T:TypeId} {z:Nat} (k j:Nat) {x:Operand} {y:Value} {s:Sl α} {i:Int} (hx:evo l x=some (.pointer (some ⟨slb s.v,slo s.v+i.toNat*k+j,none⟩))) (hs:SlT C w0 s) (hk:C.k=k) (h:0≤i∧i<s.l.length) (hj:j<k)
  (hc:(C.cells (nth s.l i))[j]? = some y) (hT:tk P T=some (false,z)):Det P (St w0.heap.size w0 L) ⟨d,.load T x,ty,ps,af,g⟩ l y:=CW (by rw[hx,sla,Nat.add_assoc]) rfl hk hs h hj hc hT
theorem LM {T:TypeId} {z:Nat} {x:Operand} {y:Value} {s:Sl α} {i:Int} (hx:evo l x=some (.pointer (some (sla s.v (i.toNat*1))))) (hs:SlT C w0 s) (hk:C.k=1) (h:0≤i∧i<s.l.length)
  (hc:(C.cells (nth s.l i))[0]? = some y) (hT:tk P T=some (false,z)):Det P (St w0.heap.size w0 L) ⟨d,.load T x,ty,ps,af,g⟩ l y:=Jp hx rfl hk hs h hc hT
end
section
variable {n0:Nat} {w0:World} {L:List SA} {α:Type}
def roT (C:Cel α) (s:Sl α):SA:=roS fun u=>SlT C u s
theorem Tu {P:Program} {l:List Value} {d:Option Tmp} {ty:TypeId} {ps:String} {af:Array Edge} {g:Option (Nat×Bool)} [Inhabited α] {C:Cel α} {T:TypeId} {k z j jj:Nat} {x:Operand} {v y:Value} {s:Sl α} {i:Int}
  (hj':L[jj]? = some (roT C s)) (hx:evo l x=some (.pointer (some (sla v (i.toNat*k+j))))) (hv:s.v=v) (hk:C.k=k) (h:0≤i∧i<s.l.length) (hj:j<k)
  (hc:(C.cells (nth s.l i))[j]? = some y) (hT:tk P T=some (false,z)):Det P (St n0 w0 L) ⟨d,.load T x,ty,ps,af,g⟩ l y:=by
 subst hv;subst hk;exact B7 hx (fun _ hu=>(St.ro hj' hu).sp) (by rw[BK C h.1 h.2 j hj];exact hc) hT
theorem R7 {P:Program} {l:List Value} {d:Option Tmp} {ty:TypeId} {ps:String} {af:Array Edge} {g:Option (Nat×Bool)} [Inhabited α] {C:Cel α} {T:TypeId} {z jj:Nat} {x:Operand} {v y:Value} {s:Sl α} {i:Int}
  (hj':L[jj]? = some (roT C s)) (hx:evo l x=some (.pointer (some (sla v (i.toNat*1))))) (hv:s.v=v) (hk:C.k=1) (h:0≤i∧i<s.l.length)
  (hc:(C.cells (nth s.l i))[0]? = some y) (hT:tk P T=some (false,z)):Det P (St n0 w0 L) ⟨d,.load T x,ty,ps,af,g⟩ l y:=Tu (j:=0) hj' hx hv hk h (by decide) hc hT
theorem CZ {P:Program} {l:List Value} {d:Option Tmp} {ty:TypeId} {ps:String} {af:Array Edge} {g:Option (Nat×Bool)} [Inhabited α] {C:Cel α} {T:TypeId} {k jj:Nat} {x:Operand} {s:Sl α} {i:Int} {cs:List Value}
  (hj':L[jj]? = some (roT C s)) (hx:evo l x=some (.pointer (some (sla s.v (i.toNat*k))))) (hk:C.k=k) (h:0≤i∧i<s.l.length)
  (hc:C.cells (nth s.l i)=cs) (hT:tk P T=some (true,k)):Det P (St n0 w0 L) ⟨d,.load T x,ty,ps,af,g⟩ l (.agg cs.toArray):=by
 subst hk;subst hc;refine Ci hx (fun _ hu=>(St.ro hj' hu).sp) (fun j y hy=>?_) (by rw[C.len];exact hT);have hj:j<C.k:=by have:=(List.getElem?_eq_some_iff.1 hy).1;rwa [C.len]at this
 rw[BK C h.1 h.2 j hj];exact hy
theorem St.roAnd {p q:World→Prop} {u:World} (h:St n0 w0 (roS p::roS q::L) u):St n0 w0 (roS (fun u=>p u∧q u)::L) u:=by
 obtain⟨h1,h2,T,h3,h4,T',h5,h6,h7⟩:=h;refine⟨h1,h2,fun k=>T k∨T' k,fun k hk=>hk.elim (h3 k) fun h=>(h5 k h).1,⟨fun u' hk=>⟨h4.1 u' fun k hS=>hk k (.inl hS),h6.1 u' fun k hS=>hk k (.inr hS)⟩,fun k hS=>hS.elim (h4.2 k) (h6.2 k)⟩,?_⟩;exact h7.sup fun k hk=>⟨hk.1.1,fun h=>h.elim hk.1.2 hk.2⟩
end
def seq (a b:ByteArray):Bool:=a.toList == b.toList
theorem Is (a b:ByteArray):seq a b=seq b a:=by unfold seq;exact BEq.comm
def byt (s:ByteArray) (i:Int):Int:=match s[i.toNat]? with|some b=>b.toNat|none=>0
section
variable {P:Program} {l:List Value} {d:Option Tmp} {ty:TypeId} {ps:String} {af:Array Edge} {g:Option (Nat×Bool)} {C:World→Prop}
theorem AL {T T':TypeId} {x y:Operand} {a b:ByteArray} (hx:evo l x=some (.string a)) (hy:evo l y=some (.string b)):
  Det P C ⟨d,.binOp .eql T x y T',ty,ps,af,g⟩ l (.bool (seq a b)):=fun u _=>by
 (replace hx:=Am hx;replace hy:=Am hy)
 simp[execOp,Av,hx,hy,eqGuard,binOp,Op.stringOp,seq]
theorem JG {T T':TypeId} {x y:Operand} {a b:ByteArray} (hx:evo l x=some (.string a)) (hy:evo l y=some (.string b)):
  Det P C ⟨d,.binOp .neq T x y T',ty,ps,af,g⟩ l (.bool (!seq a b)):=fun u _=>by
 (replace hx:=Am hx;replace hy:=Am hy)
 simp[execOp,Av,hx,hy,eqGuard,binOp,Op.stringOp,seq]
theorem A2 {T:TypeId} {x:Operand} {a:ByteArray} (hT:P.underlying T=some .string) (hx:evo l x=some (.string a)):
  Det P C ⟨d,.call ⟨.builtin .len,#[x],#[T]⟩,ty,ps,af,g⟩ l (.int .i64 a.size):=fun u _=>by
 (replace hx:=Am hx)
 simp[execOp,Av,hx,resolve,invoke,builtin,Builtin.len_,run_underlying hT,goInt]
theorem B2 {T:TypeId} {x y:Operand} {a:ByteArray} {i:Int} (hT:P.underlying T=some .string) (hx:evo l x=some (.string a)) (hy:evo l y=some (.int .i64 i)) (h0:0≤i) (h1:i<a.size):
  Det P C ⟨d,.index T x y,ty,ps,af,g⟩ l (.int .u8 (byt a i)):=fun u _=>by
 (replace hx:=Am hx;replace hy:=Am hy)
 have hi:i.toNat<a.size:=by omega
 simp[execOp,Av,hx,hy,Instr.index,asIntOf,run_underlying hT,h0,byt,hi]
end
structure Lit where
 t:Int
 s:Int
 nt:Bool
 deriving Inhabited,DecidableEq
structure Put where
 t:Int
 s:Int
 deriving Inhabited,DecidableEq
structure Thing where
 nm:ByteArray
 pl:Int
 st:Int
 sr:Int
 deriving Inhabited
structure Pro where
 nm:ByteArray
 pl:Int
 wh:Sl Lit
 deriving Inhabited
structure Way where
 a:Int
 b:Int
 wh:Sl Lit
 deriving Inhabited
structure Actn where
 nm:ByteArray
 pl:Int
 lk:Int
 us:Sl Int
 wh:Sl Lit
 se:Sl Put
 sp:Sl Int
 br:Sl Int
 deriving Inhabited
structure Auto where
 wh:Sl Lit
 t:Int
 s:Int
 deriving Inhabited
structure Room where
 pls:Sl ByteArray
 ths:Sl Thing
 prs:Sl Pro
 wys:Sl Way
 acs:Sl Actn
 aus:Sl Auto
 ply:Int
 gl:Sl Lit
 deriving Inhabited
abbrev rcl (r:Room):List Value:=[r.pls.v,r.ths.v,r.prs.v,r.wys.v,r.acs.v,r.aus.v,.int .i64 r.ply,r.gl.v ]
structure Move where
 p:Int
 k:Int
 n:Int
 deriving Inhabited,DecidableEq
structure Stt where
 ths:Sl Int
 prs:Sl Int
 pls:Sl Int
 deriving Inhabited
theorem Sl.one {α:Type} {C:Cel α} {w:World} {s:Sl α} (h:SlT C w s):s.v.oneCell'=true:=(cSl C).one w s h s.v (by simp[cSl])
def cLit:Cel Lit:=⟨3,fun a=>[.int .i64 a.t,.int .i64 a.s,.bool a.nt],fun _ _=>True,fun _=>rfl,fun _ _ _ _ _=>trivial,fun _ _ _ v hv=>by simp at hv;rcases hv with rfl|rfl|rfl<;>rfl⟩
def cPut:Cel Put:=⟨2,fun a=>[.int .i64 a.t,.int .i64 a.s],fun _ _=>True,fun _=>rfl,fun _ _ _ _ _=>trivial,fun _ _ _ v hv=>by simp at hv;rcases hv with rfl|rfl<;>rfl⟩
def cMove:Cel Move:=⟨3,fun a=>[.int .i64 a.p,.int .i64 a.k,.int .i64 a.n],fun _ _=>True,fun _=>rfl,fun _ _ _ _ _=>trivial,fun _ _ _ v hv=>by simp at hv;rcases hv with rfl|rfl|rfl<;>rfl⟩
def cThing:Cel Thing:=⟨4,fun a=>[.string a.nm,.int .i64 a.pl,.int .i64 a.st,.int .i64 a.sr],fun _ _=>True,fun _=>rfl,fun _ _ _ _ _=>trivial,fun _ _ _ v hv=>by simp at hv;rcases hv with rfl|rfl|rfl|rfl<;>rfl⟩
def cPro:Cel Pro:=⟨3,fun a=>[.string a.nm,.int .i64 a.pl,a.wh.v],fun w a=>SlT cLit w a.wh,fun _=>rfl,fun _ _ _ h hb=>h.ext hb,fun _ _ h v hv=>by
 simp at hv;rcases hv with rfl|rfl|rfl
 ·rfl
 ·rfl
 exact Sl.one h⟩
def cWay:Cel Way:=⟨3,fun a=>[.int .i64 a.a,.int .i64 a.b,a.wh.v],fun w a=>SlT cLit w a.wh,fun _=>rfl,fun _ _ _ h hb=>h.ext hb,fun _ _ h v hv=>by
 simp at hv;rcases hv with rfl|rfl|rfl
 ·rfl
 ·rfl
 exact Sl.one h⟩
def cAuto:Cel Auto:=⟨3,fun a=>[a.wh.v,.int .i64 a.t,.int .i64 a.s],fun w a=>SlT cLit w a.wh,fun _=>rfl,fun _ _ _ h hb=>h.ext hb,fun _ _ h v hv=>by
 simp at hv;rcases hv with rfl|rfl|rfl
 ·exact Sl.one h
 ·rfl
 rfl⟩
structure ActOk (w:World) (a:Actn):Prop where
 us:SlT cInt w a.us
 wh:SlT cLit w a.wh
 se:SlT cPut w a.se
 sp:SlT cInt w a.sp
 br:SlT cInt w a.br
def cAct:Cel Actn:=⟨8,fun a=>[.string a.nm,.int .i64 a.pl,.int .i64 a.lk,a.us.v,a.wh.v,a.se.v,a.sp.v,a.br.v],ActOk,fun _=>rfl,fun _ _ _ h hb=>⟨h.us.ext hb,h.wh.ext hb,h.se.ext hb,h.sp.ext hb,h.br.ext hb⟩,fun _ _ h v hv=>by
 simp at hv;rcases hv with rfl|rfl|rfl|rfl|rfl|rfl|rfl|rfl
 ·rfl
 ·rfl
 ·rfl
 ·exact Sl.one h.us
 ·exact Sl.one h.wh
 ·exact Sl.one h.se
 ·exact Sl.one h.sp
 exact Sl.one h.br⟩
structure RoomOk (w:World) (r:Room):Prop where
 pls:SlT cStr w r.pls
 ths:SlT cThing w r.ths
 prs:SlT cPro w r.prs
 wys:SlT cWay w r.wys
 acs:SlT cAct w r.acs
 aus:SlT cAuto w r.aus
 gl:SlT cLit w r.gl
theorem RoomOk.ext {w u:World} {r:Room} (h:RoomOk w r) (hb:Below w.heap.size w u):RoomOk u r:=⟨h.pls.ext hb,h.ths.ext hb,h.prs.ext hb,h.wys.ext hb,h.acs.ext hb,h.aus.ext hb,h.gl.ext hb⟩
theorem RoomOk.st {w u:World} {L:List SA} {r:Room} (h:RoomOk w r) (hu:St w.heap.size w L u):RoomOk u r:=h.ext hu.below
def Room.cells (r:Room):List Value:=(rcl r)
structure SttOk (w:World) (s:Stt):Prop where
 ths:SlT cInt w s.ths
 prs:SlT cInt w s.prs
 pls:SlT cInt w s.pls
theorem SttOk.ext {w u:World} {r:Stt} (h:SttOk w r) (hb:Below w.heap.size w u):SttOk u r:=⟨h.ths.ext hb,h.prs.ext hb,h.pls.ext hb⟩
theorem SttOk.st {w u:World} {L:List SA} {r:Stt} (h:SttOk w r) (hu:St w.heap.size w L u):SttOk u r:=h.ext hu.below
def Stt.cells (s:Stt):List Value:=[s.ths.v,s.prs.v,s.pls.v]
def Sl.e {α β:Type} (f:α→β) (s:Sl α):Sl β:=⟨.slice none 0 0,s.l.map f⟩
def Pro.e (p:Pro):Pro:={p with wh:=p.wh.e id}
def Way.e (p:Way):Way:={p with wh:=p.wh.e id}
def Auto.e (p:Auto):Auto:={p with wh:=p.wh.e id}
def Actn.e (p:Actn):Actn:={p with us:=p.us.e id,wh:=p.wh.e id,se:=p.se.e id,sp:=p.sp.e id,br:=p.br.e id}
def Room.e (r:Room):Room:=⟨r.pls.e id,r.ths.e id,r.prs.e Pro.e,r.wys.e Way.e,r.acs.e Actn.e,r.aus.e Auto.e,r.ply,r.gl.e id⟩
def Stt.e (s:Stt):Stt:=⟨s.ths.e id,s.prs.e id,s.pls.e id⟩
def wordL:List ByteArray:=[⟨#[97,116]⟩,⟨#[115,116,97,116,101,115]⟩,⟨#[115,116,97,114,116]⟩,⟨#[103,111,110,101]⟩,⟨#[105,102]⟩,⟨#[108,111,99,107]⟩,⟨#[119,105,116,104]⟩,⟨#[115,101,116,115]⟩,⟨#[115,112,101,110,100,115]⟩,⟨#[98,114,105,110,103,115]⟩]
def lowB (t:ByteArray):Bool:=(List.range t.size).all fun i=>decide (97≤byt t i)&&decide (byt t i≤122)
def BW (t:ByteArray):Bool:=lowB t&&(!(wordL.any fun x=>seq x t)&&!seq t ⟨#[]⟩)
def Bs (t:ByteArray):Bool:=decide ((t.size:Int)≤12)&&BW t
def putB (ths:List Thing) (a b:Int):Bool:=(decide (0≤a)&&decide (a≤ths.length-1))&&(decide (0≤b)&&decide (b≤IntKind.i64.wrap ((nth ths a).st-1)))
def D6 (ths:List Thing) (c:List Lit):Bool:=c.all (fun x=>putB ths x.t x.s)&&decide ((c.length:Int)≤8)
def Bt (ths:List Int) (c:List Lit):Bool:=c.all fun x=>!(decide (nth ths x.t=x.s) == x.nt)
theorem C2 {α:Type} [Inhabited α] {p:α→Bool} {l:List α} {i j:Int} (h0:0≤j) (h1:j<i) (h2:i≤l.length) (h:p (nth l j)=true):(l.take i.toNat).any p=true:=by
 refine List.any_eq_true.2 ⟨nth l j,?_,h⟩;have hj:j.toNat<l.length:=by omega
 rw[List.mem_take_iff_getElem];exact⟨j.toNat,by omega,by simp[nth,List.getD,hj]⟩
theorem Du {α:Type} [Inhabited α] {p:α→Bool} {l:List α} {i:Int} (h:∀j:Int,0≤j→j<i→p (nth l j)=false):(l.take i.toNat).any p=false:=by
 rw[List.any_eq_false];intro x hx;obtain⟨k,hk,rfl⟩:=List.mem_take_iff_getElem.1 hx;have:=h k (by omega) (by omega);have hk2:k<l.length:=by omega
 simpa [nth,List.getD,hk2]using this
theorem Jl {t:ByteArray} (h:∀j:Int,0≤j→j<t.size→97≤byt t j∧byt t j≤122):lowB t=true:=by
 unfold lowB;rw[List.all_eq_true];intro i hi;have:=h i (by omega) (by simp at hi;omega);simp;omega
theorem Lv {t:ByteArray} {i:Int} (h0:0≤i) (h1:i<t.size) (h:¬(97≤byt t i∧byt t i≤122)):lowB t=false:=by
 unfold lowB;rw[List.all_eq_false];refine⟨i.toNat,by simp;omega,?_⟩;rw[show((i.toNat:Nat):Int)=i by omega];simp;omega
theorem Ue {s:Int} (h2:2≤s) (h10:s≤10):∀k:Nat,k≤4→1≤s^k∧s^k≤10^k
 |0,_=>by simp
 |k+1,hk=>by
  have ih:=Ue h2 h10 k (by omega);rw[Int.pow_succ,Int.pow_succ];constructor
  ·calc (1:Int)=1*1:=by omega
    _≤s^k*s:=Int.mul_le_mul ih.1 (by omega) (by omega) (by omega)
  exact Int.mul_le_mul ih.2 h10 (by omega) (by omega)
theorem Vy {s:Int} (h2:2≤s) (h10:s≤10) {k:Nat} (hk:k≤4):1≤s^k∧s^k≤10000:=by
 have h:=Ue h2 h10 k hk
 have h4:(10:Int)^k≤10^4:=by
  rcases(by omega:k=0∨k=1∨k=2∨k=3∨k=4)with rfl|rfl|rfl|rfl|rfl<;>decide
 have:(10:Int)^4=10000:=by decide
 omega
theorem LE {s i:Int} (h:0≤i):s^(i+1).toNat=s^i.toNat*s:=by
 have e:(i+1).toNat=i.toNat+1:=by omega
 rw[e,Int.pow_succ]
structure Fill (k:Nat) (s n i m:Int) (xs:List Int):Prop where
 lo: -1≤i
 hi:i<k
 pos:0≤m∧m≤n
 ex:∃T,xs=List.replicate (i+1).toNat 0++T∧digs k s n=digs (i+1).toNat s m++T
section
variable {k:Nat} {s n i m:Int} {xs:List Int}
theorem Fill.start {w:Int} (hk:(k:Int)=w) (hw:0≤w) (hn:0≤n):Fill k s n (w-1) n (List.replicate w.toNat 0):=by
 subst hk;refine⟨by omega,by omega,⟨hn,Int.le_refl _⟩,[],?_,?_⟩<;>simp
theorem Fill.len (h:Fill k s n i m xs):xs.length=k:=by
 obtain⟨T,h1,h2⟩:=h.ex;have:=congrArg List.length h2;simp[DD]at this;rw[h1];simp;omega
theorem Fill.step (h:Fill k s n i m xs) (h0:0≤i) (hs:2≤s):Fill k s n (i-1) (m/s) (xs.set i.toNat (m%s)):=by
 obtain⟨T,h1,h2⟩:=h.ex;have e:(i+1).toNat=i.toNat+1:=by omega
 have e2:(i-1+1).toNat=i.toNat:=by omega
 have hp:=h.pos;refine⟨by omega,by have:=h.hi;omega,⟨Int.ediv_nonneg hp.1 (by omega),Int.le_trans (Int.ediv_le_self s hp.1) hp.2⟩,m%s::T,?_,?_⟩
 ·rw[h1,e,e2,List.replicate_succ',List.append_assoc];exact KF (by simp)
 rw[h2,e,e2,digs];simp
theorem Fill.end_ (h:Fill k s n i m xs) (hi:i<0):xs=digs k s n:=by
 obtain⟨T,h1,h2⟩:=h.ex;have e:(i+1).toNat=0:=by have:=h.lo;omega
 rw[h1,h2,e];simp[digs]
theorem Fill.bd (h:Fill k s n i m xs) (h0:0≤i):0≤i∧i<xs.length:=by
 have:=h.len;have:=h.hi;omega
end
def DK (w s:Int) (cs:List Clue) (n:Nat):List (List Int):=((allC w s).take n).filter (fitB cs)
section
variable {w s:Int} {cs:List Clue} {n:Nat}
theorem Of (h:n<Ef w s) (hf:fitB cs (CT w s n)=true):DK w s cs (n+1)=DK w s cs n++[CT w s n]:=by
 simp[DK,FB h,List.filter_append,List.filter_cons,hf]
theorem Rq (h:n<Ef w s) (hf:fitB cs (CT w s n)=false):DK w s cs (n+1)=DK w s cs n:=by
 simp[DK,FB h,List.filter_append,List.filter_cons,hf]
theorem NN (h:Ef w s≤n):DK w s cs n=G0 w s cs:=by
 unfold DK;rw[List.take_of_length_le (by rw[IM];exact h)];rfl
theorem NC:(DK w s cs n).length≤n:=by
 have h1:=List.length_filter_le (fitB cs) ((allC w s).take n);have h2:=List.length_take_le n (allC w s);unfold DK;omega
end
theorem VT {α β:Type} {ps:List (α×β)} {L:List β} (h:ps.map (·.2)=L):ps.length=L.length:=by rw[←h];simp
theorem SC {α β:Type} {ps:List (α×β)} {L:List β} {a:α} {x:β} (h:ps.map (·.2)=L):(ps++[(a,x)]).map (·.2)=L++[x]:=by simp[h]
theorem IQ {α:Type} [Inhabited α] {xs ys:List α} (hl:xs.length=ys.length) (h:∀i:Int,0≤i→i<xs.length→nth xs i=nth ys i):xs=ys:=by
 apply List.ext_getElem hl
 intro i h1 h2;have:=h i (by omega) (by omega)
 simpa [nth,List.getD,h1,h2]using this
theorem KL {α β:Type} (ps:List (α×β)) (i:Nat) (a:α) (x:β):(ps.set i (a,x)).map (·.1)=(ps.map (·.1)).set i a:=by rw[List.map_set]
def comN (y x:List Int):Int:=BE y x 10-Bu y x
def Jbd (L:List (List Int)) (x:List Int) (r c:Int):Int:=((L.filter fun y=>decide (Bu y x=r)&&decide (comN y x=c)).length:Int)
def maxL:List Int→Int
 |[]=>0
 |a::l=>max a (maxL l)
def cA (L:List (List Int)) (x y:List Int):Int:=Jbd L x (Bu y x) (comN y x)
def wN (L:List (List Int)) (x:List Int):Int:=maxL (L.map (cA L x))
def Gl (L:List (List Int)):Nat→Nat
 |0=>0
 |i+1=>if i=0 then 0 else if wN L (nth L i)<wN L (nth L (Gl L i))then i else Gl L i
theorem MK (L:List (List Int)):∀i,0<i→Gl L i<i
 |0,h=>by omega
 |i+1,_=>by
  simp only[Gl];split
  ·omega
  split
  ·omega
  have:=MK L i (by omega);omega
structure NextI (L:List (List Int)) (gs:List Value) (i:Int) (v:Value) (m:Int):Prop where
 lo:i=0→v = .slice none 0 0∧m=0
 hi:0<i→v=nth gs (Gl L i.toNat)∧m=wN L (nth L (Gl L i.toNat))
def nilB:Value→Bool
 | .slice none _ _=>true
 |_=>false
theorem Rm {u:World} {v:Value} {xs:List Int} (h:SlI u v xs) (h0:0<xs.length):nilB v=false∧∃p n c,v = .slice p n c:=by
 obtain⟨_,p,cap,rfl,_,h2⟩:=h;rcases h2 with h2|⟨b,o,rfl,_⟩
 ·omega
 exact⟨rfl,_,_,_,rfl⟩
section
variable {L:List (List Int)} {gs:List Value} {i m:Int} {v:Value}
theorem NextI.start:NextI L gs 0 (.slice none 0 0) 0:=⟨fun _=>⟨rfl,rfl⟩,fun h=>by omega⟩
theorem NextI.nil {u:World} {lv:Value} (h:NextI L gs i v m) (hs:SlL u lv L gs) (h0:0≤i) (h1:i≤L.length) (hp:∀j:Int,0≤j→j<L.length→0<(nth L j).length):nilB v=decide (i=0)∧∃p n c,v = .slice p n c:=by
 by_cases hi:i=0
 ·obtain⟨rfl,_⟩:=h.lo hi;exact⟨by simp[hi,nilB],_,_,_,rfl⟩
 obtain⟨rfl,_⟩:=h.hi (by omega);have hb:=MK L i.toNat (by omega);have:=Rm (hs.el (Gl L i.toNat) (by omega) (by omega)) (hp _ (by omega) (by omega));exact⟨by rw[this.1];simp[hi],this.2⟩
theorem NextI.take (h:NextI L gs i v m) (h0:0≤i) (hc:nilB v=true∨wN L (nth L i)<m) (hn:nilB v=decide (i=0)):NextI L gs (i+1) (nth gs i) (wN L (nth L i)):=by
 have e:(i+1).toNat=i.toNat+1:=by omega
 have e2:((i.toNat:Nat):Int)=i:=by omega
 refine⟨fun h=>by omega,fun _=>?_⟩
 have:Gl L (i+1).toNat=i.toNat:=by
  rw[e,Gl]
  by_cases hi:i.toNat=0
  ·rw[if_pos hi,hi]
  rw[if_neg hi,if_pos];have h2:=(h.hi (by omega)).2;rw[hn]at hc;rcases hc with hc|hc
  ·simp at hc;omega
  rw[e2,←h2];exact hc
 rw[this,e2];exact⟨rfl,rfl⟩
theorem NextI.leave (h:NextI L gs i v m) (h0:0≤i) (hc:nilB v=false∧¬wN L (nth L i)<m) (hn:nilB v=decide (i=0)):NextI L gs (i+1) v m:=by
 have e:(i+1).toNat=i.toNat+1:=by omega
 have e2:((i.toNat:Nat):Int)=i:=by omega
 have hi:¬i.toNat=0:=by rw[hn]at hc;simp at hc;omega
 refine⟨fun h=>by omega,fun _=>?_⟩;have h2:=h.hi (by omega)
 have:Gl L (i+1).toNat=Gl L i.toNat:=by
  rw[e,Gl,if_neg hi,if_neg];rw[e2,←h2.2];exact hc.2
 rw[this];exact h2
end
section
variable {P:Program} {ro:Option Nat} {n0:Nat} {w0:World} {ds:List Deferred} {ops:Array Oper} {Q:Exit→Act→World→Prop} {L:List SA}
 {rest:List Oper} {l:List Value} {d:Option Tmp} {ty:TypeId} {ps:String} {af:Array Edge} {g:Option (Nat×Bool)} {C:World→Prop} {u:World}
theorem St.setRow {b j:Nat} {c c':List Value} {e:TypeId} (h:St n0 w0 L u) (hj:L[j]? = some (YtmoojmgihdgceaaGreatDoor.blk b c e)):St n0 w0 (L.set j (YtmoojmgihdgceaaGreatDoor.blk b c' e)) (u.setRow b c'.toArray):=by
 obtain⟨S,hS,⟨hS1,hb⟩,hupd⟩:=h.upd hj;refine hupd _ _ (fun k=>k=b) ⟨rfl,rfl,rfl,by simp,fun k hk=>setRow_other u b k _ (fun e=>by have:=hS b ((hS1 b).2 rfl);omega)⟩ (fun k hk o' hcell=>?_) ⟨fun k=>Iff.rfl,?_⟩ (fun k hk=>by subst hk;exact⟨hS _ ((hS1 _).2 rfl),.inl ((hS1 _).2 rfl)⟩)
 ·rw[setRow_other u b k _ (fun e=>hk.2.2 ((hS1 k).2 e))];exact hcell
 exact setRow_heap u b c.toArray c'.toArray e _ hb
theorem WS.build0 {T e:TypeId} {k by_ i:Nat} {zc:List Value} (hT:sl P T=some (e,k,by_)) (hz:zv P e=some zc)
  {l':Value→List Value} (hl:∀v,lset l i v=some (l' v)) (kk:∀v,WS P ro n0 w0 ds ops Q (osl e k v 0 []::L) rest (l' v)):
  WS P ro n0 w0 ds ops Q L (⟨some i,.buildSlice T 0 #[],ty,ps,af,none⟩::rest) l:=by
 refine WS.world rfl rfl fun u hu=>?_;obtain⟨inf,hu1,hi,hs,hby⟩:=BS hT;unfold zv at hz;rw[hi]at hz;cases hz2:inf.zero with
 |none=>simp[hz2]at hz
 |some zz=>
  refine⟨.slice (some ⟨u.heap.size,0,none⟩) 0 0,u.alloc (.cells #[] e),?_,?_⟩
  ·simp[execOp,Instr.buildSlice,run_underlying hu1,sizeOf,typeInfo,hi,hs,newRow,Instr.fill,zeroValue,hz2];congr 2
   apply Array.ext'
   simp
  rw[Ax,Ag (hl _)];refine kk _ _ (hu.cons (T:=fun k=>k=u.heap.size) ((Below.refl _ u).alloc (Nat.le_refl _) _) ⟨?_,by simp,.inr ⟨u.heap.size,0,#[],rfl,Nat.zero_le _,World.alloc_heap_new u _,Nat.le_refl _,?_,?_,?_⟩⟩ (fun k hk=>by omega))
  ·intro k;simp[Value.ownBlock];exact eq_comm
  ·simp only[maxLen];omega
  ·simp
  simp
theorem ClS.one {w:World} {v:Value} {cs:List Clue} {gs:List Value} (h:ClS w v cs gs):∀g∈gs,g.oneCell'=true:=by
 intro g hg;obtain⟨i,h0,h1,rfl⟩:=Bg hg;obtain⟨_,p,cap,h2,_⟩:=h.el i h0 (by have:=h.len;omega);rw[h2];rfl
theorem Nq {cs cs':List Clue} {gs gs':List Value} (h:gs.length=cs.length):BB cs gs++BB cs' gs'=BB (cs++cs') (gs++gs'):=by
 unfold BB;rw[List.zipWith_append h.symm,List.flatten_append]
end
def HB {α:Type} [Inhabited α] (cs:List α) (ns:List Nat):List α:=ns.map fun k=>cs.getD k default
section
variable {α:Type} [Inhabited α] {cs:List α} {ns ms:List Nat}
theorem JA:(HB cs ns).length=ns.length:=by simp[HB]
end
theorem ClS.pick {u:World} {v v':Value} {cs:List Clue} {gs:List Value} (h:ClS u v cs gs) {ns:List Nat} (hn:∀k∈ns,k<cs.length) (hs:SlC u v' (HB cs ns).length 7 (BB (HB cs ns) (HB gs ns))):ClS u v' (HB cs ns) (HB gs ns):=by
 refine⟨hs,by simp[JA],fun i h0 h1=>?_⟩;rw[JA]at h1;have hlt:i.toNat<ns.length:=by omega
 have hk:=hn _ (List.getElem_mem hlt);have e1:nth (HB cs ns) i=nth cs ((ns[i.toNat]:Nat):Int):=by simp[nth,List.getD,HB,hlt]
 have e2:nth (HB gs ns) i=nth gs ((ns[i.toNat]:Nat):Int):=by simp[nth,List.getD,HB,hlt]
 rw[e1,e2];exact h.el _ (by omega) (by omega)
section
variable {P:Program} {ro:Option Nat} {n0:Nat} {w0:World} {ds:List Deferred} {ops:Array Oper} {Q:Exit→Act→World→Prop} {L:List SA}
 {rest:List Oper} {l:List Value} {d:Option Tmp} {ty:TypeId} {ps:String} {af:Array Edge} {g:Option (Nat×Bool)} {C:World→Prop}
theorem WS.callS {β:Type} {f:Operand} {args:List Operand} {ts:Array TypeId} {fn:FuncId} {cap:List Value} {vs:List Value} {v:β→Value} {L':β→List SA} {p:β→Prop} {i:Nat} {l':β→List Value}
  (hf:evo l f=some (.func (.func fn) #[] cap.toArray)) (hv:evs l args=some vs) (he:Ent P fn)
  (hc:∀u,St n0 w0 L u→Calls P fn (vs++cap).toArray u (fun e u'=>∃x,p x∧e = .returned (v x)∧St n0 w0 (L' x) u'))
  (hl:∀x,lset l i (v x)=some (l' x)) (k:∀x,p x→WS P ro n0 w0 ds ops Q (L' x) rest (l' x)):
  WS P ro n0 w0 ds ops Q L (⟨some i,.call ⟨.value f,args.toArray,ts⟩,ty,ps,af,none⟩::rest) l:=by
 intro u hu;unfold wpListIn;rw[if_pos (by simp[Region.wanted])];refine⟨fun _ _=>trivial,?_⟩;rw[Bk rfl,Bz]
 have hr:(execOp (ev l) ⟨some i,.call ⟨.value f,args.toArray,ts⟩,ty,ps,af,none⟩).run P u = .ok (.enter fn (vs++cap).toArray) u:=by
  have h1:∀(args:Array Value) (w:World),Sem.run P (callFunc fn args) w = .ok (.enter fn args) w:=he;replace hf:=Am hf;replace hv:=F9 hv;subst hv;simp[execOp,hf,resolve,invoke,Deferred.ofValue,h1]
 rw[hr];refine⟨fun h=>by simp[FW]at h,CN ((hc u hu).mono ?_)⟩;rintro e u' ⟨x,hp,rfl,hs⟩;show wpListIn (FW ro) 0 P ops Q rest ((Act.mk l.toArray ds).put (some i) (v x)) u';rw[Ax,Ag (hl x)];exact k x hp u' hs
theorem Jd {x:Operand} {v:Value} {c b:Bool} (hg:c=true) (h:evo l x=some (cond (c&&(b == true)) v undef)):evo l x=some (cond b v undef):=by subst hg;cases b<;>exact h
theorem TF {x:Operand} {v:Value} {c b:Bool} (hg:c=true) (h:evo l x=some (cond (c&&(b == false)) v undef)):evo l x=some (cond (!b) v undef):=by subst hg;cases b<;>exact h
theorem K1 (c:Clue) (g:Value):BB [c] [g]=BF c g:=by simp[BB]
theorem KZ {cs:List Clue} {gs:List Value} (h:gs.length=cs.length) (c:Clue) (g:Value):BB cs gs++BF c g=BB (cs++[c]) (gs++[g]):=by
 rw[←K1,Nq h]
theorem WS.buildC1 {T e:TypeId} {by_ i:Nat} {x:Operand} {c:Clue} {gv:Value} {zc:List Value} (hT:sl P T=some (e,7,by_)) (hz:zv P e=some zc) (hx:evo l x=some (.agg (BF c gv).toArray))
  {l':Value→List Value} (hl:∀v,lset l i v=some (l' v)) (kk:∀v,WS P ro n0 w0 ds ops Q (osl e 7 v 1 (BF c gv)::L) rest (l' v)):
  WS P ro n0 w0 ds ops Q L (⟨some i,.buildSlice T 1 #[(0,x)],ty,ps,af,none⟩::rest) l:=by
 refine WS.buildSliceK (pl:=[(0,x)]) (rows:=[BF c gv]) (k:=7) hT hz (by simp[Am hx]) rfl (by decide) (by decide) (by simp[BF]) hl fun v=>?_;have:=kk v
 simpa using this
theorem WS.appendCl {T e:TypeId} {by_ i j jz:Nat} {x y:Operand} {v z gv:Value} {c:Clue} {cs:List Clue} {gs zc:List Value} (hT:sl P T=some (e,7,by_)) (hz:zv P e=some zc) (hzl:zc.length=7)
  (hx:evo l x=some v) (hj:L[j]? = some (osl e 7 v cs.length (BB cs gs))) (hg:gs.length=cs.length) (hy:evo l y=some z) (hjz:L[jz]? = some (osl e 7 z 1 (BF c gv))) (h1:gv.oneCell'=true)
  (hm:cs.length+1≤9223372036854775807) (hb:(cs.length+1)*by_≤140737488355328)
  {l':Value→List Value} (hl:∀v,lset l i v=some (l' v)) {L':Value→List SA} (hL:∀v',lset L j (osl e 7 v' (cs++[c]).length (BB (cs++[c]) (gs++[gv])))=some (L' v')) (k:∀v',v'.oneCell'=true→WS P ro n0 w0 ds ops Q (L' v') rest (l' v')):
  WS P ro n0 w0 ds ops Q L (⟨some i,.call ⟨.builtin .append,#[x,y],#[T,T]⟩,ty,ps,af,none⟩::rest) l:=by
 refine WS.append hT hz hzl (by decide) hx hj hy (m:=1) (fun u hu=>AX hu hjz) (fun a ha=>?_) hm hb hl (L':=L') (fun v'=>?_) fun v'=>?_
 ·simp only[BF,List.mem_cons,List.not_mem_nil,or_false]at ha;rcases ha with rfl|rfl|rfl|rfl|rfl|rfl|rfl<;>first|rfl|exact h1
 ·rw[←hL v',KZ hg];simp
 have hjl:=(List.getElem?_eq_some_iff.1 hj).1;have h2:=(Ag (hL v')).symm;refine WS.oc (j:=j) (v:=v') (e:=e) (k:=7) (n:=(cs++[c]).length) (xs:=BB (cs++[c]) (gs++[gv])) (by rw[h2,List.getElem?_set_self hjl]) (k v')
theorem SlI.none (u:World):SlI u (.slice none 0 0) []:=⟨by simp,Option.none,0,rfl,by simp,Or.inl rfl⟩
end
def allI (n:Nat) (p:Int→Bool):Bool:=(List.range n).all fun i=>p i
theorem CI {n:Nat} {p:Int→Bool} (h:∀j:Int,0≤j→j<n→p j=true):allI n p=true:=by
 unfold allI;rw[List.all_eq_true];intro i hi;exact h i (by omega) (by have:=List.mem_range.1 hi;omega)
theorem Dp {n:Nat} {p:Int→Bool} {i:Int} (h0:0≤i) (h1:i<n) (h:p i=false):allI n p=false:=by
 unfold allI;rw[List.all_eq_false];refine⟨i.toNat,List.mem_range.2 (by omega),?_⟩;rw[show((i.toNat:Nat):Int)=i by omega,h];simp
theorem Gv {n:Nat} {p:Int→Bool} (h:allI n p=true) {i:Int} (h0:0≤i) (h1:i<n):p i=true:=by
 unfold allI at h;rw[List.all_eq_true]at h;have:=h i.toNat (List.mem_range.2 (by omega))
 rwa [show((i.toNat:Nat):Int)=i by omega]at this
theorem HA {α:Type} [Inhabited α] {l:List α} {p:α→Bool}:l.all p=allI l.length fun i=>p (nth l i):=by
 cases h:allI l.length fun i=>p (nth l i)with
 |true=>
  rw[List.all_eq_true];intro x hx;obtain⟨i,h0,h1,rfl⟩:=Bg hx;exact Gv h h0 h1
 |false=>
  cases h2:l.all p with
  |false=>rfl
  |true=>
   rw[List.all_eq_true]at h2;rw[CI (p:=fun i=>p (nth l i)) fun j h0 h1=>h2 _ (Ad h0 h1)]at h;exact h
def AV (f:Int→Int):Nat→Int
 |0=>0
 |n+1=>if AV f n=0 then f n else AV f n
theorem As {f:Int→Int}:∀{n:Nat},(∀j:Int,0≤j→j<n→f j=0)→AV f n=0
 |0,_=>rfl
 |n+1,h=>by
  have h1:=As (f:=f) (n:=n) fun j h0 h1=>h j h0 (by omega);simp[AV,h1,h n (by omega) (by omega)]
theorem Aq {f:Int→Int} {i:Int}:∀{n:Nat},0≤i→i<n→(∀j:Int,0≤j→j<i→f j=0)→f i≠0→AV f n=f i
 |0,h0,h1,_,_=>by omega
 |n+1,h0,h1,h,hi=>by
  by_cases hn:i=n
  ·subst hn;rw[AV,if_pos (As h)]
  have h2:=Aq (f:=f) (n:=n) h0 (by omega) h hi;rw[AV,h2,if_neg hi]
theorem A9 {f:Int→Int}:∀{n:Nat},AV f n=0→∀i:Int,0≤i→i<n→f i=0
 |0,_,i,h0,h1=>by omega
 |n+1,h,i,h0,h1=>by
  rw[AV]at h;split at h
  ·rename_i h2
   by_cases hn:i=n
   ·subst hn;exact h
   exact A9 h2 i h0 (by omega)
  rename_i h2;exact(h2 h).elim
def or0 (a b:Int):Int:=if a=0 then b else a
theorem Bm {a b:Int} (h:a=0):or0 a b=b:=by simp[or0,h]
theorem Bn {a b c:Int} (h:a=c) (hc:c≠0):or0 a b=c:=by subst h;simp[or0,hc]
theorem BH {a b:Int} (h:or0 a b=0):a=0∧b=0:=by
 unfold or0 at h;split at h
 ·exact⟨by assumption,h⟩
 rename_i h2;exact(h2 h).elim
structure Near (r:Room):Prop where
 pls:r.pls.l.length≤12
 ths:r.ths.l.length≤15
 prs:r.prs.l.length≤14
 wys:r.wys.l.length≤20
 acs:r.acs.l.length≤30
 aus:r.aus.l.length≤15
 gl:r.gl.l.length≤20
 pl:∀x∈r.pls.l,x.size≤100
 th:∀x∈r.ths.l,x.nm.size≤100
 pr:∀x∈r.prs.l,x.nm.size≤100∧x.wh.l.length≤20
 wy:∀x∈r.wys.l,x.wh.l.length≤20
 ac:∀x∈r.acs.l,x.nm.size≤100∧x.wh.l.length≤20∧x.us.l.length≤20∧x.se.l.length≤20∧x.sp.l.length≤20∧x.br.l.length≤20
 au:∀x∈r.aus.l,x.wh.l.length≤20
structure NmB (r:Room):Prop where
 pl:∀x∈r.pls.l,x.size≤70000
 th:∀x∈r.ths.l,x.nm.size≤70000
 pr:∀x∈r.prs.l,x.nm.size≤70000
 ac:∀x∈r.acs.l,x.nm.size≤70000∧True
theorem Near.nm {r:Room} (h:Near r):NmB r:=
 ⟨fun x hx=>Nat.le_trans (h.pl x hx) (by decide),fun x hx=>Nat.le_trans (h.th x hx) (by decide),fun x hx=>Nat.le_trans (h.pr x hx).1 (by decide),fun x hx=>⟨Nat.le_trans (h.ac x hx).1 (by decide),trivial⟩⟩
def placeB (r:Room) (n:Int):Bool:=decide (0≤n)&&decide (n≤r.pls.l.length-1)
def ascB (n:Nat) (l:List Int):Bool:=allI l.length fun i=>(decide (0≤nth l i)&&decide (nth l i≤(n:Int)-1))&&(decide (i=0)||decide (nth l (i-1)<nth l i))
def newB {α:Type} [Inhabited α] (f:α→ByteArray) (l:List α) (i:Int):Bool:=!((l.take i.toNat).any fun x=>seq (f x) (f (nth l i)))
def act2 (r:Room) (a:Actn):Bool:=Bs a.nm&&(placeB r a.pl&&((decide (-1≤a.lk)&&decide (a.lk≤7))&&(ascB r.prs.l.length a.us.l&&(ascB r.prs.l.length a.sp.l&&(ascB r.prs.l.length a.br.l&&decide ((a.se.l.length:Int)≤6))))))
def act3 (a:Actn):Bool:=allI a.sp.l.length fun k=>decide (nth a.sp.l k∈a.us.l)
def act4 (a:Actn):Bool:=allI a.br.l.length fun k=>!decide (nth a.br.l k∈a.us.l)
def act5 (r:Room) (a:Actn):Bool:=allI a.se.l.length fun k=>putB r.ths.l (nth a.se.l k).t (nth a.se.l k).s&&!((a.se.l.take k.toNat).any fun x=>decide (x.t=(nth a.se.l k).t))
def actB (r:Room) (i:Int):Bool:=newB Actn.nm r.acs.l i&&(act2 r (nth r.acs.l i)&&(act3 (nth r.acs.l i)&&(act4 (nth r.acs.l i)&&act5 r (nth r.acs.l i))))
def manyB (r:Room):Bool:=decide ((8:Int)<r.pls.l.length)||(decide ((12:Int)<r.ths.l.length)||(decide ((10:Int)<r.prs.l.length)||(decide ((16:Int)<r.wys.l.length)||(decide ((24:Int)<r.acs.l.length)||decide ((12:Int)<r.aus.l.length)))))
def plO (r:Room) (i:Int):Int:=if(Bs (nth r.pls.l i)&&newB id r.pls.l i)=true then 0 else 22
def thB (r:Room) (x:Thing):Bool:=placeB r x.pl&&((decide (2≤x.st)&&decide (x.st≤6))&&(decide (0≤x.sr)&&decide (x.sr≤x.st-1)))
def thO (r:Room) (i:Int):Int:=if(Bs (nth r.ths.l i).nm&&(newB Thing.nm r.ths.l i&&thB r (nth r.ths.l i)))=true then 0 else 21
def whO (r:Room) (c:List Lit):Int:=if D6 r.ths.l c=true then 0 else 25
def prO (r:Room) (i:Int):Int:=or0 (if(Bs (nth r.prs.l i).nm&&(newB Pro.nm r.prs.l i&&(decide ((nth r.prs.l i).pl = -1)||placeB r (nth r.prs.l i).pl)))=true then 0 else 24) (whO r (nth r.prs.l i).wh.l)
def wyO (r:Room) (i:Int):Int:=or0 (if(placeB r (nth r.wys.l i).a&&(placeB r (nth r.wys.l i).b&&!decide ((nth r.wys.l i).a=(nth r.wys.l i).b)))=true then 0 else 23) (whO r (nth r.wys.l i).wh.l)
def acO (r:Room) (i:Int):Int:=or0 (if actB r i=true then 0 else 26) (whO r (nth r.acs.l i).wh.l)
def auO (r:Room) (i:Int):Int:=or0 (if putB r.ths.l (nth r.aus.l i).t (nth r.aus.l i).s=true then 0 else 27) (whO r (nth r.aus.l i).wh.l)
def glO (r:Room):Int:=or0 (if(decide (1≤r.ply)&&decide (r.ply≤4))=true then 0 else 1) (whO r r.gl.l)
def Gg (r:Room):Int:=or0 (AV (auO r) r.aus.l.length) (glO r)
def Ge (r:Room):Int:=or0 (AV (acO r) r.acs.l.length) (Gg r)
def Gh (r:Room):Int:=or0 (AV (wyO r) r.wys.l.length) (Ge r)
def Gc (r:Room):Int:=or0 (AV (prO r) r.prs.l.length) (Gh r)
def HO (r:Room):Int:=or0 (AV (thO r) r.ths.l.length) (Gc r)
def F6 (r:Room):Int:=or0 (AV (plO r) r.pls.l.length) (HO r)
def checkE (r:Room):Int:=if manyB r=true then 2 else if r.pls.l.length=0 then 22 else F6 r
theorem G9 {r:Room} (h:checkE r=0):manyB r=false∧F6 r=0:=by
 unfold checkE at h;split at h
 ·exact absurd h (by decide)
 rename_i h1;split at h
 ·exact absurd h (by decide)
 exact⟨by simpa using h1,h⟩
theorem Fu {r:Room} (h:checkE r=0):glO r=0:=(BH (BH (BH (BH (BH (BH (G9 h).2).2).2).2).2).2).2
theorem Em {r:Room} (h:checkE r=0):1≤r.ply∧r.ply≤4:=by
 have h1:=(BH (Fu h)).1;simp at h1;omega
def ED (r:Room) (l:List Int) (i:Int):Int:=if putB r.ths.l i (nth l i)=true then 0 else 28
def EQ (r:Room) (l:List Int) (i:Int):Int:=if(placeB r (nth l i)||(decide (nth l i = -1)||(decide (-2-r.ply+1≤nth l i)&&decide (nth l i≤-2))))=true then 0 else 28
def EN (r:Room) (l:List Int) (i:Int):Int:=if placeB r (nth l i)=true then 0 else 28
def stE (r:Room) (ths prs pls:List Int):Int:=if(decide (ths.length=r.ths.l.length)&&(decide (prs.length=r.prs.l.length)&&decide ((pls.length:Int)=r.ply)))=true
 then or0 (AV (ED r ths) ths.length) (or0 (AV (EQ r prs) prs.length) (AV (EN r pls) pls.length))else 28
def CX (r:Room) (z:Stt):Int:=or0 (checkE r) (stE r z.ths.l z.prs.l z.pls.l)
def upd (vs:Nat→Value) (i:Nat) (v:Value):Nat→Value:=fun j=>if j=i then v else vs j
theorem LA {vs:Nat→Value} {i:Nat} {v:Value}:upd vs i v i=v:=by simp[upd]
theorem Qd {vs:Nat→Value} {i j:Nat} {v:Value} (h:j≠i):upd vs i v j=vs j:=by simp[upd,h]
def Nm {α:Type} (l:List α) (d:Nat→Nat) (f:Nat→α):List Nat→Option (List α)
 |[]=>some l
 |i::is=>match Nm l d f is with
  |some r=>lset r (d i) (f i)
  |none=>none
theorem F0 {α:Type} {l:List α} {d:Nat→Nat} {f:Nat→α}:∀{is:List Nat} {r:List α},Nm l d f is=some r→is.Nodup→(∀i∈is,∀k∈is,d i=d k→i=k)→
  r.length=l.length∧(∀k,(∀i∈is,d i≠k)→r[k]? = l[k]?)∧∀i∈is,d i<l.length→r[d i]? = some (f i)
 |[],r,h,_,_=>by simp[Nm]at h;subst h;exact⟨rfl,fun _ _=>rfl,fun i hi=>by simp at hi⟩
 |i::is,r,h,hn,hd=>by
  unfold Nm at h;split at h
  ·rename_i r1 h1;have h2:=Ag h;subst h2;rw[List.nodup_cons]at hn;obtain⟨e1,e2,e3⟩:=F0 h1 hn.2 fun a ha b hb e=>hd a (List.mem_cons_of_mem _ ha) b (List.mem_cons_of_mem _ hb) e;refine⟨by simpa using e1,fun k hk=>?_,fun j hj hlt=>?_⟩
   ·rw[List.getElem?_set_ne (hk i List.mem_cons_self)];exact e2 k fun a ha=>hk a (List.mem_cons_of_mem _ ha)
   by_cases hji:j=i
   ·subst hji;rw[List.getElem?_set_self (by omega)]
   rcases List.mem_cons.1 hj with hj'|hj'
   ·exact(hji hj').elim
   rw[List.getElem?_set_ne (fun e=>hji (hd i List.mem_cons_self j hj e).symm)];exact e3 j hj' hlt
  cases h
def live (is:List Nat) (R:Nat→Value→List SA) (vs:Nat→Value) (p:Nat→Bool):List SA:=is.flatMap fun j=>if p j=true then R j (vs j)else[]
theorem Cm {is:List Nat} {R:Nat→Value→List SA} {vs vs':Nat→Value} {p p':Nat→Bool} (h:∀j∈is,p j=p' j∧(p j=true→vs j=vs' j)):live is R vs p=live is R vs' p':=by
 induction is with
 |nil=>rfl
 |cons a is ih=>
  have h1:=h a List.mem_cons_self;have h2:=ih fun j hj=>h j (List.mem_cons_of_mem _ hj);simp only[live,List.flatMap_cons]at h2⊢;rw[h2,←h1.1];congr 1;split
  ·rename_i hp;rw[h1.2 hp]
  rfl
theorem HK (is:List Nat) (R:Nat→Value→List SA) (vs:Nat→Value) (p q:Nat→Bool):(live is R vs p).Perm (live is R vs (fun j=>p j&&q j)++live is R vs (fun j=>p j&&!q j)):=by
 induction is with
 |nil=>exact List.Perm.refl _
 |cons a is ih=>
  simp only[live,List.flatMap_cons]at ih⊢
  by_cases hp:p a=true
  ·by_cases hq:q a=true
   ·simpa [hp,hq,List.append_assoc]using List.Perm.append_left (R a (vs a)) ih
   simp only[hp,hq,if_true,Bool.and_false,Bool.false_eq_true,if_false,List.nil_append,Bool.true_and,Bool.not_false];refine(List.Perm.append_left _ ih).trans ?_;rw[←List.append_assoc,←List.append_assoc];exact List.Perm.append_right _ List.perm_append_comm
  simpa [hp]using ih
theorem IW {R:Nat→Value→List SA} {vs:Nat→Value}:∀{is:List Nat},live is R vs (fun _=>false)=[]
 |[]=>rfl
 |a::is=>by
  have:=IW (R:=R) (vs:=vs) (is:=is);simp only[live,List.flatMap_cons]at this⊢;rw[this];simp
theorem Iq {R:Nat→Value→List SA} {vs:Nat→Value} {c:Nat}:∀{is:List Nat},is.Nodup→c∈is→live is R vs (fun j=>decide (j=c))=R c (vs c)
 |[],_,h=>by simp at h
 |a::is,hn,h=>by
  rw[List.nodup_cons]at hn;simp only[live,List.flatMap_cons]
  by_cases hac:a=c
  ·subst hac;have:live is R vs (fun j=>decide (j=a))=live is R vs fun _=>false:=Cm fun j hj=>⟨by simp;rintro rfl;exact hn.1 hj,fun _=>rfl⟩;simp only[live]at this;rw[this];simp
  have hc:c∈is:=by rcases List.mem_cons.1 h with e|e;exact(hac e.symm).elim;exact e
  have:=Iq (R:=R) (vs:=vs) hn.2 hc;simp only[live]at this;rw[this];simp[hac]
theorem Ly {p:Nat→Bool} {i:Nat}:∀{is:List Nat},is.Nodup→i∈is→p i=true→(is.filter p).length=(is.filter fun k=>p k&&!decide (k=i)).length+1
 |[],_,h,_=>by simp at h
 |a::is,hn,h,hp=>by
  rw[List.nodup_cons]at hn
  by_cases hai:a=i
  ·subst hai
   have:is.filter p=is.filter fun k=>p k&&!decide (k=a):=List.filter_congr fun k hk=>by
    have:k≠a:=by rintro rfl;exact hn.1 hk
    simp[this]
   simp[List.filter_cons,hp,this]
  have hi:i∈is:=by rcases List.mem_cons.1 h with e|e;exact(hai e.symm).elim;exact e
  have ih:=Ly hn.2 hi hp;simp only[List.filter_cons,hai,decide_false,Bool.not_false,Bool.and_true];cases hpa:p a with
  |true=>simp[ih]
  |false=>simpa using ih
def J9 (ops:Array Oper) (bl:List Bool) (is:List Nat) (d:Nat→Nat) (dep:Nat→List Nat) (cs:Nat→Option Nat) (n:Nat):Bool:=
 (is.all fun i=>bl[i]? == some false&&(match ops[i]? with
  |some o=>o.dst == some (d i)&&decide (d i<n)&&((dep i).all fun j=>is.contains j&&o.after.toList.any fun e=>Region.binds .any e&&e.on == j)&&
    (o.after.toList.all fun e=>!Region.binds .any e||(is.contains e.on&&decide (e.on<i))||bl[e.on]? == some true)
  |none=>false)&&(match cs i with|some c=>(dep i).contains c|none=>true)&&is.all fun k=>k == i||(!(d k == d i)&&!((cs i).isSome&&cs k == cs i)))&&
 (List.range bl.length).all fun k=>is.contains k||bl[k]? == some true||(match ops[k]? with
  |some o=>is.all fun i=>o.after.toList.any fun e=>Region.binds .any e&&e.on == i
  |none=>false)
structure ManyAt (ops:Array Oper) (bl:List Bool) (is:List Nat) (d:Nat→Nat) (dep:Nat→List Nat) (cs:Nat→Option Nat) (n i:Nat) (o:Oper):Prop where
 op:ops[i]? = some o
 un:bl[i]? = some false
 dst:o.dst=some (d i)
 lt:d i<n
 deps:∀j∈dep i,j∈is∧∃e∈o.after,Region.binds .any e=true∧e.on=j
 aft:∀e∈o.after,Region.binds .any e=true→(e.on∈is∧e.on<i)∨bl[e.on]? = some true
 csd:∀c,cs i=some c→c∈dep i
 inj:∀k∈is,k≠i→d k≠d i∧(∀c,cs i=some c→cs k≠some c)
theorem BV {ops:Array Oper} {bl:List Bool} {is:List Nat} {d:Nat→Nat} {dep:Nat→List Nat} {cs:Nat→Option Nat} {n:Nat} (h:J9 ops bl is d dep cs n=true) {i:Nat} (hi:i∈is):∃o,ManyAt ops bl is d dep cs n i o:=by
 unfold J9 at h;rw[Bool.and_eq_true,List.all_eq_true]at h;have h1:=h.1 i hi;cases ho:ops[i]? with
 |none=>simp[ho]at h1
 |some o=>
  simp only[ho,Bool.and_eq_true,List.all_eq_true,beq_iff_eq,decide_eq_true_eq,List.contains_iff_mem,List.any_eq_true,Bool.or_eq_true,Bool.not_eq_true']at h1;obtain⟨⟨⟨h1,⟨⟨h2,h3⟩,h4⟩,h5⟩,h6⟩,h7⟩:=h1;refine⟨o,ho,h1,h2,h3,fun j hj=>?_,fun e he hb=>?_,fun c hc=>?_,fun k hk hki=>?_⟩
  ·obtain⟨a,e,he,hb,hj⟩:=h4 j hj;exact⟨a,e,by simpa using he,hb,hj⟩
  ·rcases h5 e (by simpa using he)with(h|h)|h
   ·rw[hb]at h;cases h
   ·exact .inl h
   exact .inr h
  ·rw[hc]at h6;simpa using h6
  rcases h7 k hk with h|h
  ·exact(hki h).elim
  refine⟨by simpa using h.1,fun c hc hck=>?_⟩;have:=h.2;rw[hc,hck]at this;simp at this
theorem M7 {ops:Array Oper} {bl:List Bool} {is:List Nat} {d:Nat→Nat} {dep:Nat→List Nat} {cs:Nat→Option Nat} {n:Nat} (h:J9 ops bl is d dep cs n=true) {k:Nat} (hk:k∉is) (hb:bl[k]? = some false) {o:Oper} (ho:ops[k]? = some o) {i:Nat} (hi:i∈is):
  ∃e∈o.after,Region.binds .any e=true∧e.on=i:=by
 unfold J9 at h;rw[Bool.and_eq_true,List.all_eq_true,List.all_eq_true]at h;have hlt:k<bl.length:=(List.getElem?_eq_some_iff.1 hb).1;have h1:=h.2 k (List.mem_range.2 hlt);simp only[ho,Bool.or_eq_true,List.contains_iff_mem,hk,hb,false_or,List.all_eq_true,List.any_eq_true,Bool.and_eq_true,beq_iff_eq]at h1;rcases h1 with h1|h1
 ·cases h1
 obtain⟨e,he,hb,hj⟩:=h1 i hi;exact⟨e,by simpa using he,hb,hj⟩
section
variable {P:Program} {ro:Option Nat} {n0:Nat} {w0:World} {ds:List Deferred} {ops:Array Oper} {Q:Exit→Act→World→Prop} {L:List SA} {l:List Value} {C:World→Prop}
theorem St.sel0 {u:World} (A:List SA) (h:St n0 w0 (A++L) u):St n0 w0 L u:=St.sub (List.sublist_append_right _ _) h
def He (is:List Nat) (cs:Nat→Option Nat) (b:Nat→Bool) (j:Nat):Bool:=b j&&!(is.any fun i=>b i&&decide (cs i=some j))
structure ManyInv (n0:Nat) (w0:World) (L:List SA) (l:List Value) (bl:List Bool) (is:List Nat) (d:Nat→Nat) (dep:Nat→List Nat) (cs:Nat→Option Nat) (R:Nat→Value→List SA) (V:Nat→(Nat→Value)→Prop)
  (bl':List Bool) (l':List Value) (vs:Nat→Value) (u:World):Prop where
 bn:bl'.length=bl.length
 bo:∀k,k∉is→bl'[k]? = bl[k]?
 bi:∀k∈is,bl'[k]? = some true∨bl'[k]? = some false
 ln:l'.length=l.length
 lo:∀k,(∀j∈is,d j≠k)→l'[k]? = l[k]?
 li:∀j∈is,bl'[j]? = some true→l'[d j]? = some (vs j)∧V j vs∧∀k∈dep j,bl'[k]? = some true
 st:St n0 w0 (live is R vs (He is cs fun j=>decide (bl'[j]? = some true))++L) u
def Th (P:Program) (ro:Option Nat) (n0:Nat) (w0:World) (ds:List Deferred) (ops:Array Oper) (L:List SA) (l:List Value) (is:List Nat) (d:Nat→Nat) (dep:Nat→List Nat) (cs:Nat→Option Nat) (R:Nat→Value→List SA) (V:Nat→(Nat→Value)→Prop) (i:Nat) (o:Oper):Prop:=
 ∀(Q:Exit→Act→World→Prop) (vs:Nat→Value) (l':List Value) (M:List SA),l'.length=l.length→(∀j∈dep i,l'[d j]? = some (vs j)∧V j vs)→(∀k,(∀j∈is,d j≠k)→l'[k]? = l[k]?)→
  (∀v,V i (upd vs i v)→QS n0 w0 ds Q .normal (R i v++M) (l'.set (d i) v))→WS P ro n0 w0 ds ops Q ((match cs i with|some c=>R c (vs c)|none=>[])++M) [o] l'
theorem AS.many {bl be:List Bool} {fuel nn:Nat} {le:(Nat→Value)→List Value} {L':(Nat→Value)→List SA} (is:List Nat) (d:Nat→Nat) (dep:Nat→List Nat) (cs:Nat→Option Nat) (R:Nat→Value→List SA) (V:Nat→(Nat→Value)→Prop)
  (hok:J9 ops bl is d dep cs l.length=true) (hnd:is.Nodup) (hnn:is.length=nn) (hbe:Nm bl id (fun _=>true) is=some be) (hC:∀u,St n0 w0 L u→C u)
  (hV:∀i∈is,∀vs vs',(∀j∈i::dep i,vs j=vs' j)→V i vs→V i vs')
  (hle:∀vs,Nm l d vs is=some (le vs)) (hL':∀vs,live is R vs (fun j=>!(is.any fun i=>decide (cs i=some j)))++L=L' vs)
  (step:∀i∈is,∀o,ops[i]? = some o→Th P ro n0 w0 ds ops L l is d dep cs R V i o)
  (fin:∀vs,(∀i∈is,V i vs)→AS P ro n0 w0 ds ops Q C (L' vs) fuel be (le vs)):
  AS P ro n0 w0 ds ops Q C L (fuel+nn) bl l:=by
 subst hnn
 have hdj:∀i∈is,∀k∈is,d i=d k→i=k:=fun i hi k hk e=>by
  by_cases hki:k=i
  ·exact hki.symm
  obtain⟨o,ho⟩:=BV hok hi;exact((ho.inj k hk hki).1 e.symm).elim
 have main:∀(n:Nat) (bl':List Bool) (l':List Value) (vs:Nat→Value) (u:World),ManyInv n0 w0 L l bl is d dep cs R V bl' l' vs u→(is.filter fun k=>decide (bl'[k]? = some false)).length=n→
   AH P ro ops (NP ops Q) C (fuel+n) bl'.toArray ⟨l'.toArray,ds⟩ u:=by
  intro n
  induction n with
  |zero=>
   intro bl' l' vs u hI hn
   have hall:∀k∈is,bl'[k]? = some true:=fun k hk=>by
    rcases hI.bi k hk with h|h
    ·exact h
    have:=List.filter_eq_nil_iff.1 (List.length_eq_zero_iff.1 hn) k hk;simp[h]at this
   have e1:bl'=be:=by
    obtain⟨q1,q2,q3⟩:=F0 hbe hnd fun a _ b _ e=>e
    apply List.ext_getElem?
    intro k
    by_cases hk:k∈is
    ·have hlt:k<bl.length:=by
      have:=(List.getElem?_eq_some_iff.1 (hall k hk)).1;rw[hI.bn]at this;exact this
     rw[hall k hk];exact(q3 k hk hlt).symm
    rw[hI.bo k hk,q2 k fun i hi e=>hk (by simp at e;rw[←e];exact hi)]
   have e2:l'=le vs:=by
    obtain⟨q1,q2,q3⟩:=F0 (hle vs) hnd hdj
    apply List.ext_getElem?
    intro k
    by_cases hk:∃j∈is,d j=k
    ·obtain⟨j,hj,rfl⟩:=hk;obtain⟨o,ho⟩:=BV hok hj;rw[(hI.li j hj (hall j hj)).1,q3 j hj ho.lt]
    have hk':∀j∈is,d j≠k:=fun j hj e=>hk ⟨j,hj,e⟩;rw[hI.lo k hk',q2 k hk']
   subst e1 e2;refine fin vs (fun i hi=>(hI.li i hi (hall i hi)).2.1) u ?_;rw[←hL' vs]
   have:live is R vs (He is cs fun j=>decide (bl'[j]? = some true))=live is R vs (fun j=>!(is.any fun i=>decide (cs i=some j))):=Cm fun j hj=>by
    refine⟨?_,fun _=>rfl⟩;simp only[He];rw[decide_eq_true (hall j hj),Bool.true_and];congr 1
    have:∀(ks:List Nat),(∀k∈ks,k∈is)→(ks.any fun i=>decide (bl'[i]? = some true)&&decide (cs i=some j))=ks.any fun i=>decide (cs i=some j):=fun ks=>by
     induction ks with
     |nil=>intro _;rfl
     |cons a ks ih=>intro h;simp only[List.any_cons];rw[ih fun k hk=>h k (List.mem_cons_of_mem _ hk),decide_eq_true (hall a (h a List.mem_cons_self)),Bool.true_and]
    exact this is fun _ h=>h
   rw[←this];exact hI.st
  |succ n ih=>
   intro bl' l' vs u hI hn u' hu';have hI':ManyInv n0 w0 L l bl is d dep cs R V bl' l' vs u':={hI with st:=hI.st.ext hu'}
   have hex:∃k,k∈is∧bl'[k]? = some false:=by
    cases hf:is.filter fun k=>decide (bl'[k]? = some false)with
    |nil=>rw[hf]at hn;simp at hn
    |cons a r=>
     have:a∈is.filter fun k=>decide (bl'[k]? = some false):=by rw[hf];exact List.mem_cons_self
     rw[List.mem_filter]at this;exact⟨a,this.1,by simpa using this.2⟩
   obtain⟨m,⟨hm,hmf⟩,hmin⟩:=TT hex
   have hgd:∀k,bl'.toArray.getD k true=false↔bl'[k]? = some false:=fun k=>by
    cases h:bl'[k]? with
    |none=>simp[Array.getD_eq_getD_getElem?,h]
    |some x=>simp[Array.getD_eq_getD_getElem?,h]
   have hgt:∀k,bl'.toArray.getD k false=true↔bl'[k]? = some true:=fun k=>by
    cases h:bl'[k]? with
    |none=>simp[Array.getD_eq_getD_getElem?,h]
    |some x=>simp[Array.getD_eq_getD_getElem?,h]
   have hnin:∀{k:Nat},bl[k]? = some true→bl'[k]? = some true:=fun{k} hk=>by
    by_cases hki:k∈is
    ·obtain⟨o,ho⟩:=BV hok hki;rw[ho.un]at hk;cases hk
    rw[hI.bo k hki];exact hk
   refine⟨hC _ (hI'.st.sel0 _),fun h0=>?_,fun i hi=>?_⟩
   ·exfalso;obtain⟨o,ho⟩:=BV hok hm
    have:m∈Region.ready .any ops bl'.toArray:=mem_ready.2 ⟨(hgd m).2 hmf,o,ho.op,fun e he hb=>(hgt _).2 (by
     rcases ho.aft e he hb with⟨h1,h2⟩|h1
     ·rcases hI.bi _ h1 with h|h
      ·exact h
      have:=hmin _ ⟨h1,h⟩;omega
     exact hnin h1)⟩
    rw[h0]at this;cases this
   obtain⟨hun,o,ho,hall⟩:=mem_ready.1 hi;have hif:bl'[i]? = some false:=(hgd i).1 hun
   have hin:i∈is:=by
    by_cases hin:i∈is
    ·exact hin
    exfalso;obtain⟨e,he,hb,hj⟩:=M7 hok hin (by rw[←hI.bo i hin];exact hif) ho hm;have:=(hgt _).1 (hall e he hb);rw[hj,hmf]at this;cases this
   obtain⟨o',hM⟩:=BV hok hin;obtain rfl:o=o':=by have:=hM.op;rw[ho]at this;exact Option.some.inj this
   have hdep:∀j∈dep i,j∈is∧bl'[j]? = some true:=fun j hj=>by
    obtain⟨h1,e,he,hb,hj'⟩:=hM.deps j hj;exact⟨h1,by rw[←hj'];exact(hgt _).1 (hall e he hb)⟩
   let p:Nat→Bool:=He is cs fun j=>decide (bl'[j]? = some true)
   have hno:∀k∈is,bl'[k]? = some true→i∉dep k:=fun k hk hkt hik=>by
    have:=(hI.li k hk hkt).2.2 i hik;rw[hif]at this;cases this
   have hpi:p i=false:=by simp[p,He,hif]
   let q:Nat→Bool:=fun j=>decide (cs i=some j)
   have hpc:∀c,cs i=some c→p c=true:=fun c hc=>by
    have hcd:=hdep c (hM.csd c hc);simp only[p,He,hcd.2,decide_true,Bool.true_and,Bool.not_eq_true',List.any_eq_false,Bool.and_eq_true,decide_eq_true_eq,not_and];intro k hk hkt hck
    by_cases hki:k=i
    ·subst hki;rw[hif]at hkt;cases hkt
    exact(hM.inj k hk hki).2 c hc hck
   have e1:live is R vs (fun j=>p j&&q j)=(match cs i with|some c=>R c (vs c)|none=>[]):=by
    cases hc:cs i with
    |none=>
     have:live is R vs (fun j=>p j&&q j)=live is R vs fun _=>false:=Cm fun j _=>⟨by simp[q,hc],fun _=>rfl⟩;rw[this,IW]
    |some c=>
     have:live is R vs (fun j=>p j&&q j)=live is R vs fun j=>decide (j=c):=Cm fun j _=>⟨by
      by_cases hjc:j=c
      ·subst hjc;simp[q,hc,hpc j hc]
      simp[q,hc,hjc,Ne.symm hjc],fun _=>rfl⟩
     rw[this,Iq hnd (hdep c (hM.csd c hc)).1]
   have hst1:St n0 w0 ((match cs i with|some c=>R c (vs c)|none=>[])++(live is R vs (fun j=>p j&&!q j)++L)) u':=by
    rw[←e1,←List.append_assoc];exact hI'.st.perm (List.Perm.append_right _ (HK is R vs p q))
   have hW:=step i hin o ho (Exit.then (AH P ro ops (NP ops Q) C (fuel+n) (bl'.set i true).toArray) (NP ops Q)) vs l' (live is R vs (fun j=>p j&&!q j)++L) hI.ln (fun j hj=>by
     have:=hI.li j (hdep j hj).1 (hdep j hj).2
     exact⟨this.1,this.2.1⟩) hI.lo (fun v hv=>by
    intro u2 hu2;refine ih (bl'.set i true) (l'.set (d i) v) (upd vs i v) u2 ?_ ?_
    ·have hilt:i<bl'.length:=(List.getElem?_eq_some_iff.1 hif).1
     have hbs:∀k,(bl'.set i true)[k]? = some true↔(k=i∨bl'[k]? = some true):=fun k=>by
      by_cases hk:k=i
      ·subst hk;simp[hilt]
      rw[List.getElem?_set_ne (Ne.symm hk)];simp[hk]
     refine⟨by simpa using hI.bn,fun k hk=>?_,fun k hk=>?_,by simpa using hI.ln,fun k hk=>?_,fun j hj hjt=>?_,?_⟩
     ·rw[List.getElem?_set_ne (by rintro rfl;exact hk hin)];exact hI.bo k hk
     ·by_cases hki:k=i
      ·subst hki;exact .inl ((hbs k).2 (.inl rfl))
      rw[List.getElem?_set_ne (Ne.symm hki)];exact hI.bi k hk
     ·rw[List.getElem?_set_ne (hk i hin)];exact hI.lo k hk
     ·by_cases hji:j=i
      ·subst hji;refine⟨by rw[List.getElem?_set_self (by rw[hI.ln];exact hM.lt),LA],hv,fun k hk=>(hbs k).2 (.inr (hdep k hk).2)⟩
      have hjt':bl'[j]? = some true:=by rcases(hbs j).1 hjt with h|h;exact(hji h).elim;exact h
      obtain⟨a1,a2,a3⟩:=hI.li j hj hjt';refine⟨by rw[List.getElem?_set_ne (Ne.symm (hM.inj j hj hji).1),Qd hji];exact a1,?_,fun k hk=>(hbs k).2 (.inr (a3 k hk))⟩;refine hV j hj vs _ (fun k hk=>?_) a2;rw[Qd];rintro rfl;rcases List.mem_cons.1 hk with h|h
      ·exact hji h.symm
      exact hno j hj hjt' h
     let p':Nat→Bool:=He is cs fun j=>decide ((bl'.set i true)[j]? = some true)
     have hp'i:p' i=true:=by
      simp only[p',He,(hbs i).2 (.inl rfl),decide_true,Bool.true_and,Bool.not_eq_true',List.any_eq_false,Bool.and_eq_true,decide_eq_true_eq,not_and];intro k hk hkt hck;obtain⟨ok,hok'⟩:=BV hok hk;have hid:=hok'.csd i hck;rcases(hbs k).1 hkt with h|h
      ·subst h;have:=(hdep k hid).2;rw[hif]at this;cases this
      exact hno k hk h hid
     have e2:live is R (upd vs i v) (fun j=>p' j&&decide (j=i))=R i v:=by
      have:live is R (upd vs i v) (fun j=>p' j&&decide (j=i))=live is R (upd vs i v) fun j=>decide (j=i):=Cm fun j _=>⟨by
       by_cases hj:j=i
       ·subst hj;simp[hp'i]
       simp[hj],fun _=>rfl⟩
      rw[this,Iq hnd hin,LA]
     have e3:live is R (upd vs i v) (fun j=>p' j&&!decide (j=i))=live is R vs (fun j=>p j&&!q j):=Cm fun j hj=>by
      by_cases hji:j=i
      ·subst hji;simp[hpi]
      refine⟨?_,fun _=>Qd hji⟩
      have h1:decide ((bl'.set i true)[j]? = some true)=decide (bl'[j]? = some true):=by
       rw[List.getElem?_set_ne (Ne.symm hji)]
      have h2:(is.any fun k=>decide ((bl'.set i true)[k]? = some true)&&decide (cs k=some j))=((is.any fun k=>decide (bl'[k]? = some true)&&decide (cs k=some j))||decide (cs i=some j)):=by
       rw[Bool.eq_iff_iff];simp only[List.any_eq_true,Bool.and_eq_true,Bool.or_eq_true,decide_eq_true_eq];constructor
       ·rintro⟨k,hk,hkt,hck⟩;rcases(hbs k).1 hkt with h|h
        ·subst h;exact .inr hck
        exact .inl ⟨k,hk,h,hck⟩
       rintro(⟨k,hk,hkt,hck⟩|h)
       ·exact⟨k,hk,(hbs k).2 (.inr hkt),hck⟩
       exact⟨i,hin,(hbs i).2 (.inl rfl),h⟩
      simp only[p',p,q,He,h1,h2,hji,decide_false,Bool.not_false,Bool.and_true,Bool.not_or,Bool.and_assoc]
     have hp:=List.Perm.append_right L (HK is R (upd vs i v) p' fun j=>decide (j=i));rw[e2,e3,List.append_assoc]at hp;exact hu2.perm hp.symm
    have hf:(is.filter fun k=>decide (bl'[k]? = some false)).length=(is.filter fun k=>decide (bl'[k]? = some false)&&!decide (k=i)).length+1:=Ly hnd hin (by simp[hif])
    have:(is.filter fun k=>decide ((bl'.set i true)[k]? = some false))=is.filter fun k=>decide (bl'[k]? = some false)&&!decide (k=i):=List.filter_congr fun k _=>by
     by_cases hki:k=i
     ·subst hki;have hilt:k<bl'.length:=(List.getElem?_eq_some_iff.1 hif).1;simp[hilt]
     rw[List.getElem?_set_ne (Ne.symm hki)];simp[hki]
    rw[this]
    omega)
   have h3:=BD ho (hW u' hst1)
   simpa using h3
 intro u hu
 have hfl:is.filter (fun k=>decide (bl[k]? = some false))=is:=List.filter_eq_self.2 fun k hk=>by
  obtain⟨o,ho⟩:=BV hok hk;simp[ho.un]
 refine main is.length bl l (fun _=>undef) u ⟨rfl,fun _ _=>rfl,fun k hk=>?_,rfl,fun _ _=>rfl,fun j hj hjt=>?_,?_⟩ (by rw[hfl])
 ·obtain⟨o,ho⟩:=BV hok hk;exact .inr ho.un
 ·obtain⟨o,ho⟩:=BV hok hj;rw[ho.un]at hjt;cases hjt
 have:live is R (fun _=>undef) (He is cs fun j=>decide (bl[j]? = some true))=live is R (fun _=>undef) fun _=>false:=Cm fun j hj=>by
  obtain⟨o,ho⟩:=BV hok hj;exact⟨by simp[He,ho.un],fun _=>rfl⟩
 rw[this,IW];exact hu
end
section
variable {P:Program} {ro:Option Nat} {n0:Nat} {w0:World} {ds:List Deferred} {ops:Array Oper} {Q:Exit→Act→World→Prop} {L:List SA} {rest:List Oper} {l:List Value} {ty:TypeId} {ps:String} {af:Array Edge}
theorem WS.append0 {T e:TypeId} {size by_ i j m:Nat} {x y:Operand} {v z:Value} {news zc:List Value} (hT:sl P T=some (e,size,by_)) (hz:zv P e=some zc) (hzl:zc.length=size) (hs0:0<size)
  (hx:evo l x=some (v)) (hj:L[j]? = some (osl e size v 0 [])) (hy:evo l y=some (z)) (hnews:∀u,St n0 w0 L u→SlC u z m size news) (h1:∀a∈news,a.oneCell'=true)
  (hm:m≤9223372036854775807) (hb:m*by_≤140737488355328)
  {l':Value→List Value} (hl:∀v,lset l i v=some (l' v)) {L':Value→List SA} (hL:∀v',lset L j (osl e size v' m news)=some (L' v')) (k:∀v',WS P ro n0 w0 ds ops Q (L' v') rest (l' v')):
  WS P ro n0 w0 ds ops Q L (⟨some i,.call ⟨.builtin .append,#[x,y],#[T,T]⟩,ty,ps,af,none⟩::rest) l:=
 WS.append (xs:=[]) hT hz hzl hs0 hx hj hy hnews h1 (by rw[Nat.zero_add];exact hm) (by rw[Nat.zero_add];exact hb) hl (fun v'=>by rw[Nat.zero_add,List.nil_append];exact hL v') k
end
section
variable {P:Program} {n0:Nat} {w0:World} {L:List SA} {l:List Value} {fn:Func}
theorem outR {R:Ending→World→Prop} {v:Value} (hr:Res P fn l L n0 w0 v) (hR:∀u,St n0 w0 L u→R (.returned v) u):QS n0 w0 [] (bodyPost P fn R) .ret L l:=fun u hu=>⟨rfl,_,hr u hu,hR u hu⟩
theorem Au {j b t:Nat} {ty e:TypeId} {c:List Value} (ht:l[t]? = some (.pointer (some ⟨b,0,none⟩))) (hj:L[j]? = some (blk b c e)) (hT:tk P ty=some (true,c.length)):
  Rv P n0 w0 L l b t ty (.agg c.toArray):=⟨ht,fun u hu=>by
 have:=run_loadCells_list (P:=P) u ⟨b,0,none⟩ c fun j v h=>by rw[Bl,CJ (hu.blk hj).2];simpa using h
 simp[loadVar,(CP hT u).1,(CP hT u).2,this]⟩
end
abbrev P3:=List Int×List Int×List Int
def Stt.x (z:Stt):P3:=(z.ths.l,z.prs.l,z.pls.l)
def no3:P3:=([],[],[])
def RetS (w:World) (x:P3) (f:Value→Value):Ending→World→Prop:=fun e w'=>∃z:Stt,(z.x=x∧∃u0,SttOk u0 z)∧RetF w (f (.agg #[z.ths.v,z.prs.v,z.pls.v])) (roS fun u=>SttOk u z) e w'
def DM (n:Nat) (c:List Lit):Prop:=∀x∈c,0≤x.t∧x.t<n
def autoI (aus:List Auto) (ths:List Int):Int:=idxF (fun a=>Bt ths a.wh.l&&!decide (nth ths a.t=a.s)) aus
def settleN (aus:List Auto):Nat→List Int→Option (List Int)
 |0,_=>none
 |n+1,ths=>if autoI aus ths<0 then some ths else settleN aus n (ths.set (nth aus (autoI aus ths)).t.toNat (nth aus (autoI aus ths)).s)
def DY (aus:List Auto) (n:Nat):Prop:=∀a∈aus,(0≤a.t∧a.t<n)∧DM n a.wh.l
theorem IG {aus:List Auto} {ths:List Int} (h:¬autoI aus ths<0):0≤autoI aus ths∧autoI aus ths<aus.length:=by
 refine⟨by omega,?_⟩;unfold autoI idxF at*;split at h
 ·rename_i i hi;have:=(List.findIdx?_eq_some_iff_findIdx_eq.1 hi).1;omega
 omega
def settleV (r:Room) (x:P3):Option P3:=(settleN r.aus.l 101 x.1).map fun t=>(t,x.2.1,x.2.2)
structure ActIn (r:Room) (a:Actn):Prop where
 wh:DM r.ths.l.length a.wh.l
 pl:0≤a.pl∧a.pl<r.pls.l.length
 us:∀x∈a.us.l,0≤x∧x<r.prs.l.length
 sp:∀x∈a.sp.l,0≤x∧x<r.prs.l.length
 br:∀x∈a.br.l,0≤x∧x<r.prs.l.length
 se:∀x∈a.se.l,putB r.ths.l x.t x.s=true
 lus:a.us.l.length≤r.prs.l.length
 lsp:a.sp.l.length≤r.prs.l.length
 lbr:a.br.l.length≤r.prs.l.length
 lse:a.se.l.length≤6
structure Ready (r:Room):Prop where
 ply:1≤r.ply∧r.ply≤4
 lens:1≤r.pls.l.length∧r.pls.l.length≤8∧r.ths.l.length≤12∧r.prs.l.length≤10∧r.wys.l.length≤16∧r.acs.l.length≤24∧r.aus.l.length≤12
 ths:∀x∈r.ths.l,thB r x=true
 aus:DY r.aus.l r.ths.l.length
 aut:∀a∈r.aus.l,putB r.ths.l a.t a.s=true
 prs:∀p∈r.prs.l,DM r.ths.l.length p.wh.l∧(p.pl = -1∨placeB r p.pl=true)
 wys:∀x∈r.wys.l,DM r.ths.l.length x.wh.l∧(0≤x.a∧x.a<r.pls.l.length)∧(0≤x.b∧x.b<r.pls.l.length)
 acs:∀a∈r.acs.l,ActIn r a
 gl:DM r.ths.l.length r.gl.l
theorem G5 {ths:List Thing} {a b:Int} (h:putB ths a b=true):0≤a∧a<ths.length:=by
 simp only[putB,Bool.and_eq_true,decide_eq_true_eq]at h;omega
theorem El {r:Room} {n:Int} (h:placeB r n=true):0≤n∧n<r.pls.l.length:=by
 simp only[placeB,Bool.and_eq_true,decide_eq_true_eq]at h;omega
theorem EL {ths:List Thing} {c:List Lit} (h:D6 ths c=true):DM ths.length c:=fun x hx=>by
 simp only[D6,Bool.and_eq_true,List.all_eq_true]at h;exact G5 (h.1 x hx)
theorem Jk {r:Room} {c:List Lit} (h:whO r c=0):D6 r.ths.l c=true:=by
 unfold whO at h;split at h
 ·assumption
 cases h
theorem ite0 {b:Bool} {k:Int} (hk:k≠0) (h:(if b=true then(0:Int)else k)=0):b=true:=by
 split at h
 ·assumption
 exact(hk h).elim
theorem Fw {n:Nat} {l:List Int} (h:ascB n l=true):∀x∈l,0≤x∧x<n:=fun x hx=>by
 obtain⟨i,h0,h1,rfl⟩:=Bg hx;have:=Gv h h0 h1;simp only[Bool.and_eq_true,decide_eq_true_eq]at this;omega
theorem Pk {n:Nat} {l:List Int} (h:ascB n l=true):∀k:Nat,k<l.length→(k:Int)≤nth l k
 |0,hk=>(Fw h _ (Ad (by omega) (by omega))).1
 |k+1,hk=>by
  have h1:=Pk h k (by omega);have h2:=Gv h (i:=((k+1:Nat):Int)) (by omega) (by omega);simp only[Bool.and_eq_true,Bool.or_eq_true,decide_eq_true_eq]at h2;rw[show((k+1:Nat):Int)-1=(k:Int) by omega]at h2;omega
theorem Jb {n:Nat} {l:List Int} (h:ascB n l=true):l.length≤n:=by
 by_cases hl:l.length=0
 ·omega
 have h1:=Pk h (l.length-1) (by omega);have h2:=(Fw h _ (Ad (xs:=l) (i:=((l.length-1:Nat):Int)) (by omega) (by omega))).2;omega
theorem Cq {r:Room} (h:checkE r=0):Ready r:=by
 obtain⟨hm,h2⟩:=G9 h;obtain⟨hpl,h3⟩:=BH h2;obtain⟨hth,h4⟩:=BH h3;obtain⟨hpr,h5⟩:=BH h4;obtain⟨hwy,h6⟩:=BH h5;obtain⟨hac,h7⟩:=BH h6;obtain⟨hau,hgl⟩:=BH h7
 have hl:¬r.pls.l.length=0:=fun h0=>by
  unfold checkE at h;rw[hm,if_neg (by decide),if_pos h0]at h;cases h
 refine⟨Em h,?_,fun x hx=>?_,fun a ha=>?_,fun a ha=>?_,fun p hp=>?_,fun x hx=>?_,fun a ha=>?_,EL (Jk (BH hgl).2)⟩
 ·simp only[manyB,Bool.or_eq_false_iff,decide_eq_false_iff_not]at hm;omega
 ·obtain⟨i,h0,h1,rfl⟩:=Bg hx;have:=ite0 (by decide) (A9 hth i h0 h1);simp only[Bool.and_eq_true]at this;exact this.2.2
 ·obtain⟨i,h0,h1,rfl⟩:=Bg ha;have:=BH (A9 hau i h0 h1);exact⟨G5 (ite0 (by decide) this.1),EL (Jk this.2)⟩
 ·obtain⟨i,h0,h1,rfl⟩:=Bg ha;have:=BH (A9 hau i h0 h1);exact ite0 (by decide) this.1
 ·obtain⟨i,h0,h1,rfl⟩:=Bg hp;have:=BH (A9 hpr i h0 h1);refine⟨EL (Jk this.2),?_⟩;have:=ite0 (by decide) this.1;simp only[Bool.and_eq_true,Bool.or_eq_true,decide_eq_true_eq]at this;exact this.2.2
 ·obtain⟨i,h0,h1,rfl⟩:=Bg hx;have:=BH (A9 hwy i h0 h1);have h8:=ite0 (by decide) this.1;simp only[Bool.and_eq_true]at h8;exact⟨EL (Jk this.2),El h8.1,El h8.2.1⟩
 obtain⟨i,h0,h1,rfl⟩:=Bg ha;have:=BH (A9 hac i h0 h1);have h8:=ite0 (by decide) this.1;simp only[actB,act2,Bool.and_eq_true,decide_eq_true_eq]at h8;obtain⟨_,⟨_,hp,_,hu,hs,hb,hse⟩,_,_,h5⟩:=h8;refine⟨EL (Jk this.2),El hp,Fw hu,Fw hs,Fw hb,fun x hx=>?_,Jb hu,Jb hs,Jb hb,by omega⟩;obtain⟨k,a0,a1,rfl⟩:=Bg hx;have:=Gv h5 a0 a1;simp only[Bool.and_eq_true]at this;exact this.1
structure StIn (r:Room) (x:P3):Prop where
 lt:x.1.length=r.ths.l.length
 lp:x.2.1.length=r.prs.l.length
 ll:(x.2.2.length:Int)=r.ply
 th:∀i:Int,0≤i→i<x.1.length→putB r.ths.l i (nth x.1 i)=true
 pr:∀i:Int,0≤i→i<x.2.1.length→(placeB r (nth x.2.1 i)||(decide (nth x.2.1 i = -1)||(decide (-2-r.ply+1≤nth x.2.1 i)&&decide (nth x.2.1 i≤-2))))=true
 pl:∀i:Int,0≤i→i<x.2.2.length→placeB r (nth x.2.2 i)=true
def stL (r:Room) (x:P3):Int:=or0 (checkE r) (stE r x.1 x.2.1 x.2.2)
theorem Yj {r:Room} {x:P3}:stE r x.1 x.2.1 x.2.2=0↔StIn r x:=by
 constructor
 ·intro h;unfold stE at h;split at h
  ·rename_i hl;simp only[Bool.and_eq_true,decide_eq_true_eq]at hl;obtain⟨h1,h2⟩:=BH h;obtain⟨h2,h3⟩:=BH h2;exact⟨hl.1,hl.2.1,hl.2.2,fun i h0 hi=>ite0 (by decide) (A9 h1 i h0 hi),fun i h0 hi=>ite0 (by decide) (A9 h2 i h0 hi),fun i h0 hi=>ite0 (by decide) (A9 h3 i h0 hi)⟩
  cases h
 intro h;unfold stE;have e1:AV (ED r x.1) x.1.length=0:=As fun i a b=>if_pos (h.th i a b);have e2:AV (EQ r x.2.1) x.2.1.length=0:=As fun i a b=>if_pos (h.pr i a b);have e3:AV (EN r x.2.2) x.2.2.length=0:=As fun i a b=>if_pos (h.pl i a b);rw[if_pos (by simp only[Bool.and_eq_true,decide_eq_true_eq];exact⟨h.lt,h.lp,h.ll⟩),e1,Bm rfl,e2,Bm rfl,e3]
theorem CR {r:Room} {x:P3}:stL r x=0↔checkE r=0∧StIn r x:=by
 rw[←Yj];constructor
 ·exact BH
 rintro⟨h1,h2⟩;unfold stL;rw[Bm h1,h2]
theorem StIn.small {r:Room} {x:P3} (h:StIn r x) (hr:Ready r):x.1.length≤1000000∧x.2.1.length≤1000000∧x.2.2.length≤1000000:=by
 have:=h.lt;have:=h.lp;have:=h.ll;have:=hr.lens;have:=hr.ply;omega
theorem StIn.autos {r:Room} {x:P3} (h:StIn r x) (hr:Ready r):DY r.aus.l x.1.length:=by rw[h.lt];exact hr.aus
def ansS (r:Room) (o:Option P3):Int×P3:=match o with|some y=>(0,y)|none=>(27,no3)
def SettleV (r:Room) (x:P3):Int×P3:=if stL r x=0 then ansS r (settleV r x)else(stL r x,no3)
def HoldsV (r:Room) (x:P3) (c:List Lit):Int×Bool:=if stL r x=0 then if D6 r.ths.l c=true then(0,Bt x.1 c)else(25,false)else(stL r x,false)
def Cf (r:Room):P3:=(r.ths.l.map Thing.sr,r.prs.l.map Pro.pl,List.replicate r.ply.toNat 0)
def BeginV (r:Room):Int×P3:=if checkE r=0 then SettleV r (Cf r)else(checkE r,no3)
theorem Q6 {r:Room} {o:Option P3} (h:o.isSome=true):ansS r o=(0,o.getD no3):=by cases o;cases h;rfl
theorem OJ {r:Room} {o:Option P3} (h:o.isSome=false):ansS r o=(27,no3):=by cases o;rfl;cases h
theorem KV {w0 u:World} {L:List SA} {j:Nat} {z:Stt} {x:P3} {f:Value→Value} (hj:L[j]? = some (roS fun u=>SttOk u z)) (hx:z.x=x) (hu:St w0.heap.size w0 L u):
  RetS w0 x f (.returned (f (.agg #[z.ths.v,z.prs.v,z.pls.v]))) u:=⟨z,⟨hx,u,hu.ro hj⟩,retF hj u hu⟩
theorem SttOk.ones {w:World} {z:Stt} (h:SttOk w z):z.ths.v.oneCell'=true∧z.prs.v.oneCell'=true∧z.pls.v.oneCell'=true:=⟨Sl.one h.ths,Sl.one h.prs,Sl.one h.pls⟩
theorem AW {α:Type} [Inhabited α] {xs:List α} {s:Int} (h0:0≤s) (h1:s<xs.length):xs.take (s+1).toNat=xs.take s.toNat++[nth xs s]:=by
 have h2:s.toNat<xs.length:=by omega
 rw[show(s+1).toNat=s.toNat+1 by omega,List.take_succ_eq_append_getElem h2];have:nth xs s=xs[s.toNat]:=by simp[nth,List.getD,h2]
 rw[this]
theorem EV {xs:List Int} {v s:Int} (h0:0≤s) (h1:s<xs.length):cnt (xs.take (s+1).toNat) v=cnt (xs.take s.toNat) v+(if nth xs s=v then 1 else 0):=by
 rw[AW h0 h1,Dv]
def goB (r:Room) (x:P3) (m:Move):Bool:=((decide (0≤m.n)&&decide (m.n≤r.wys.l.length-1))&&(decide ((nth r.wys.l m.n).a=nth x.2.2 m.p)||decide ((nth r.wys.l m.n).b=nth x.2.2 m.p)))&&Bt x.1 (nth r.wys.l m.n).wh.l
def Np (r:Room) (x:P3) (m:Move):Bool:=(((decide (0≤m.n)&&decide (m.n≤r.prs.l.length-1))&&decide (nth x.2.1 m.n=nth x.2.2 m.p))&&Bt x.1 (nth r.prs.l m.n).wh.l)&&decide (cnt x.2.1 (-2-m.p)<3)
def NO (r:Room) (x:P3) (m:Move):Bool:=(decide (0≤m.n)&&decide (m.n≤r.prs.l.length-1))&&decide (nth x.2.1 m.n = -2-m.p)
def Nn (x:P3) (a:Actn) (m:Move):Bool:=allI a.us.l.length fun k=>decide (nth x.2.1 (nth a.us.l k) = -2-m.p)
def JI (x:P3) (a:Actn):Bool:=allI a.br.l.length fun k=>decide (nth x.2.1 (nth a.br.l k) = -1)
def Ph (x:P3) (a:Actn) (m:Move):Bool:=(decide (a.pl=nth x.2.2 m.p)&&Bt x.1 a.wh.l)&&decide (cnt x.2.1 (-2-m.p)-a.sp.l.length+a.br.l.length≤3)
def doB (r:Room) (x:P3) (m:Move):Bool:=(decide (0≤m.n)&&decide (m.n≤r.acs.l.length-1))&&(Nn x (nth r.acs.l m.n) m&&(JI x (nth r.acs.l m.n)&&Ph x (nth r.acs.l m.n) m))
def legalB (r:Room) (x:P3) (m:Move):Bool:=
 if(decide (0≤m.p)&&decide (m.p≤r.ply-1))=true then
  if m.k=1 then goB r x m else if m.k=2 then Np r x m else if m.k=3 then NO r x m else if m.k=4 then doB r x m else false
 else false
def BA (v:Int) (l:List Int) (ps:List Int):List Int:=ps.foldl (fun l p=>l.set p.toNat v) l
def DL (l:List Int) (ss:List Put):List Int:=ss.foldl (fun l s=>l.set s.t.toNat s.s) l
theorem AJ {v:Int}:∀{ps l:List Int},(BA v l ps).length=l.length
 |[],_=>rfl
 |p::ps,l=>by
  have:=AJ (v:=v) (ps:=ps) (l:=l.set p.toNat v)
  simpa [BA]using this
theorem A8:∀{ss:List Put} {l:List Int},(DL l ss).length=l.length
 |[],_=>rfl
 |p::ps,l=>by
  have:=A8 (ss:=ps) (l:=l.set p.t.toNat p.s)
  simpa [DL]using this
theorem Dw {v:Int} {l ps:List Int} {s:Int} (h0:0≤s) (h1:s<ps.length):BA v l (ps.take (s+1).toNat)=(BA v l (ps.take s.toNat)).set (nth ps s).toNat v:=by
 rw[AW h0 h1,BA,List.foldl_append];rfl
theorem GR {l:List Int} {ps:List Put} {s:Int} (h0:0≤s) (h1:s<ps.length):DL l (ps.take (s+1).toNat)=(DL l (ps.take s.toNat)).set (nth ps s).t.toNat (nth ps s).s:=by
 rw[AW h0 h1,DL,List.foldl_append];rfl
def moveX (r:Room) (x:P3) (m:Move):P3:=
 if m.k=1 then(x.1,x.2.1,x.2.2.set m.p.toNat ((nth r.wys.l m.n).a+(nth r.wys.l m.n).b-nth x.2.2 m.p))
 else if m.k=2 then(x.1,x.2.1.set m.n.toNat (-2-m.p),x.2.2)
 else if m.k=3 then(x.1,x.2.1.set m.n.toNat (nth x.2.2 m.p),x.2.2)
 else if m.k=4 then(DL x.1 (nth r.acs.l m.n).se.l,BA (-2-m.p) (BA (-1) x.2.1 (nth r.acs.l m.n).sp.l) (nth r.acs.l m.n).br.l,x.2.2)
 else x
theorem Hr {r:Room} {x:P3} {m:Move}:(moveX r x m).1.length=x.1.length∧(moveX r x m).2.1.length=x.2.1.length∧(moveX r x m).2.2.length=x.2.2.length:=by
 unfold moveX;split
 ·simp
 split
 ·simp
 split
 ·simp
 split
 ·simp[A8,AJ]
 simp
def StepV (r:Room) (x:P3) (m:Move):Int×P3:=if stL r x=0 then if legalB r x m=true then ansS r (settleV r (moveX r x m))else(29,no3)else(stL r x,no3)
structure MoveIn (r:Room) (x:P3) (m:Move):Prop where
 p:0≤m.p∧m.p<x.2.2.length∧m.p≤3
 go:m.k=1→0≤m.n∧m.n<r.wys.l.length
 pr:m.k=2∨m.k=3→0≤m.n∧m.n<x.2.1.length
 ac:m.k=4→0≤m.n∧m.n<r.acs.l.length
theorem G2 {r:Room} {x:P3} {m:Move} (hR:Ready r) (hI:StIn r x) (h:legalB r x m=true):MoveIn r x m:=by
 have hl:=hI.ll;have hp:=hI.lp;have hy:=hR.ply;unfold legalB at h;split at h
 ·rename_i h1;simp only[Bool.and_eq_true,decide_eq_true_eq]at h1;refine⟨by omega,fun hk=>?_,fun hk=>?_,fun hk=>?_⟩
  ·rw[if_pos hk]at h;simp only[goB,Bool.and_eq_true,decide_eq_true_eq]at h;omega
  ·rcases hk with hk|hk
   ·rw[if_neg (by omega),if_pos hk]at h;simp only[Np,Bool.and_eq_true,decide_eq_true_eq]at h;omega
   rw[if_neg (by omega),if_neg (by omega),if_pos hk]at h;simp only[NO,Bool.and_eq_true,decide_eq_true_eq]at h;omega
  rw[if_neg (by omega),if_neg (by omega),if_neg (by omega),if_pos hk]at h;simp only[doB,Bool.and_eq_true,decide_eq_true_eq]at h;omega
 cases h
theorem StIn.at {r:Room} {x:P3} (hI:StIn r x) {i:Int} (h0:0≤i) (h1:i<x.2.2.length):0≤nth x.2.2 i∧nth x.2.2 i<r.pls.l.length:=El (hI.pl i h0 h1)
def oT {α:Type} (C:Cel α) (e:TypeId) (v:Value) (l:List α):SA:=osl e C.k v l.length (Ay C l)
section
variable {P:Program} {ro:Option Nat} {n0:Nat} {w0:World} {ds:List Deferred} {ops:Array Oper} {Q:Exit→Act→World→Prop} {L:List SA} {rest:List Oper} {l:List Value} {ty:TypeId} {ps:String} {af:Array Edge}
 {α:Type} {C:Cel α}
theorem WS.buildT1 (C:Cel α) {T e:TypeId} {by_ i:Nat} {x:Operand} {a:α} {zc:List Value} (hT:sl P T=some (e,C.k,by_)) (hz:zv P e=some zc) (hx:evo l x=some (.agg (C.cells a).toArray)) (hk:0<C.k∧C.k≤1000)
  {l':Value→List Value} (hl:∀v,lset l i v=some (l' v)) (kk:∀v,WS P ro n0 w0 ds ops Q (oT C e v [a]::L) rest (l' v)):
  WS P ro n0 w0 ds ops Q L (⟨some i,.buildSlice T 1 #[(0,x)],ty,ps,af,none⟩::rest) l:=by
 refine WS.buildSliceK (pl:=[(0,x)]) (rows:=[C.cells a]) (k:=C.k) hT hz (by simp[Am hx]) rfl (by omega) (by omega) (by simp[C.len]) hl fun v=>?_;exact kk v
theorem WS.appendT1 {T e:TypeId} {by_ i j jz:Nat} {x y:Operand} {v z:Value} {a:α} {xs:List α} {zc:List Value} (hT:sl P T=some (e,C.k,by_)) (hz:zv P e=some zc) (hzl:zc.length=C.k) (hk:0<C.k)
  (hx:evo l x=some v) (hj:L[j]? = some (oT C e v xs)) (hy:evo l y=some z) (hjz:L[jz]? = some (oT C e z [a])) {w:World} (h1:C.ok w a)
  (hm:xs.length+1≤9223372036854775807) (hb:(xs.length+1)*by_≤140737488355328)
  {l':Value→List Value} (hl:∀v,lset l i v=some (l' v)) {L':Value→List SA} (hL:∀v',lset L j (oT C e v' (xs++[a]))=some (L' v')) (k:∀v',v'.oneCell'=true→WS P ro n0 w0 ds ops Q (L' v') rest (l' v')):
  WS P ro n0 w0 ds ops Q L (⟨some i,.call ⟨.builtin .append,#[x,y],#[T,T]⟩,ty,ps,af,none⟩::rest) l:=by
 refine WS.append hT hz hzl hk hx hj hy (m:=1) (fun u hu=>AX hu hjz) (fun b hb'=>?_) hm hb hl (L':=L') (fun v'=>?_) fun v'=>?_
 ·rw[DU]at hb';exact C.one w a h1 b hb'
 ·rw[←hL v',oT,B6];simp
 have hjl:=(List.getElem?_eq_some_iff.1 hj).1;have h2:=(Ag (hL v')).symm;refine WS.oc (j:=j) (v:=v') (e:=e) (k:=C.k) (n:=(xs++[a]).length) (xs:=Ay C (xs++[a])) (by rw[h2,List.getElem?_set_self hjl];rfl) (k v')
theorem CF {u:World} {e:TypeId} {v:Value} {xs:List α} {j:Nat} (hu:St n0 w0 L u) (hj:L[j]? = some (oT C e v xs)) (hk:∀a∈xs,C.ok u a):SlT C u ⟨v,xs⟩:=⟨AX hu hj,hk⟩
end
def B3 (p k:Int) (n:Nat):List Move:=(List.range n).map fun i:Nat=>(⟨p,k,(i:Int)⟩:Move)
def EE (p:Int):Nat→List Move
 |0=>[]
 |j+1=>EE p j++B3 p ((j:Int)+1) 24
def DW:Nat→List Move
 |0=>[]
 |q+1=>DW q++EE q 4
theorem Hn (p k:Int) (n:Nat):(B3 p k n).length=n:=by simp[B3]
theorem GU (p:Int):∀j,(EE p j).length=j*24
 |0=>rfl
 |j+1=>by simp[EE,GU p j,Hn];omega
theorem GJ:∀q,(DW q).length=q*96
 |0=>rfl
 |q+1=>by simp[DW,GJ q,GU];omega
theorem FY (p k:Int) {n:Int} (h0:0≤n):B3 p k (n+1).toNat=B3 p k n.toNat++[⟨p,k,n⟩]:=by
 rw[show(n+1).toNat=n.toNat+1 by omega];simp[B3,List.range_succ];omega
def AF (r:Room) (x:P3):List Move:=(DW r.ply.toNat).filter (legalB r x)
def Dg (r:Room) (x:P3) (p k n:Int):List Move:=(DW p.toNat++(EE p (k-1).toNat++B3 p k n.toNat)).filter (legalB r x)
theorem Vd {r:Room} {x:P3} {p:Int}:Dg r x p 1 0=(DW p.toNat).filter (legalB r x):=by simp[Dg,EE,B3]
theorem WT {r:Room} {x:P3} {p k:Int} (h0:1≤k):Dg r x p k 24=Dg r x p (k+1) 0:=by
 have:(k+1-1).toNat=(k-1).toNat+1:=by omega
 unfold Dg;rw[this,EE,show(((k-1).toNat:Nat):Int)+1=k by omega];simp[B3]
theorem WG {r:Room} {x:P3} {p:Int} (h0:0≤p):Dg r x p 5 0=Dg r x (p+1) 1 0:=by
 unfold Dg;rw[show(p+1).toNat=p.toNat+1 by omega,DW,show((p.toNat:Nat):Int)=p by omega];simp[EE,B3]
theorem JQ {r:Room} {x:P3} {p k n:Int} (h0:0≤n) (h:legalB r x ⟨p,k,n⟩=true):Dg r x p k n++[⟨p,k,n⟩]=Dg r x p k (n+1):=by
 unfold Dg;rw[FY _ _ h0,←List.append_assoc (EE _ _),←List.append_assoc (DW _),List.filter_append (DW p.toNat++_)];simp[List.filter_cons,h]
theorem LI {r:Room} {x:P3} {p k n:Int} (h0:0≤n) (h:legalB r x ⟨p,k,n⟩=false):Dg r x p k n=Dg r x p k (n+1):=by
 unfold Dg;rw[FY _ _ h0,←List.append_assoc (EE _ _),←List.append_assoc (DW _),List.filter_append (DW p.toNat++_)];simp[List.filter_cons,h]
theorem PQ {r:Room} {x:P3} {p k n:Int} (h0:p≤4) (h1:k≤5) (h2:n≤24):(Dg r x p k n).length≤1000:=by
 have:=List.length_filter_le (legalB r x) (DW p.toNat++(EE p (k-1).toNat++B3 p k n.toNat));simp only[List.length_append,GJ,GU,Hn]at this;unfold Dg;omega
def LegalV (r:Room) (x:P3):Int×List Move:=if stL r x=0 then(0,AF r x)else(stL r x,[])
def RetM (w:World) (x:List Move) (f:Value→Value):Ending→World→Prop:=fun e w'=>∃v:Value,(∃u0,SlT cMove u0 ⟨v,x⟩)∧RetF w (f v) (roT cMove ⟨v,x⟩) e w'
theorem retM {w0 u:World} {L:List SA} {e:TypeId} {j:Nat} {v:Value} {xs:List Move} {f:Value→Value} (hj:L[j]? = some (oT cMove e v xs)) (hu:St w0.heap.size w0 L u):RetM w0 xs f (.returned (f v)) u:=
 ⟨v,⟨u,CF hu hj fun _ _=>trivial⟩,retR (fun S u h=>⟨Star.osl hj h,fun _ _=>trivial⟩) u hu⟩
theorem Yu {w0 u:World} {L:List SA} {f:Value→Value} (hu:St w0.heap.size w0 L u):RetM w0 [] f (.returned (f (.slice none 0 0))) u:=
 ⟨_,⟨u,SlT.nil cMove u⟩,retR (fun S u h=>SlT.nil cMove u) u hu⟩
theorem AO {α:Type} [Inhabited α] {xs:List α} {s:Int} (h0:0≤s) (h1:s<xs.length):xs.drop s.toNat=nth xs s::xs.drop (s+1).toNat:=by
 have h2:s.toNat<xs.length:=by omega
 rw[show(s+1).toNat=s.toNat+1 by omega,List.drop_eq_getElem_cons h2];simp[nth,List.getD,h2]
theorem RetF.toRo {w:World} {v:Value} {A:SA} {p:World→Prop} (hp:∀S u,A.h S u→p u) {e:Ending} {u:World} (h:RetF w v A e u):RetF w v (roS p) e u:=by
 obtain⟨h1,h2,T,h3,h4⟩:=h;exact⟨h1,h2,T,⟨fun u' hk=>hp T u' (A.loc T u u' h3 hk),fun k hS=>A.dom T u k h3 hS⟩,h4⟩
theorem RetF.now {w:World} {v:Value} {p:World→Prop} {e:Ending} {u:World} (h:RetF w v (roS p) e u):p u:=by
 obtain⟨_,_,T,h3,_⟩:=h;exact roS.now h3
theorem Dq {α β:Type} [Inhabited α] (f:α→β) {l:List α} {s:Int} (h0:0≤s) (h1:s<l.length):(l.take s.toNat).map f++[f (nth l s)]=(l.take (s+1).toNat).map f:=by
 rw[AW h0 h1];simp
def Ca (n:Nat):List Int:=(List.range n).map fun i:Nat=>(i:Int)
theorem FA {n:Int} (h0:0≤n):Ca (n+1).toNat=Ca n.toNat++[n]:=by
 rw[show(n+1).toNat=n.toNat+1 by omega];simp[Ca,List.range_succ];omega
def filI (n:Int) (p:Int→Bool):List Int:=(Ca n.toNat).filter p
theorem ET {n:Int} {p:Int→Bool} (h0:0≤n) (h:p n=true):filI n p++[n]=filI (n+1) p:=by
 unfold filI;rw[FA h0,List.filter_append];simp[h]
theorem GG {n:Int} {p:Int→Bool} (h0:0≤n) (h:p n=false):filI n p=filI (n+1) p:=by
 unfold filI;rw[FA h0,List.filter_append];simp[h]
theorem Eu {n:Int} {p:Int→Bool} (h:0≤n):((filI n p).length:Int)≤n:=by
 have:=List.length_filter_le p (Ca n.toNat);unfold filI;simp[Ca]at this⊢;omega
theorem StIn.held {r:Room} {x:P3} (hI:StIn r x) {i:Int} (h0:0≤i) (h1:i<x.2.1.length) (h2:nth x.2.1 i≤-2):0≤-2-nth x.2.1 i∧-2-nth x.2.1 i<x.2.2.length:=by
 have:=hI.pr i h0 h1;have h3:=hI.ll;simp only[placeB,Bool.or_eq_true,Bool.and_eq_true,decide_eq_true_eq]at this;omega
theorem MW {α:Type} (cur vs:List α) {m N:Nat} (h:m+vs.length≤N) (hN:N≤cur.length):(cur.take m++vs++cur.drop (m+vs.length)).take N=(cur.take N).take m++vs++(cur.take N).drop (m+vs.length):=by
 rw[List.take_take,Nat.min_eq_left (by omega),List.take_append,List.take_of_length_le (l:=cur.take m++vs) (by simp;omega)];congr 1;rw[List.length_append,List.length_take,Nat.min_eq_left (by omega),List.drop_take]
section
variable {P:Program} {ro:Option Nat} {n0:Nat} {w0:World} {ds:List Deferred} {ops:Array Oper} {Q:Exit→Act→World→Prop} {L:List SA} {rest:List Oper} {l:List Value} {d:Option Tmp} {ty:TypeId} {ps:String} {af:Array Edge} {g:Option (Nat×Bool)}
theorem WS.storeOC {T e:TypeId} {x y:Operand} {v z:Value} {k n m j:Nat} {q:Bool} {vs xs xs':List Value} (hx:evo l x=some (.pointer (some (sla v m)))) (hj:L[j]? = some (osl e k v n xs)) (hm:m+vs.length≤xs.length) (h0:0<vs.length)
  (hy:evo l y=some z) (hz:z.cells=vs.toArray) (h1:∀a∈vs,a.oneCell'=true) (hT:tk P T=some (q,vs.length)) (hxs:xs.take m++vs++xs.drop (m+vs.length)=xs')
  {L':List SA} (hL:lset L j (osl e k v n xs')=some L') (kk:WS P ro n0 w0 ds ops Q L' rest l):
  WS P ro n0 w0 ds ops Q L (⟨none,.store T x y,ty,ps,af,none⟩::rest) l:=by
 rw[←Ag hL]at kk;subst hxs
 (replace hx:=Am hx;replace hy:=Am hy)
 refine WS.world_skip rfl rfl rfl fun u hu=>?_;obtain⟨S,hS,⟨hS1,hl,h2⟩,hupd⟩:=hu.upd hj;rcases h2 with⟨rfl,rfl⟩|⟨b,cap,cur,rfl,hb,hg,hn,hcap,hcur,htake⟩
 ·simp at hl;subst hl;simp at hm;rw[hm.2]at h0;simp at h0
 have es:sla (.slice (some ⟨b,0,none⟩) n cap) m=⟨b,m,none⟩:=by simp[sla,slb,slo]
 rw[es]at hx
 have hcn:n*k≤cur.toList.length:=by
  rw[Array.length_toList,hcur];exact Nat.mul_le_mul_right _ hn
 have hlen:xs.length=n*k:=by rw[←htake,List.length_take];omega
 have hst:=run_storeCells_at P b m e vs 0 cur u hg (by simp at hcn;omega) h1;simp only[Nat.add_zero]at hst;have hb':=hS b ((hS1 b).2 rfl);refine⟨u.setRow b (cur.toList.take m++vs++cur.toList.drop (m+vs.length)).toArray,?_,?_⟩
 ·simp[execOp,hx,hy,Instr.storeAt,Instr.sureAddr,storeVar,(CP hT u).2,hz,hst]
 refine kk _ (hupd _ _ (fun k=>k=b) ⟨rfl,rfl,rfl,by simp,fun k hk=>setRow_other u b k _ (fun e=>by omega)⟩ (fun k hk o' hcell=>?_) ⟨fun k=>?_,by simp;omega,.inr ⟨b,cap,_,rfl,hb,setRow_heap u b cur _ e _ hg,hn,hcap,by simp at hcn⊢;omega,?_⟩⟩
  (fun k hk=>by subst hk;exact⟨hb',.inl ((hS1 _).2 rfl)⟩))
 ·rw[setRow_other u b k _ (fun e=>hk.2.2 ((hS1 k).2 (by rw[e];rfl)))];exact hcell
 ·exact⟨fun h=>by rw[h];rfl,fun h=>by simpa [Value.ownBlock,eq_comm]using h⟩
 rw[←htake];exact MW cur.toList vs (by omega) hcn
end
section
variable {α:Type} (C:Cel α)
theorem PN {l:List α} {i:Nat} {a:α} (hi:i<l.length):(Ay C l).take (i*C.k)++C.cells a++(Ay C l).drop (i*C.k+(C.cells a).length)=Ay C (l.set i a):=by
 rw[C.len,←H2,show i*C.k+C.k=(i+1)*C.k by rw[Nat.succ_mul],←HJ,List.set_eq_take_append_cons_drop,if_pos hi,B6,List.append_assoc];congr 1
theorem Kw {l:List α} {i f:Nat} {a:α} {z:Value} [Inhabited α] (hi:i<l.length) (hf:f<C.k) (ha:C.cells a=(C.cells (nth l i)).set f z):(Ay C l).take (i*C.k+f)++[z]++(Ay C l).drop (i*C.k+f+[z].length)=Ay C (l.set i a):=by
 have h2:nth l (i:Int)=l[i]:=by simp[nth,List.getD,hi]
 rw[h2]at ha
 rw[←QE C hi hf ha,List.set_eq_take_append_cons_drop,if_pos (by rw[Bv];calc i*C.k+f<i*C.k+C.k:=by omega
  _=(i+1)*C.k:=by rw[Nat.succ_mul]
  _≤l.length*C.k:=Nat.mul_le_mul_right _ hi)]
 simp
end
section
variable {P:Program} {ro:Option Nat} {n0:Nat} {w0:World} {ds:List Deferred} {ops:Array Oper} {Q:Exit→Act→World→Prop} {L:List SA} {rest:List Oper} {l:List Value} {d:Option Tmp} {ty:TypeId} {ps:String} {af:Array Edge} {g:Option (Nat×Bool)}
 {α:Type} {C:Cel α}
theorem BG {T e e':TypeId} {a b j:Nat} {x:Operand} {v:Value} {xs:List α} (hT:sl P T=some (e,a,b)) (hx:evo l x=some v) (hj:L[j]? = some (oT C e' v xs)):
  Det P (St n0 w0 L) ⟨d,.call ⟨.builtin .len,#[x],#[T]⟩,ty,ps,af,g⟩ l (.int .i64 xs.length):=Gn hT hx hj
theorem AQ {T e e':TypeId} {by_ k j:Nat} {x y:Operand} {v:Value} {i:Int} {xs:List α} (hT:sl P T=some (e,k,by_)) (hx:evo l x=some v) (hy:evo l y=some (.int .i64 i))
  (hj:L[j]? = some (oT C e' v xs)) (hk:C.k=k) (h0:0≤i) (h1:i<xs.length):Det P (St n0 w0 L) ⟨d,.indexAddr T x y,ty,ps,af,g⟩ l (.pointer (some (sla v (i.toNat*k)))):=by
 subst hk;exact EW hT hx hy (show L[j]? = some (osl e' C.k v xs.length (Ay C xs))from hj) h0 h1
theorem WS.storeTw {T e:TypeId} {k:Nat} {x y:Operand} {v:Value} {j:Nat} {q:Bool} {xs:List α} {i:Int} (a:α) (hj:L[j]? = some (oT C e v xs)) (hx:evo l x=some (.pointer (some (sla v (i.toNat*k))))) (hk:C.k=k) (h:0≤i∧i<xs.length)
  (hy:evo l y=some (.agg (C.cells a).toArray)) (h1:∀z∈C.cells a,z.oneCell'=true) (hk0:0<k) (hT:tk P T=some (q,k))
  {L':List SA} (hL:lset L j (oT C e v (xs.set i.toNat a))=some L') (kk:WS P ro n0 w0 ds ops Q L' rest l):
  WS P ro n0 w0 ds ops Q L (⟨none,.store T x y,ty,ps,af,none⟩::rest) l:=by
 subst hk;have hi:i.toNat<xs.length:=by omega
 refine WS.storeOC (vs:=C.cells a) (m:=i.toNat*C.k) hx hj ?_ (by rw[C.len];exact hk0) hy (by simp[Value.cells]) h1 (by rw[C.len];exact hT) (PN C hi) (by rw[←hL,oT,List.length_set]) kk;rw[Bv,C.len]
 calc i.toNat*C.k+C.k=(i.toNat+1)*C.k:=by rw[Nat.succ_mul]
  _≤xs.length*C.k:=Nat.mul_le_mul_right _ hi
variable [Inhabited α]
theorem D3 {T e:TypeId} {z j:Nat} (k f:Nat) {x:Operand} {v y:Value} {i:Int} {xs:List α} (hj:L[j]? = some (oT C e v xs)) (hx:evo l x=some (.pointer (some ⟨slb v,slo v+i.toNat*k+f,none⟩))) (hk:C.k=k) (h:0≤i∧i<xs.length) (hf:f<k)
  (hc:(C.cells (nth xs i))[f]? = some y) (hT:tk P T=some (false,z)):Det P (St n0 w0 L) ⟨d,.load T x,ty,ps,af,g⟩ l y:=by
 subst hk;exact It (by rw[hx,sla,Nat.add_assoc]) hj (by rw[BK C h.1 h.2 f hf];exact hc) hT
theorem Eb {T e:TypeId} {k j:Nat} {x:Operand} {v:Value} {i:Int} {xs:List α} {cs:List Value} (hj:L[j]? = some (oT C e v xs)) (hx:evo l x=some (.pointer (some (sla v (i.toNat*k))))) (hk:C.k=k) (h:0≤i∧i<xs.length)
  (hc:C.cells (nth xs i)=cs) (hT:tk P T=some (true,k)):Det P (St n0 w0 L) ⟨d,.load T x,ty,ps,af,g⟩ l (.agg cs.toArray):=by
 subst hk;subst hc;refine Ci hx (fun _ hu=>AX hu hj) (fun f y hy=>?_) (by rw[C.len];exact hT);have hf:f<C.k:=by have:=(List.getElem?_eq_some_iff.1 hy).1;rwa [C.len]at this
 rw[BK C h.1 h.2 f hf];exact hy
theorem WS.storeTc {T e:TypeId} (k f:Nat) {x y:Operand} {v z:Value} {j:Nat} {q:Bool} {xs:List α} {i:Int} (a:α) (hj:L[j]? = some (oT C e v xs)) (hx:evo l x=some (.pointer (some ⟨slb v,slo v+i.toNat*k+f,none⟩))) (hk:C.k=k) (h:0≤i∧i<xs.length) (hf:f<k)
  (hy:evo l y=some z) (h1:z.oneCell'=true) (hT:tk P T=some (q,1)) (ha:C.cells a=(C.cells (nth xs i)).set f z)
  {L':List SA} (hL:lset L j (oT C e v (xs.set i.toNat a))=some L') (kk:WS P ro n0 w0 ds ops Q L' rest l):
  WS P ro n0 w0 ds ops Q L (⟨none,.store T x y,ty,ps,af,none⟩::rest) l:=by
 subst hk;have hi:i.toNat<xs.length:=by omega
 have e0:((i.toNat:Nat):Int)=i:=by omega
 refine WS.storeOC (vs:=[z]) (m:=i.toNat*C.k+f) (by rw[hx,sla,Nat.add_assoc]) hj ?_ (by simp) hy (by cases z<;>simp_all [Value.cells,Value.oneCell']) (by simpa using h1) hT (Kw C hi hf (by rw[e0];exact ha)) (by rw[←hL,oT,List.length_set]) kk;rw[Bv]
 calc i.toNat*C.k+f+1≤i.toNat*C.k+C.k:=by omega
  _=(i.toNat+1)*C.k:=by rw[Nat.succ_mul]
  _≤xs.length*C.k:=Nat.mul_le_mul_right _ hi
end
def ptrB:Value→Nat
 | .pointer (some a)=>a.block
 |_=>0
theorem CB {α β:Type} [Inhabited α] (f:α→β) {l:List α} {i:Int} {a:α} (h0:0≤i) (h1:i<l.length) (ha:f a=f (nth l i)):(l.set i.toNat a).map f=l.map f:=by
 have h2:i.toNat<l.length:=by omega
 have h3:nth l i=l[i.toNat]:=by simp[nth,List.getD,h2]
 rw[List.map_set,ha,h3]
 apply List.ext_getElem (by simp)
 intro k hk1 hk2
 by_cases hk:i.toNat=k
 ·subst hk;simp
 simp[List.getElem_set_ne hk]
theorem BI {α:Type} [Inhabited α] {l:List α} {i:Int} {a:α} (h0:0≤i) (h1:i<l.length):nth (l.set i.toNat a) i=a:=by
 have h2:i.toNat<l.length:=by omega
 simp[nth,List.getD,h2]
theorem AU {α:Type} [Inhabited α] {l:List α} {i j:Int} {a:α} (h0:0≤i) (h1:0≤j) (h:j≠i):nth (l.set i.toNat a) j=nth l j:=by
 have:i.toNat≠j.toNat:=by omega
 simp[nth,List.getD,List.getElem?_set_ne this]
section
variable {n0:Nat} {w0 u:World} {L:List SA}
theorem St.roTrue (h:St n0 w0 L u) {p:World→Prop} (hp:∀u,p u):St n0 w0 (roS p::L) u:=
 ⟨h.le,h.below,fun _=>False,fun _ h=>h.elim,⟨fun u' _=>hp u',fun _ h=>h.elim⟩,h.star.sup fun _ h=>⟨h,fun h=>h⟩⟩
theorem St.roMap {p q:World→Prop} (hp:∀u,p u→q u) (h:St n0 w0 (roS p::L) u):St n0 w0 (roS q::L) u:=St.toRo (fun S u h=>hp u (roS.now h)) h
theorem St.ro2 {A B:SA} {p q r:World→Prop} (hp:∀S u,A.h S u→p u) (hq:∀S u,B.h S u→q u) (hr:∀u,p u→q u→r u) (h:St n0 w0 (A::B::L) u):St n0 w0 (roS r::L) u:=by
 have h1:=St.toRo hp h;have h2:St n0 w0 (roS q::roS p::L) u:=St.toRo hq (h1.perm (List.Perm.swap _ _ _));exact St.roMap (fun u h=>hr u h.2 h.1) (St.roAnd h2)
end
def XB (w:World) (r:Room):Ending→World→Prop:=fun e w'=>∃c:Room,(c.e=r.e∧∃u0,RoomOk u0 c)∧RetF w (.agg (rcl c).toArray) (roS fun u=>RoomOk u c) e w'
theorem E5 {α:Type} [Inhabited α] {q:World→α→Prop} {l:List α} {i:Int} {a:α} {u:World} (h0:0≤i) (h1:i<l.length) (hq:q u a) (h:∀j:Int,0≤j→j<i→q u (nth l j)):∀j:Int,0≤j→j<i+1→q u (nth (l.set i.toNat a) j):=fun j a0 a1=>by
 by_cases hj:j=i
 ·subst hj;rw[BI h0 h1];exact hq
 rw[AU h0 a0 hj];exact h j a0 (by omega)
theorem HD {α:Type} [Inhabited α] {q:World→α→Prop} {l:List α} {i:Int} {u:World} (hi:i=l.length) (h:∀j:Int,0≤j→j<i→q u (nth l j)):∀a∈l,q u a:=fun a ha=>by
 obtain⟨j,h0,h1,rfl⟩:=Bg ha;exact h j h0 (by omega)
theorem DF {α β:Type} {f:α→β} {l l':List α} (h:l.map f=l'.map f):l.length=l'.length:=by
 have:=congrArg List.length h
 simpa using this
section
variable {P:Program} {l:List Value} {d:Option Tmp} {ty:TypeId} {ps:String} {af:Array Edge} {g:Option (Nat×Bool)} {C:World→Prop}
theorem HL {T:TypeId} {pl:List (Nat×Operand)} {pls:List (Nat×Nat)} {z cs:List Value} {parts:List (Nat×Value)} (hp:plc P T=some pls) (hz:zv P T=some z) (hv:evp l pl=some parts)
  (hf:Instr.fill (pls.toArray[·]?) z.toArray parts=some cs.toArray):Det P C ⟨d,.build T pl.toArray,ty,ps,af,g⟩ l (.agg cs.toArray):=fun u _=>by
 replace hv:=QT hv;subst hv;unfold plc at hp;split at hp
 ·rename_i fs hu;unfold zv at hz;cases hi:P.info? T with
  |none=>simp[hi]at hz
  |some inf=>
   cases hz2:inf.zero with
   |none=>simp[hi,hz2]at hz
   |some zz=>
    simp[hi,hz2]at hz;have hm:=I0 (P:=P) (w:=u) fs.toList pls hp
    have hm2:(fs.mapM fun f=>do pure (f.offset,←sizeOf f.type):Sem (Array (Nat×Nat))).run P u = .ok pls.toArray u:=by
     rw[Array.mapM_eq_mapM_toList];simp at hm;simp[hm]
    have hzc:zz.cells=z.toArray:=by rw[←hz]
    simp[execOp,Av,Instr.build,zeroValue,typeInfo,hi,hz2,run_underlying hu];simp at hm2;simp[hm2,hzc];simp at hf;simp[hf]
 simp at hp
end
theorem Z1 {a:List (Nat×Nat)} {z:List Value} {p q:List Value} (ha:a=[(0,8),(8,3)]) (hz:z.length=11) (hp:p.length=8) (hq:q.length=3):
  Instr.fill (a.toArray[·]?) z.toArray [(0,.agg p.toArray),(1,.agg q.toArray)]=some (p++q).toArray:=by
 subst ha
 match z,hz with
 |[z0,z1,z2,z3,z4,z5,z6,z7,z8,z9,z10],_=>
  match p,hp with
  |[p0,p1,p2,p3,p4,p5,p6,p7],_=>
   match q,hq with
   |[q0,q1,q2],_=>simp[Instr.fill,Value.cells]
section
variable {P:Program} {ro:Option Nat} {n0:Nat} {w0:World} {ds:List Deferred} {ops:Array Oper} {Q:Exit→Act→World→Prop} {L:List SA} {rest:List Oper} {l:List Value} {ty:TypeId} {ps:String} {af:Array Edge}
theorem WS.callFg {β:Type} {f:Operand} {args:List Operand} {ts:Array TypeId} {fn:FuncId} {cap:List Value} {vs:List Value} {v:β→Value} {A:β→SA} {p:β→Prop} {i:Nat} {l':β→List Value} {j:Nat} {want:Bool}
  (hw:yielded ops l.toArray j=some want)
  (hf:evo l f=some (.func (.func fn) #[] cap.toArray)) (hv:evs l args=some vs) (he:Ent P fn)
  (hc:∀u,St n0 w0 L u→Calls P fn (vs++cap).toArray u (fun e u'=>∃x,p x∧RetF u (v x) (A x) e u'))
  (hl:∀x,lset l i (v x)=some (l' x)) (k:∀x,p x→WS P ro n0 w0 ds ops Q (A x::L) rest (l' x)):
  WS P ro n0 w0 ds ops Q L (⟨some i,.call ⟨.value f,args.toArray,ts⟩,ty,ps,af,some (j,want)⟩::rest) l:=by
 intro u hu;unfold wpListIn;rw[if_pos (by simp[Region.wanted,hw])];refine⟨fun _ _=>trivial,?_⟩;rw[Bk rfl,Bz]
 have hr:(execOp (ev l) ⟨some i,.call ⟨.value f,args.toArray,ts⟩,ty,ps,af,some (j,want)⟩).run P u = .ok (.enter fn (vs++cap).toArray) u:=by
  have h1:∀(args:Array Value) (w:World),Sem.run P (callFunc fn args) w = .ok (.enter fn args) w:=he;replace hf:=Am hf;replace hv:=F9 hv;subst hv;simp[execOp,hf,resolve,invoke,Deferred.ofValue,h1]
 rw[hr];refine⟨fun h=>by simp[FW]at h,CN ((hc u hu).mono ?_)⟩;rintro e u' ⟨x,hp,rfl,hb,T,hA,hT⟩;show wpListIn (FW ro) 0 P ops Q rest ((Act.mk l.toArray ds).put (some i) (v x)) u';rw[Ax,Ag (hl x)];exact k x hp u' (hu.cons hb hA hT)
end
section
variable {P:Program} {ro:Option Nat} {n0:Nat} {w0:World} {ds:List Deferred} {ops:Array Oper} {Q:Exit→Act→World→Prop} {L:List SA} {rest:List Oper} {l:List Value} {ty:TypeId} {ps:String} {af:Array Edge}
theorem WS.buildHole {T e:TypeId} {by_ i:Nat} {x1 x2 x3 x4:Operand} {a b c d:Int} (hT:sl P T=some (e,1,by_)) (hz:zv P e=some [.int .i64 0])
  (h1:evo l x1=some (.int .i64 a)) (h2:evo l x2=some (.int .i64 b)) (h3:evo l x3=some (.int .i64 c)) (h4:evo l x4=some (.int .i64 d))
  {l':Value→List Value} (hl:∀v,lset l i v=some (l' v)) (k:∀v,WS P ro n0 w0 ds ops Q (oints e v [0,a,b,c,d]::L) rest (l' v)):
  WS P ro n0 w0 ds ops Q L (⟨some i,.buildSlice T 5 #[(1,x1),(2,x2),(3,x3),(4,x4)],ty,ps,af,none⟩::rest) l:=by
 (replace h1:=Am h1;replace h2:=Am h2;replace h3:=Am h3;replace h4:=Am h4)
 refine WS.world rfl rfl fun u hu=>?_;obtain⟨inf,hu1,hi,hs,hby⟩:=BS hT;unfold zv at hz;rw[hi]at hz;cases hz2:inf.zero with
 |none=>simp[hz2]at hz
 |some zz=>
  simp[hz2]at hz
  have hzc:zz.cells = #[.int .i64 0]:=by
   apply Array.ext';simpa using hz
  refine⟨.slice (some ⟨u.heap.size,0,none⟩) 5 5,u.alloc (.cells #[.int .i64 0,.int .i64 a,.int .i64 b,.int .i64 c,.int .i64 d] e),?_,?_⟩
  ·have hic:∀n,(Value.int .i64 n).cells = #[.int .i64 n]:=fun _=>rfl;have e5:Array.range 5 = #[0,1,2,3,4]:=by decide
   simp[execOp,Instr.buildSlice,run_underlying hu1,sizeOf,typeInfo,hi,hs,newRow,zeroValue,hz2,hzc,h1,h2,h3,h4,Instr.fill,hic,e5]
  rw[Ax,Ag (hl _)];refine k _ _ (hu.cons (T:=fun k=>k=u.heap.size) ((Below.refl _ u).alloc (Nat.le_refl _) _) ⟨?_,by simp[ints],.inr ⟨u.heap.size,5,_,rfl,Nat.zero_le _,World.alloc_heap_new u _,Nat.le_refl _,?_,?_,?_⟩⟩ (fun k hk=>by omega))
  ·intro k;simp[Value.ownBlock];exact eq_comm
  ·decide
  ·simp
  simp[ints]
end
def cntM (r:Room):Nat→Nat
 |1=>r.wys.l.length
 |2=>r.prs.l.length
 |3=>r.prs.l.length
 |4=>r.acs.l.length
 |_=>0
def kinM (r:Room) (p:Int):Nat→List Move
 |0=>[]
 |j+1=>kinM r p j++B3 p j (cntM r j)
def allM (r:Room):Nat→List Move
 |0=>[]
 |q+1=>allM r q++kinM r q 5
def cntL (r:Room):List Int:=[0,r.wys.l.length,r.prs.l.length,r.prs.l.length,r.acs.l.length]
theorem Qm (r:Room) {j:Int} (h0:0≤j) (h1:j<5):nth (cntL r) j=cntM r j.toNat:=by
 rcases(show j=0∨j=1∨j=2∨j=3∨j=4 by omega)with h|h|h|h|h<;>subst h<;>rfl
theorem Pc (p k:Int) {n m:Nat} (h:n≤m):B3 p k n <+:B3 p k m:=by
 refine⟨(B3 p k m).drop n,?_⟩;have:B3 p k n=(B3 p k m).take n:=by simp[B3,List.take_range,Nat.min_eq_left h,←List.map_take]
 rw[this,List.take_append_drop]
theorem Ml (r:Room) (p:Int) {j:Nat}:∀{m:Nat},j≤m→kinM r p j <+:kinM r p m
 |0,h=>by
  have:j=0:=by omega
  subst this;exact List.prefix_refl _
 |m+1,h=>by
  by_cases hj:j=m+1
  ·subst hj;exact List.prefix_refl _
  exact(Ml r p (show j≤m by omega)).trans ⟨_,rfl⟩
theorem Lz (r:Room) {j:Nat}:∀{m:Nat},j≤m→allM r j <+:allM r m
 |0,h=>by
  have:j=0:=by omega
  subst this;exact List.prefix_refl _
 |m+1,h=>by
  by_cases hj:j=m+1
  ·subst hj;exact List.prefix_refl _
  exact(Lz r (show j≤m by omega)).trans ⟨_,rfl⟩
def upM (r:Room) (p j n:Int):List Move:=allM r p.toNat++(kinM r p j.toNat++B3 p j n.toNat)
theorem MN {r:Room} {p j n:Int} (h:0≤n):upM r p j n++[⟨p,j,n⟩]=upM r p j (n+1):=by
 unfold upM;rw[FY _ _ h];simp[List.append_assoc]
theorem Ja5 {r:Room} {p j:Int} (h0:0≤j):upM r p j (cntM r j.toNat)=upM r p (j+1) 0:=by
 unfold upM;rw[show(j+1).toNat=j.toNat+1 by omega,kinM,show((j.toNat:Nat):Int)=j by omega];simp[B3]
theorem Jbe {r:Room} {p:Int} (h0:0≤p):upM r p 5 0=upM r (p+1) 0 0:=by
 unfold upM;rw[show(p+1).toNat=p.toNat+1 by omega,allM,show((p.toNat:Nat):Int)=p by omega];simp[B3,kinM]
theorem WM (r:Room) {p:Int} (hp:p=r.ply):upM r p 0 0=allM r r.ply.toNat:=by subst hp;simp[upM,kinM,B3]
theorem P9 {r:Room} {p j n:Int} (h0:0≤p∧p<r.ply) (h1:0≤j∧j<5) (h2:0≤n∧n<cntM r j.toNat):∃post,allM r r.ply.toNat=upM r p j n++⟨p,j,n⟩::post:=by
 have e1:upM r p j n++[⟨p,j,n⟩] <+:allM r r.ply.toNat:=by
  rw[MN h2.1];refine List.IsPrefix.trans ?_ (Lz r (show p.toNat+1≤r.ply.toNat by omega));rw[allM,show((p.toNat:Nat):Int)=p by omega];unfold upM;rw[List.prefix_append_right_inj];refine List.IsPrefix.trans ?_ (Ml r p (show j.toNat+1≤5 by omega));rw[kinM,show((j.toNat:Nat):Int)=j by omega,List.prefix_append_right_inj];exact Pc p j (by omega)
 obtain⟨t,ht⟩:=e1;exact⟨t,by rw[←ht];simp⟩
section
variable {P:Program} {ro:Option Nat} {w0:World} {ds:List Deferred} {Q:Exit→Act→World→Prop} {L:List SA} {l:List Value}
theorem X7 {a b c f:SA} {M G:List SA}:(a::b::(M++(G++[c,f]))).Perm ([a,b,f]++(G++c::M)):=by
 refine List.Perm.cons _ (List.Perm.cons _ ?_);show(M++(G++[c,f])).Perm (f::(G++c::M));refine List.perm_append_comm.trans ?_;rw[List.append_assoc];refine List.Perm.trans (List.Perm.append_left G (List.Perm.swap f c M)) ?_;exact List.perm_middle
theorem XJ {F c:SA} {M G:List SA}:(F::(G++c::M)).Perm (G++c::(M++[F])):=by
 refine List.perm_middle.symm.trans ?_;refine List.Perm.append_left G ?_;exact(List.Perm.swap _ _ _).trans (List.Perm.cons c (List.perm_append_comm (l₁:=[F]) (l₂:=M)))
theorem CS.rangeFuncG {X:Type} {β:Type} {gf:FuncId} {lb:List Value} {A:List SA} {lend:Value→X→SA} {all:List X} {g:Operand} {t:Tmp} {assign body:Code} (G:X→β→List SA)
  (hg:evo l g=some (.func (.func gf) #[] lb.toArray)) (he:Ent P gf) (hi:Iter P w0 gf lb A lend all)
  (M:List X→List SA) (Mx:Code→List X→List SA) {l0:Value→List Value} {l1:Value→β→List Value} (h0:∀v,lset l t v=some (l0 v))
  (ha:∀(v:Value) (x:X) (lr:Nat) (L':List SA) (Q':Exit→Act→World→Prop),(∀b,QS w0.heap.size w0 [] Q' .normal (G x b++lend v x::L') (l1 v b))→CS P (some lr) w0.heap.size w0 [] assign Q' (lend v x::L') (l0 v))
  (hbody:∀(lr:Nat) (pre:List X) (x:X) (post:List X) (v:Value) (b:β) (F:SA),all=pre++x::post→
   CS P (some lr) w0.heap.size w0 [] body (ES w0.heap.size w0 M Mx (lend v x) (pre++[x]) F) (G x b++lend v x::(M pre++[F])) (l1 v b))
  (hdone:∀D,QS w0.heap.size w0 (mark D::ds) Q .normal (recd D (.deferred (some []))::(M all++A)) l)
  (hstop:∀D c pre x post,all=pre++x::post→CS P none w0.heap.size w0 (mark D::ds) c Q (recd D (.deferred (some []))::(Mx c (pre++[x])++A)) l):
  CS P none w0.heap.size w0 ds (.rangeFunc g #[t] assign body) Q (M []++A) l:=by
 intro u hu;refine wpIn_rangeFunc ?_;intro fn hfn;have hu1:=(hu.allocRec (.deferred (some []))).allocRec (.loop (lrec fn l.toArray t assign body u.heap.size .ready none));rw[World.size_alloc]at hu1;obtain⟨W1,hW1⟩:∃W1,(u.alloc (.deferred (some []))).alloc (.loop (lrec fn l.toArray t assign body u.heap.size .ready none))=W1:=⟨_,rfl⟩;have hent:=run_enterLoop_outer (P:=P) (w:=u) fn l.toArray #[t] assign body;rw[show({state:=.ready,pending:=none,fn,tmps:=l.toArray,params:=#[t],assign,body,defers:=u.heap.size}:Loop)=lrec fn l.toArray t assign body u.heap.size .ready none from rfl,hW1]at hent;rw[hW1]at hu1
 generalize u.heap.size=D at hent hu1
 clear hW1 hu
 refine⟨D+1,[mark D],W1,{target:=.fn (.func gf) lb.toArray,args:=#[.func (.yield (D+1)) #[] #[]]},W1,gf,
  #[.func (.yield (D+1)) #[] #[]]++lb.toArray,W1,hent,?_,fun _ _=>trivial,?_,fun h=>by simp[FW]at h,?_⟩
 ·have hg':(Act.mk l.toArray ds).eval g = .func (.func gf) #[] lb.toArray:=by rw[Bz];exact Am hg
  simp only[resolve,hg'];simp[go_sem]
 ·have h1:∀(args:Array Value) (w:World),Sem.run P (callFunc gf args) w = .ok (.enter gf args) w:=he;simp[invoke,go_sem,h1]
 have hcall:=hi (D+1) (fun pre=>star ([recd (D+1) (.loop (lrec fn l.toArray t assign body D .ready none)),recd D (.deferred (some []))]++M pre))
  (fun pre=>exS fun c:Code=>star ([recd (D+1) (.loop (lrec fn l.toArray t assign body D .done (some c))),recd D (.deferred (some []))]++Mx c pre)) ?_ W1
  (St.pack (L1:=[recd (D+1) (.loop (lrec fn l.toArray t assign body D .ready none)),recd D (.deferred (some []))]++M []) hu1)
 ·have e:(Value.func (.yield (D+1)) #[] #[]::lb).toArray = #[Value.func (.yield (D+1)) #[] #[]]++lb.toArray:=by apply Array.ext';simp
  rw[e]at hcall;have hcall':=(callsIn_wide (n:=0)).2 hcall;refine CallsIn.mono hcall' ?_;rintro e u' ⟨⟨v,rfl⟩,hs|⟨pre,x,post,hall,hs⟩⟩
  ·have hs2:=hs.unpack;obtain⟨_,hl⟩:=St.rec_ (j:=0) rfl hs2;exact⟨none,_,run_endLoop hl (by simp[lrec]),hdone D _ (hs2.putRec (j:=0) rfl _).tail⟩
  obtain⟨c,hs1⟩:=hs.ex;have hs2:=hs1.unpack;obtain⟨_,hl⟩:=St.rec_ (j:=0) rfl hs2;exact⟨some c,_,run_endLoop hl (by simp[lrec]),hstop D c pre x post hall _ (hs2.putRec (j:=0) rfl _).tail⟩
 intro pre x post hall F v u1 hs;have hs1:=St.unpack hs;obtain⟨_,hl⟩:=St.rec_ (j:=0) rfl hs1;have hy:=run_yield (P:=P) (args:=#[v]) hl (by simp[lrec])
 have et:((lrec fn l.toArray t assign body D .ready none).params.zip #[v]).foldl (fun tmps (t,a)=>tmps.setIfInBounds t a) (lrec fn l.toArray t assign body D .ready none).tmps=(l0 v).toArray:=by
  have:=Ag (h0 v);simp[lrec,←this]
 rw[et]at hy;refine⟨fn,_,assign,body,hy,roundIn_of_wpIn (F:=FW none) trivial ?_⟩;refine ha v x (D+1) _ _ ?_ u1 (hs.perm (List.Perm.swap _ _ _));intro b u2 hs2
 have hs2':St w0.heap.size w0 (star ([recd (D+1) (.loop (lrec fn l.toArray t assign body D .ready none)),recd D (.deferred (some []))]++M pre)::(G x b++[lend v x,F])) u2:=hs2.perm (by
  refine List.Perm.trans ?_ List.perm_middle
  exact List.Perm.append_left _ (List.Perm.swap _ _ _))
 have hs3:=St.unpack hs2';obtain⟨_,hl2⟩:=St.rec_ (j:=0) rfl hs3;refine⟨_,run_beginRound hl2 rfl,?_⟩;have hs4:=(hs3.putRec (j:=0) rfl (.loop (lrec fn l.toArray t assign body D .busy none)));have hs5:=(((hs4.perm X7).pack).perm XJ);refine wpIn_mono (hbody (D+1) pre x post v b _ hall _ hs5) ?_
 have back:∀{M':List SA} {u4:World},St w0.heap.size w0 (lend v x::(M'++[star [recd (D+1) (.loop (lrec fn l.toArray t assign body D .busy none)),recd D (.deferred (some [])),F]])) u4→
   St w0.heap.size w0 (recd (D+1) (.loop (lrec fn l.toArray t assign body D .busy none))::recd D (.deferred (some []))::(M'++[lend v x,F])) u4:=fun h=>((h.perm perm6.symm).unpack).perm perm5.symm
 rintro e a u4 hq;cases e with
 |normal=>
  have h4:=back hq;obtain⟨_,hl4⟩:=St.rec_ (j:=0) rfl h4;exact⟨_,_,run_endRound none hl4,.inl ⟨rfl,St.pack (L1:=_::_::M (pre++[x])) (h4.putRec (j:=0) rfl (.loop (lrec fn l.toArray t assign body D .ready none)))⟩⟩
 |ret=>
  have h4:=back hq;obtain⟨_,hl4⟩:=St.rec_ (j:=0) rfl h4;exact⟨_,_,run_endRound (some .ret) hl4,.inr ⟨rfl,St.exI .ret (St.pack (L1:=_::_::Mx .ret (pre++[x])) (h4.putRec (j:=0) rfl (.loop (lrec fn l.toArray t assign body D .done (some .ret)))))⟩⟩
 |exit i=>
  have h4:=back hq;obtain⟨_,hl4⟩:=St.rec_ (j:=0) rfl h4;exact⟨_,_,run_endRound (some (.exit i)) hl4,.inr ⟨rfl,St.exI (.exit i) (St.pack (L1:=_::_::Mx (.exit i) (pre++[x])) (h4.putRec (j:=0) rfl (.loop (lrec fn l.toArray t assign body D .done (some (.exit i))))))⟩⟩
 |goto i=>exact hq.elim
 |panic c=>exact hq.elim
 |outgrown=>exact hq.elim
theorem CS.rangeB {X:Type} {gf:FuncId} {lb:List Value} {A:List SA} {all:List X} {x:Operand} {t t2 id:Tmp} {body:Code} {T n ty1 ty2:TypeId} {ps1 ps2:String} {af1 af2:Array Edge} {zs:List Value} {V:X→Value} (cs:X→List Value) (hV:∀x,V x = .agg (cs x).toArray) (hcl:∀x,(cs x).length=n) (hc1:∀x,∀v∈cs x,v.oneCell'=true)
  (hz:zv P T=some zs) (hzl:zs.length=n) (hT:tk P T=some (true,n)) (hne:t≠t2)
  (hg:evo l x=some (.func (.func gf) #[] lb.toArray)) (he:Ent P gf) (hi:Iter P w0 gf lb A (fun v x=>fact (v=V x)) all)
  (M:List X→List SA) (Mx:Code→List X→List SA) {l0:Value→List Value} {l1:Value→Nat→List Value} (h0:∀v,lset l t v=some (l0 v)) (ht:t<l.length) (h1:∀v b,lset (l0 v) t2 (.pointer (some ⟨b,0,none⟩))=some (l1 v b)) (ht2:∀v,t2<(l0 v).length)
  (hbody:∀(lr:Nat) (pre:List X) (x:X) (post:List X) (v:Value) (b:Nat) (F:SA),all=pre++x::post→
   CS P (some lr) w0.heap.size w0 [] body (ES w0.heap.size w0 M Mx (fact (v=V x)) (pre++[x]) F) (blk b (cs x) T::fact (v=V x)::(M pre++[F])) (l1 v b))
  (hdone:∀D,QS w0.heap.size w0 (mark D::ds) Q .normal (recd D (.deferred (some []))::(M all++A)) l)
  (hstop:∀D c pre x post,all=pre++x::post→CS P none w0.heap.size w0 (mark D::ds) c Q (recd D (.deferred (some []))::(Mx c (pre++[x])++A)) l):
  CS P none w0.heap.size w0 ds (.rangeFunc x #[t] (.region id #[⟨some t2,.alloc T,ty1,ps1,af1,none⟩,⟨none,.store T (.tmp t2) (.tmp t),ty2,ps2,af2,none⟩] false) body) Q (M []++A) l:=
 CS.rangeFuncG (β:=Nat) (l0:=l0) (l1:=l1) (fun x b=>[blk b (cs x) T]) hg he hi M Mx h0 (fun v x lr L' Q' k=>CS.factE (j:=0) rfl fun hv=>CS.region (os:=[_,_]) (WS.alloc hz (h1 v) fun b _=>by
  have e1:(l1 v b)[t2]? = some (.pointer (some ⟨b,0,none⟩)):=Iw (h1 v b) (ht2 v)
  have e2:(l1 v b)[t]? = some (V x):=by
   have h2:=Ag (h1 v b);have h3:=Iw (h0 v) ht;rw[←h2,List.getElem?_set_ne (Ne.symm hne),h3,hv]
  refine WS.storeW (j:=0) (b:=b) (c:=zs) (vs:=cs x) (e:=T) (n:=n) (by simpa [evo]using e1) rfl (by rw[←hV x];simpa [evo]using e2) (by rw[hcl,hzl]) (hc1 x) hT (hcl x) rfl ?_
  exact WS.done (k b))) hbody hdone hstop
end
theorem FE {q:Int→Int→Prop} {l:List Int} {n v:Int} (h0:0≤n) (h:∀i:Int,0≤i→i<l.length→q i (nth l i)) (hv:q n v):∀i:Int,0≤i→i<(l.set n.toNat v).length→q i (nth (l.set n.toNat v) i):=fun i a b=>by
 rw[List.length_set]at b
 by_cases hi:i=n
 ·subst hi;rw[BI a b];exact hv
 rw[AU h0 a hi];exact h i a b
theorem FV {q:Int→Int→Prop} {v:Int}:∀{ps l:List Int},(∀p∈ps,0≤p∧q p v)→(∀i:Int,0≤i→i<l.length→q i (nth l i))→∀i:Int,0≤i→i<(BA v l ps).length→q i (nth (BA v l ps) i)
 |[],l,_,h=>h
 |p::ps,l,hp,h=>FV (ps:=ps) (l:=l.set p.toNat v) (fun x hx=>hp x (by simp[hx])) (FE (hp p (by simp)).1 h (hp p (by simp)).2)
theorem Io {q:Int→Int→Prop}:∀{ps:List Put} {l:List Int},(∀p∈ps,0≤p.t∧q p.t p.s)→(∀i:Int,0≤i→i<l.length→q i (nth l i))→∀i:Int,0≤i→i<(DL l ps).length→q i (nth (DL l ps) i)
 |[],l,_,h=>h
 |p::ps,l,hp,h=>Io (ps:=ps) (l:=l.set p.t.toNat p.s) (fun x hx=>hp x (by simp[hx])) (FE (hp p (by simp)).1 h (hp p (by simp)).2)
theorem Ha {r:Room} {n:Int} (h:0≤n∧n<r.pls.l.length):placeB r n=true:=by
 simp only[placeB,Bool.and_eq_true,decide_eq_true_eq];omega
theorem GL {r:Room} (hR:Ready r) {x:P3}:∀{n:Nat} {ths:List Int} {o:List Int},StIn r (ths,x.2.1,x.2.2)→settleN r.aus.l n ths=some o→StIn r (o,x.2.1,x.2.2)
 |0,_,_,_,h=>by cases h
 |n+1,ths,o,hI,h=>by
  rw[settleN]at h;split at h
  ·cases h;exact hI
  rename_i hn;have hl:=IG hn;have ha:=hR.aut _ (Ad hl.1 hl.2);have hp:=G5 ha;refine GL hR (n:=n) (ths:=ths.set (nth r.aus.l (autoI r.aus.l ths)).t.toNat (nth r.aus.l (autoI r.aus.l ths)).s) ⟨?_,hI.lp,hI.ll,?_,hI.pr,hI.pl⟩ h
  ·have:=hI.lt;simpa using this
  exact FE (q:=fun i v=>putB r.ths.l i v=true) (l:=ths) hp.1 hI.th ha
theorem D5 {r:Room} (hR:Ready r) {x y:P3} (hI:StIn r x) (h:settleV r x=some y):StIn r y:=by
 unfold settleV at h;obtain⟨o,ho,rfl⟩:=Option.map_eq_some_iff.1 h;exact GL hR (ths:=x.1) hI ho
theorem JK {r:Room} (hR:Ready r) {x:P3} (hI:StIn r x) {m:Move} (hL:legalB r x m=true):StIn r (moveX r x m):=by
 have hM:=G2 hR hI hL;have hl:=hI.ll;have hln:=Hr (r:=r) (x:=x) (m:=m);have hat:=hI.at hM.p.1 hM.p.2.1;refine⟨hln.1.trans hI.lt,hln.2.1.trans hI.lp,by rw[hln.2.2];exact hl,?_,?_,?_⟩
 ·unfold moveX;split
  ·exact hI.th
  split
  ·exact hI.th
  split
  ·exact hI.th
  split
  ·rename_i h4;have hn:=hM.ac h4;have ha:=hR.acs _ (Ad hn.1 hn.2);exact Io (q:=fun i v=>putB r.ths.l i v=true) (fun p hp=>⟨(G5 (ha.se p hp)).1,ha.se p hp⟩) hI.th
  exact hI.th
 ·have hq:(decide (-2-r.ply+1≤-2-m.p)&&decide (-2-m.p≤-2))=true:=by
   have:=hM.p;simp only[Bool.and_eq_true,decide_eq_true_eq];omega
  unfold moveX;split
  ·exact hI.pr
  split
  ·rename_i h2;exact FE (q:=fun i v=>(placeB r v||(decide (v = -1)||(decide (-2-r.ply+1≤v)&&decide (v≤-2))))=true) (hM.pr (.inl h2)).1 hI.pr (by rw[hq];simp)
  split
  ·rename_i h3;exact FE (q:=fun i v=>(placeB r v||(decide (v = -1)||(decide (-2-r.ply+1≤v)&&decide (v≤-2))))=true) (hM.pr (.inr h3)).1 hI.pr (by rw[Ha hat];simp)
  split
  ·rename_i h4;have hn:=hM.ac h4;have ha:=hR.acs _ (Ad hn.1 hn.2)
   exact FV (q:=fun i v=>(placeB r v||(decide (v = -1)||(decide (-2-r.ply+1≤v)&&decide (v≤-2))))=true) (fun p hp=>⟨(ha.br p hp).1,by rw[hq];simp⟩)
    (FV (q:=fun i v=>(placeB r v||(decide (v = -1)||(decide (-2-r.ply+1≤v)&&decide (v≤-2))))=true) (fun p hp=>⟨(ha.sp p hp).1,by simp⟩) hI.pr)
  exact hI.pr
 unfold moveX;split
 ·rename_i h1;have hn:=hM.go h1;have hw:=hR.wys _ (Ad hn.1 hn.2);refine FE (q:=fun i v=>placeB r v=true) hM.p.1 hI.pl ?_
  have hg:(nth r.wys.l m.n).a=nth x.2.2 m.p∨(nth r.wys.l m.n).b=nth x.2.2 m.p:=by
   unfold legalB at hL;split at hL
   ·simp only[goB,Bool.and_eq_true,Bool.or_eq_true,decide_eq_true_eq]at hL;exact hL.1.2
   cases hL
  rcases hg with h|h
  ·exact Ha (by have:=hw.2.2;omega)
  exact Ha (by have:=hw.2.1;omega)
 split
 ·exact hI.pl
 split
 ·exact hI.pl
 split
 ·exact hI.pl
 exact hI.pl
theorem JU {f:Move→Bool} {p k:Int} {c m:Nat} (hc:c≤m) (h:∀n:Int,(c:Int)≤n→f ⟨p,k,n⟩=false):(B3 p k m).filter f=(B3 p k c).filter f:=by
 obtain⟨d,rfl⟩:∃d,m=c+d:=⟨m-c,by omega⟩
 have e:B3 p k (c+d)=B3 p k c++(List.range d).map fun i:Nat=>(⟨p,k,((c+i:Nat):Int)⟩:Move):=by
  simp[B3,List.range_add]
 have e2:(List.filter f ((List.range d).map fun i:Nat=>(⟨p,k,((c+i:Nat):Int)⟩:Move)))=[]:=by
  rw[List.filter_eq_nil_iff];intro x hx;obtain⟨i,_,rfl⟩:=List.mem_map.1 hx;rw[h _ (by omega)];simp
 rw[e,List.filter_append,e2,List.append_nil]
theorem NA {r:Room} {x:P3} {p k n:Int} (hk:1≤k∧k≤4) (hn:(cntM r k.toNat:Int)≤n):legalB r x ⟨p,k,n⟩=false:=by
 unfold legalB;split
 ·rcases(show k=1∨k=2∨k=3∨k=4 by omega)with h|h|h|h<;>subst h
  ·rw[if_pos rfl];have hn:(r.wys.l.length:Int)≤n:=hn;unfold goB;simp only[Bool.and_eq_false_iff,decide_eq_false_iff_not];exact .inl (.inl (.inr (by omega)))
  ·rw[if_neg (show¬(2:Int)=1 by decide),if_pos rfl];have hn:(r.prs.l.length:Int)≤n:=hn;unfold Np;simp only[Bool.and_eq_false_iff,decide_eq_false_iff_not];exact .inl (.inl (.inl (.inr (by omega))))
  ·rw[if_neg (show¬(3:Int)=1 by decide),if_neg (show¬(3:Int)=2 by decide),if_pos rfl];have hn:(r.prs.l.length:Int)≤n:=hn;unfold NO;simp only[Bool.and_eq_false_iff,decide_eq_false_iff_not];exact .inl (.inr (by omega))
  rw[if_neg (show¬(4:Int)=1 by decide),if_neg (show¬(4:Int)=2 by decide),if_neg (show¬(4:Int)=3 by decide),if_pos rfl];have hn:(r.acs.l.length:Int)≤n:=hn;unfold doB;simp only[Bool.and_eq_false_iff,decide_eq_false_iff_not];exact .inl (.inr (by omega))
 rfl
theorem QN {r:Room} (hR:Ready r) (k:Nat):cntM r k≤24:=by
 have:=hR.lens;unfold cntM;split<;>omega
theorem KM {r:Room} (hR:Ready r) (x:P3) (p:Int):(kinM r p 5).filter (legalB r x)=(EE p 4).filter (legalB r x):=by
 have h:=fun(k:Nat) (hk:1≤k∧k≤4)=>JU (f:=legalB r x) (p:=p) (k:=(k:Int)) (c:=cntM r k) (m:=24) (QN hR k) (fun n hn=>NA (by omega) (by simpa using hn));have h1:=h 1 (by omega);have h2:=h 2 (by omega);have h3:=h 3 (by omega);have h4:=h 4 (by omega);simp only[kinM,EE,List.filter_append];have h0:B3 p (0:Nat) (cntM r 0)=[]:=rfl;rw[h0,List.filter_nil];rw[show((0:Nat):Int)+1=((1:Nat):Int)from rfl,show((1:Nat):Int)+1=((2:Nat):Int)from rfl,show((2:Nat):Int)+1=((3:Nat):Int)from rfl,show((3:Nat):Int)+1=((4:Nat):Int)from rfl,h1,h2,h3,h4,List.nil_append]
theorem Hg {r:Room} (hR:Ready r) (x:P3):∀q,(allM r q).filter (legalB r x)=(DW q).filter (legalB r x)
 |0=>rfl
 |q+1=>by rw[allM,DW,List.filter_append,List.filter_append,Hg hR x q,KM hR]
theorem Mt {r:Room} (hR:Ready r) (p:Int):∀j,(kinM r p j).length≤j*24
 |0=>by simp[kinM]
 |j+1=>by
  have:=Mt hR p j;have:=QN hR j;simp only[kinM,List.length_append,Hn];omega
theorem M0 {r:Room} (hR:Ready r):∀q,(allM r q).length≤q*120
 |0=>by simp[allM]
 |q+1=>by
  have:=M0 hR q;have:=Mt hR q 5;simp only[allM,List.length_append];omega
theorem DC {α β:Type} [Inhabited α] [Inhabited β] (f:α→β) (hd:f default=default) (l:List α) (i:Int):nth (l.map f) i=f (nth l i):=by
 unfold nth;simp only[List.getD_eq_getElem?_getD,List.getElem?_map];cases h:l[i.toNat]? with
 |none=>simp[hd]
 |some a=>simp
structure Alike (c r:Room):Prop where
 pls:c.pls.l=r.pls.l
 ths:c.ths.l=r.ths.l
 lprs:c.prs.l.length=r.prs.l.length
 prs:c.prs.l.map Pro.e=r.prs.l.map Pro.e
 pr:∀i,(nth c.prs.l i).nm=(nth r.prs.l i).nm∧(nth c.prs.l i).pl=(nth r.prs.l i).pl∧(nth c.prs.l i).wh.l=(nth r.prs.l i).wh.l
 lwys:c.wys.l.length=r.wys.l.length
 wy:∀i,(nth c.wys.l i).a=(nth r.wys.l i).a∧(nth c.wys.l i).b=(nth r.wys.l i).b∧(nth c.wys.l i).wh.l=(nth r.wys.l i).wh.l
 lacs:c.acs.l.length=r.acs.l.length
 acs:c.acs.l.map Actn.e=r.acs.l.map Actn.e
 ac:∀i,(nth c.acs.l i).e=(nth r.acs.l i).e
 laus:c.aus.l.length=r.aus.l.length
 aus:c.aus.l.map Auto.e=r.aus.l.map Auto.e
 au:∀i,(nth c.aus.l i).t=(nth r.aus.l i).t∧(nth c.aus.l i).s=(nth r.aus.l i).s∧(nth c.aus.l i).wh.l=(nth r.aus.l i).wh.l
 ply:c.ply=r.ply
 gl:c.gl.l=r.gl.l
theorem Hq {α:Type} {a b:Sl α} (h:a.e (id:α→α)=b.e id):a.l=b.l:=by
 have:=congrArg Sl.l h
 simpa [Sl.e]using this
theorem Ec {α β:Type} {f:α→β} {a b:Sl α} (h:a.e f=b.e f):a.l.map f=b.l.map f:=congrArg Sl.l h
theorem Tf {α β:Type} [Inhabited α] [Inhabited β] {f:α→β} (hd:f default=default) {l m:List α} (h:l.map f=m.map f) (i:Int):f (nth l i)=f (nth m i):=by
 rw[←DC f hd,←DC f hd,h]
theorem RV {c r:Room} (h:c.e=r.e):Alike c r:=by
 have h1:c.pls.e id=r.pls.e id:=congrArg Room.pls h;have h2:c.ths.e id=r.ths.e id:=congrArg Room.ths h;have h3:c.prs.e Pro.e=r.prs.e Pro.e:=congrArg Room.prs h;have h4:c.wys.e Way.e=r.wys.e Way.e:=congrArg Room.wys h;have h5:c.acs.e Actn.e=r.acs.e Actn.e:=congrArg Room.acs h;have h6:c.aus.e Auto.e=r.aus.e Auto.e:=congrArg Room.aus h;have h7:c.gl.e id=r.gl.e id:=congrArg Room.gl h;refine⟨Hq h1,Hq h2,DF (Ec h3),Ec h3,fun i=>?_,DF (Ec h4),fun i=>?_,DF (Ec h5),Ec h5,fun i=>Tf (f:=Actn.e) rfl (Ec h5) i,DF (Ec h6),Ec h6,fun i=>?_,(by have:=congrArg Room.ply h;exact this),Hq h7⟩
 ·have:=Tf (f:=Pro.e) rfl (Ec h3) i;have a1:=congrArg Pro.nm this;have a2:=congrArg Pro.pl this;have a3:=congrArg Pro.wh this;exact⟨a1,a2,Hq a3⟩
 ·have:=Tf (f:=Way.e) rfl (Ec h4) i;have a1:=congrArg Way.a this;have a2:=congrArg Way.b this;have a3:=congrArg Way.wh this;exact⟨a1,a2,Hq a3⟩
 have:=Tf (f:=Auto.e) rfl (Ec h6) i;have a1:=congrArg Auto.t this;have a2:=congrArg Auto.s this;have a3:=congrArg Auto.wh this;exact⟨a1,a2,Hq a3⟩
structure AlikeA (a b:Actn):Prop where
 nm:a.nm=b.nm
 pl:a.pl=b.pl
 lk:a.lk=b.lk
 us:a.us.l=b.us.l
 wh:a.wh.l=b.wh.l
 se:a.se.l=b.se.l
 sp:a.sp.l=b.sp.l
 br:a.br.l=b.br.l
theorem H0 {a b:Actn} (h:a.e=b.e):AlikeA a b:=by
 have a1:=congrArg Actn.nm h;have a2:=congrArg Actn.pl h;have a3:=congrArg Actn.lk h;have a4:=congrArg Actn.us h;have a5:=congrArg Actn.wh h;have a6:=congrArg Actn.se h;have a7:=congrArg Actn.sp h;have a8:=congrArg Actn.br h;exact⟨a1,a2,a3,Hq a4,Hq a5,Hq a6,Hq a7,Hq a8⟩
theorem L7 {α:Type} [Inhabited α] {f:α→ByteArray} {l m:List α} (h:l.map f=m.map f) (hn:∀i,f (nth l i)=f (nth m i)) (i:Int):newB f l i=newB f m i:=by
 unfold newB
 have e:∀(l:List α) (x:ByteArray),((l.take i.toNat).any fun y=>seq (f y) x)=(((l.map f).take i.toNat).any fun y=>seq y x):=fun l x=>by
  rw[←List.map_take,List.any_map];rfl
 rw[e,e,h,hn]
theorem L3 {α β:Type} (f:α→β) (p:α→Bool) (q:β→Bool) (hp:∀a,p a=q (f a)) (l:List α):idxF p l=idxF q (l.map f):=by
 unfold idxF;rw[List.findIdx?_map,show(q∘f)=p from funext fun a=>(hp a).symm]
theorem Alike.nms {c r:Room} (h:Alike c r):c.prs.l.map Pro.nm=r.prs.l.map Pro.nm:=by
 have:=congrArg (List.map Pro.nm) h.prs
 simpa [List.map_map,Function.comp_def,Pro.e]using this
theorem Alike.anms {c r:Room} (h:Alike c r):c.acs.l.map Actn.nm=r.acs.l.map Actn.nm:=by
 have:=congrArg (List.map Actn.nm) h.acs
 simpa [List.map_map,Function.comp_def,Actn.e]using this
theorem Alike.manyB {c r:Room} (h:Alike c r):manyB c=manyB r:=by unfold YtmoojmgihdgceaaGreatDoor.manyB;rw[h.pls,h.ths,h.lprs,h.lwys,h.lacs,h.laus]
theorem Alike.placeB {c r:Room} (h:Alike c r) (n:Int):placeB c n=placeB r n:=by unfold YtmoojmgihdgceaaGreatDoor.placeB;rw[h.pls]
theorem Alike.plO {c r:Room} (h:Alike c r):plO c=plO r:=by funext i;unfold YtmoojmgihdgceaaGreatDoor.plO;rw[h.pls]
theorem Alike.thO {c r:Room} (h:Alike c r):thO c=thO r:=by funext i;unfold YtmoojmgihdgceaaGreatDoor.thO thB;rw[h.ths,h.placeB]
theorem Alike.whO {c r:Room} (h:Alike c r) (l:List Lit):whO c l=whO r l:=by unfold YtmoojmgihdgceaaGreatDoor.whO;rw[h.ths]
theorem Alike.prO {c r:Room} (h:Alike c r):prO c=prO r:=by
 funext i;unfold YtmoojmgihdgceaaGreatDoor.prO;rw[h.whO,L7 h.nms (fun i=>(h.pr i).1),(h.pr i).1,(h.pr i).2.1,(h.pr i).2.2,h.placeB]
theorem Alike.wyO {c r:Room} (h:Alike c r):wyO c=wyO r:=by
 funext i;unfold YtmoojmgihdgceaaGreatDoor.wyO;rw[h.whO,(h.wy i).1,(h.wy i).2.1,(h.wy i).2.2,h.placeB,h.placeB]
theorem Alike.actB {c r:Room} (h:Alike c r) (i:Int):actB c i=actB r i:=by
 have ha:=H0 (h.ac i);unfold YtmoojmgihdgceaaGreatDoor.actB act2 act3 act4 act5;rw[L7 h.anms (fun i=>(H0 (h.ac i)).nm),ha.nm,ha.pl,ha.lk,ha.us,ha.se,ha.sp,ha.br,h.placeB,h.lprs,h.ths]
theorem Alike.acO {c r:Room} (h:Alike c r):acO c=acO r:=by
 funext i;unfold YtmoojmgihdgceaaGreatDoor.acO;rw[h.whO,h.actB,(H0 (h.ac i)).wh]
theorem Alike.auO {c r:Room} (h:Alike c r):auO c=auO r:=by
 funext i;unfold YtmoojmgihdgceaaGreatDoor.auO;rw[h.whO,h.ths,(h.au i).1,(h.au i).2.1,(h.au i).2.2]
theorem Alike.checkE {c r:Room} (h:Alike c r):checkE c=checkE r:=by
 unfold YtmoojmgihdgceaaGreatDoor.checkE F6 HO Gc Gh Ge Gg glO;rw[h.manyB,h.plO,h.thO,h.prO,h.wyO,h.acO,h.auO,h.whO,h.pls,h.ths,h.lprs,h.lwys,h.lacs,h.laus,h.ply,h.gl]
theorem Alike.stE {c r:Room} (h:Alike c r) (a b d:List Int):stE c a b d=stE r a b d:=by
 have e1:ED c a=ED r a:=by funext i;unfold ED;rw[h.ths]
 have e2:EQ c b=EQ r b:=by funext i;unfold EQ;rw[h.placeB,h.ply]
 have e3:EN c d=EN r d:=by funext i;unfold EN;rw[h.placeB]
 unfold YtmoojmgihdgceaaGreatDoor.stE;rw[e1,e2,e3,h.ths,h.lprs,h.ply]
theorem Alike.stL {c r:Room} (h:Alike c r) (x:P3):stL c x=stL r x:=by unfold YtmoojmgihdgceaaGreatDoor.stL;rw[h.checkE,h.stE]
theorem Alike.autoI {c r:Room} (h:Alike c r) (ths:List Int):autoI c.aus.l ths=autoI r.aus.l ths:=by
 unfold YtmoojmgihdgceaaGreatDoor.autoI;rw[L3 Auto.e _ (fun a=>Bt ths a.wh.l&&!decide (nth ths a.t=a.s)) (fun a=>by simp[Auto.e,Sl.e]),h.aus,←L3 Auto.e (fun a=>Bt ths a.wh.l&&!decide (nth ths a.t=a.s)) _ (fun a=>by simp[Auto.e,Sl.e])]
theorem Alike.settleN {c r:Room} (h:Alike c r):∀(n:Nat) (ths:List Int),settleN c.aus.l n ths=settleN r.aus.l n ths
 |0,_=>rfl
 |n+1,ths=>by rw[YtmoojmgihdgceaaGreatDoor.settleN,YtmoojmgihdgceaaGreatDoor.settleN,h.autoI,(h.au _).1,(h.au _).2.1,Alike.settleN h n]
theorem Alike.settleV {c r:Room} (h:Alike c r) (x:P3):settleV c x=settleV r x:=by unfold YtmoojmgihdgceaaGreatDoor.settleV;rw[h.settleN]
theorem Alike.SettleV {c r:Room} (h:Alike c r) (x:P3):SettleV c x=SettleV r x:=by
 unfold YtmoojmgihdgceaaGreatDoor.SettleV;rw[h.stL,h.settleV];cases YtmoojmgihdgceaaGreatDoor.settleV r x<;>rfl
theorem Alike.HoldsV {c r:Room} (h:Alike c r) (x:P3) (l:List Lit):HoldsV c x l=HoldsV r x l:=by unfold YtmoojmgihdgceaaGreatDoor.HoldsV;rw[h.stL,h.ths]
theorem Alike.BeginV {c r:Room} (h:Alike c r):BeginV c=BeginV r:=by
 have e:Cf c=Cf r:=by
  have:=congrArg (List.map Pro.pl) h.prs;rw[List.map_map,List.map_map]at this;unfold Cf;rw[h.ths,h.ply,show c.prs.l.map Pro.pl=r.prs.l.map Pro.pl from this]
 unfold YtmoojmgihdgceaaGreatDoor.BeginV;rw[h.checkE,e,h.SettleV]
theorem Alike.legalB {c r:Room} (h:Alike c r) (x:P3) (m:Move):legalB c x m=legalB r x m:=by
 have ha:=H0 (h.ac m.n);unfold YtmoojmgihdgceaaGreatDoor.legalB goB Np NO doB Nn JI Ph;rw[h.ply,h.lwys,h.lprs,h.lacs,(h.wy m.n).1,(h.wy m.n).2.1,(h.wy m.n).2.2,(h.pr m.n).2.2,ha.us,ha.br,ha.sp,ha.pl,ha.wh]
theorem Alike.moveX {c r:Room} (h:Alike c r) (x:P3) (m:Move):moveX c x m=moveX r x m:=by
 have ha:=H0 (h.ac m.n);unfold YtmoojmgihdgceaaGreatDoor.moveX;rw[(h.wy m.n).1,(h.wy m.n).2.1,ha.se,ha.sp,ha.br]
theorem Alike.StepV {c r:Room} (h:Alike c r) (x:P3) (m:Move):StepV c x m=StepV r x m:=by
 unfold YtmoojmgihdgceaaGreatDoor.StepV;rw[h.stL,h.legalB,h.moveX,h.settleV];cases YtmoojmgihdgceaaGreatDoor.settleV r (YtmoojmgihdgceaaGreatDoor.moveX r x m)<;>rfl
theorem Alike.LegalV {c r:Room} (h:Alike c r) (x:P3):LegalV c x=LegalV r x:=by
 unfold YtmoojmgihdgceaaGreatDoor.LegalV AF;rw[h.stL,h.ply,show YtmoojmgihdgceaaGreatDoor.legalB c x=YtmoojmgihdgceaaGreatDoor.legalB r x from funext fun m=>h.legalB x m]
theorem Alike.symm {c r:Room} (h:c.e=r.e):Alike r c:=RV h.symm
theorem Y9 {c r:Room} (h:c.e=r.e) (hn:Near r):Near c:=by
 have ha:=RV h;have hp:=fun i=>(ha.pr i);refine⟨by rw[ha.pls];exact hn.pls,by rw[ha.ths];exact hn.ths,by rw[ha.lprs];exact hn.prs,by rw[ha.lwys];exact hn.wys,by rw[ha.lacs];exact hn.acs,by rw[ha.laus];exact hn.aus,by rw[ha.gl];exact hn.gl,by rw[ha.pls];exact hn.pl,by rw[ha.ths];exact hn.th,fun x hx=>?_,fun x hx=>?_,fun x hx=>?_,fun x hx=>?_⟩
 ·obtain⟨i,h0,h1,rfl⟩:=Bg hx;have:=hn.pr _ (Ad (i:=i) h0 (by rw[←ha.lprs];exact h1));rw[(ha.pr i).1,(ha.pr i).2.2];exact this
 ·obtain⟨i,h0,h1,rfl⟩:=Bg hx;have:=hn.wy _ (Ad (i:=i) h0 (by rw[←ha.lwys];exact h1));rw[(ha.wy i).2.2];exact this
 ·obtain⟨i,h0,h1,rfl⟩:=Bg hx;have:=hn.ac _ (Ad (i:=i) h0 (by rw[←ha.lacs];exact h1));have hb:=H0 (ha.ac i);rw[hb.nm,hb.wh,hb.us,hb.se,hb.sp,hb.br];exact this
 obtain⟨i,h0,h1,rfl⟩:=Bg hx;have:=hn.au _ (Ad (i:=i) h0 (by rw[←ha.laus];exact h1));rw[(ha.au i).2.2];exact this
section
variable {P:Program} {l:List Value} {d:Option Tmp} {ty:TypeId} {ps:String} {af:Array Edge} {g:Option (Nat×Bool)} {C:World→Prop}
theorem BL {T T':TypeId} {x y:Operand} {a b:ByteArray} (hx:evo l x=some (.string a)) (hy:evo l y=some (.string b)) (h:a.size+b.size≤9223372036854775807):
  Det P C ⟨d,.binOp .add T x y T',ty,ps,af,g⟩ l (.string (a++b)):=fun u _=>by
 (replace hx:=Am hx;replace hy:=Am hy)
 have h2:¬(9223372036854775807<((a.size:Nat):Int)+(b.size:Nat)):=by omega
 simp[execOp,Av,hx,hy,eqGuard,binOp,Op.stringOp,h2]
theorem RA {T:TypeId} {x y z:Operand} {a:ByteArray} {i j:Int} (hT:P.underlying T=some .string) (hx:evo l x=some (.string a)) (hy:evo l y=some (.int .i64 i)) (hz:evo l z=some (.int .i64 j))
  (h:0≤i∧i≤j∧j≤a.size):Det P C ⟨d,.slice T x (some y) (some z) none,ty,ps,af,g⟩ l (.string (a.extract i.toNat j.toNat)):=fun u _=>by
 (replace hx:=Am hx;replace hy:=Am hy;replace hz:=Am hz)
 have e1:(0≤j∧j≤(a.size:Int)):=by omega
 have e2:0≤i∧i≤max j 0:=by omega
 simp[execOp,Av,hx,hy,hz,Instr.sliceAt,Instr.slice,Instr.sliceBounds,Instr.sliceBound,asIntOf,run_underlying hT,e1,e2]
end
def digB (n:Int):ByteArray:=⟨(Lib.decDigits n.toNat).toArray⟩
def whP (r:Room) (v:Int):ByteArray:=if 0≤v then nth r.pls.l v else if v≤-2 then digB (-2-v)else⟨#[103,111,110,101]⟩
def pcT (r:Room) (x:P3) (i:Int):ByteArray:=(nth r.ths.l i).nm++(⟨#[61]⟩:ByteArray)++digB (nth x.1 i)
def pcP (r:Room) (x:P3) (i:Int):ByteArray:=(nth r.prs.l i).nm++(⟨#[64]⟩:ByteArray)++whP r (nth x.2.1 i)
def pcL (r:Room) (x:P3) (i:Int):ByteArray:=digB i++(⟨#[64]⟩:ByteArray)++nth r.pls.l (nth x.2.2 i)
def pcs (r:Room) (x:P3):List ByteArray:=(Ca r.ths.l.length).map (pcT r x)++(Ca r.prs.l.length).map (pcP r x)++(Ca x.2.2.length).map (pcL r x)
structure Shown (r:Room) (x:P3):Prop where
 lt:x.1.length=r.ths.l.length
 lp:x.2.1.length=r.prs.l.length
 ll:1≤x.2.2.length∧x.2.2.length≤4
 th:∀i:Int,0≤i→i<x.1.length→0≤nth x.1 i∧nth x.1 i<10
 pr:∀i:Int,0≤i→i<x.2.1.length→(0≤nth x.2.1 i∧nth x.2.1 i<r.pls.l.length)∨nth x.2.1 i = -1∨(-5≤nth x.2.1 i∧nth x.2.1 i≤-2)
 pl:∀i:Int,0≤i→i<x.2.2.length→0≤nth x.2.2 i∧nth x.2.2 i<r.pls.l.length
theorem V7 {n:Int} (h: -9223372036854775808≤n∧n≤9223372036854775807):IntKind.i64.wrap n=n:=IntWalk.i64_in _ h
theorem YP {r:Room} {x:Thing} (h:thB r x=true):2≤x.st∧x.st≤6:=by
 simp only[thB,Bool.and_eq_true,decide_eq_true_eq]at h;omega
theorem Shown.of {r:Room} {x:P3} (hR:Ready r) (hI:StIn r x):Shown r x:=by
 have hl:=hI.ll;have hp:=hR.ply;refine⟨hI.lt,hI.lp,by omega,fun i h0 h1=>?_,fun i h0 h1=>?_,fun i h0 h1=>?_⟩
 ·have h:=hI.th i h0 h1;have h2:=YP (hR.ths _ (Ad h0 (show i<(r.ths.l.length:Int) by rw[←hI.lt];exact h1)));simp only[putB,Bool.and_eq_true,decide_eq_true_eq]at h;rw[V7 (by omega)]at h;omega
 ·have h:=hI.pr i h0 h1;simp only[placeB,Bool.or_eq_true,Bool.and_eq_true,decide_eq_true_eq]at h;omega
 have h:=hI.pl i h0 h1;simp only[placeB,Bool.and_eq_true,decide_eq_true_eq]at h;omega
abbrev bl (t:ByteArray):List UInt8:=t.data.toList
abbrev ba (l:List UInt8):ByteArray:=⟨l.toArray⟩
theorem D9 (t:ByteArray):(bl t).length=t.size:=by simp
theorem MP {t:ByteArray} {i:Nat} (h:i<t.size):byt t (i:Int)=(((bl t)[i]'(by rw[D9];exact h)).toNat:Int):=by
 unfold byt;rw[show((i:Int)).toNat=i by omega];have e:t[i]? = some (t[i]'h):=by simp[h]
 rw[e]
 rfl
def FC (c:UInt8):List UInt8→List (List UInt8)
 |[]=>[[]]
 |b::r=>if b=c then[]::FC c r else match FC c r with
  |x::xs=>(b::x)::xs
  |[]=>[[b]]
theorem GK {c:UInt8}:∀{l:List UInt8},c∉l→FC c l=[l]
 |[],_=>rfl
 |b::r,h=>by
  have h1:¬b=c:=fun e=>h (by simp[e]);have h2:c∉r:=fun e=>h (by simp[e]);unfold FC;rw[if_neg h1,GK h2]
def Ic (c:UInt8) (t:ByteArray):List ByteArray:=(FC c (bl t)).map ba
def SplitI (c:UInt8) (t:ByteArray) (i f:Int) (xs:List ByteArray):Prop:=
 (0≤f∧f≤i∧i≤t.size∧c∉((bl t).drop f.toNat).take (i.toNat-f.toNat)∧xs++(FC c ((bl t).drop f.toNat)).map ba=Ic c t)∨(i=t.size+1∧xs=Ic c t)
theorem SplitI.start (c:UInt8) (t:ByteArray):SplitI c t 0 0 []:=.inl ⟨by omega,by omega,by omega,by simp,by simp[Ic]⟩
theorem ZC {t:ByteArray} {a b:Nat}:t.extract a b=ba (((bl t).drop a).take (b-a)):=by
 apply ByteArray.ext
 apply Array.toList_inj.1
 show _=(((bl t).drop a).take (b-a));rw[ByteArray.data_extract,Array.toList_extract]
theorem SplitI.other {c:UInt8} {t:ByteArray} {i f:Int} {xs:List ByteArray} (h:SplitI c t i f xs) (hi:i<t.size) (hb:¬byt t i=(c.toNat:Int)):SplitI c t (i+1) f xs:=by
 rcases h with⟨h0,h1,h2,h3,h4⟩|⟨h1,_⟩
 ·refine .inl ⟨h0,by omega,by omega,?_,h4⟩;rw[show(i+1).toNat-f.toNat=(i.toNat-f.toNat)+1 by omega];have hl:i.toNat-f.toNat<((bl t).drop f.toNat).length:=by rw[List.length_drop,D9];omega
  rw[List.take_succ_eq_append_getElem hl,List.mem_append,not_or];refine⟨h3,fun hm=>hb ?_⟩;rw[List.mem_singleton,List.getElem_drop]at hm;have e:=MP (t:=t) (i:=i.toNat) (by omega);rw[show((i.toNat:Nat):Int)=i by omega]at e;rw[e,hm];congr 2;congr 1;omega
 omega
theorem SplitI.last {c:UInt8} {t:ByteArray} {i f:Int} {xs:List ByteArray} (h:SplitI c t i f xs) (hi:i=t.size):SplitI c t (i+1) (i+1) (xs++[t.extract f.toNat i.toNat]):=by
 rcases h with⟨h0,h1,h2,h3,h4⟩|⟨h1,_⟩
 ·refine .inr ⟨by omega,?_⟩;have e:((bl t).drop f.toNat).take (i.toNat-f.toNat)=(bl t).drop f.toNat:=List.take_of_length_le (by rw[List.length_drop,D9];omega);rw[e]at h3;rw[←h4,GK h3,ZC,e]
  rfl
 omega
theorem SplitI.fin {c:UInt8} {t:ByteArray} {i f:Int} {xs:List ByteArray} (h:SplitI c t i f xs) (hi:¬i≤t.size):xs=Ic c t:=by
 rcases h with⟨h0,h1,h2,h3,h4⟩|⟨h1,h2⟩
 ·omega
 exact h2
theorem SplitI.bd {c:UInt8} {t:ByteArray} {i f:Int} {xs:List ByteArray} (h:SplitI c t i f xs) (hi:i≤t.size):0≤f∧f≤i:=by
 rcases h with⟨h0,h1,_⟩|⟨h1,_⟩
 ·exact⟨h0,h1⟩
 omega
theorem HM (c:UInt8):∀l:List UInt8,(FC c l).length≤l.length+1
 |[]=>by simp[FC]
 |b::r=>by
  have ih:=HM c r;unfold FC;split
  ·simp;omega
  split
  ·rename_i x xs h;rw[h]at ih;simp at ih⊢;omega
  simp
theorem NS (c:UInt8) (t:ByteArray):(Ic c t).length≤t.size+1:=by
 have:=HM c (bl t);simp only[Ic,List.length_map];rw[D9]at this;exact this
theorem SplitI.len {c:UInt8} {t:ByteArray} {i f:Int} {xs:List ByteArray} (h:SplitI c t i f xs):xs.length≤t.size+1:=by
 have hl:=NS c t;rcases h with⟨_,_,_,_,h4⟩|⟨_,h2⟩
 ·have:=congrArg List.length h4;rw[List.length_append]at this;omega
 rw[h2];exact hl
def GV (l:List UInt8):Bool:=l.all fun b=>decide (48≤b.toNat)&&decide (b.toNat≤57)
def numL (l:List UInt8):Int:=l.foldl (fun n b=>10*n+((b.toNat:Int)-48)) 0
theorem Pb (l:List UInt8) (b:UInt8):numL (l++[b])=10*numL l+((b.toNat:Int)-48):=by simp[numL]
abbrev Wds:=List ByteArray
inductive Ln where
 |place (nm:ByteArray)
 |thing (x:Thing)
 |prop (nm:ByteArray) (pl:Int) (wh:List Lit)
 |way (a b:Int) (wh:List Lit)
 |act (nm:ByteArray) (pl lk:Int) (us:List Int) (wh:List Lit) (se:List Put) (sp br:List Int)
 |auto (t s:Int) (wh:List Lit)
 |players (n:Int)
 |goal (c:List Lit)
def nls {α:Type} (l:List α):Sl α:=⟨.slice none 0 0,l⟩
def addL (r:Room):Ln→Room
 | .place nm=>{r with pls:=nls (r.pls.l++[nm])}
 | .thing x=>{r with ths:=nls (r.ths.l++[x])}
 | .prop nm pl wh=>{r with prs:=nls (r.prs.l++[⟨nm,pl,nls wh⟩])}
 | .way a b wh=>{r with wys:=nls (r.wys.l++[⟨a,b,nls wh⟩])}
 | .act nm pl lk us wh se sp br=>{r with acs:=nls (r.acs.l++[⟨nm,pl,lk,nls us,nls wh,nls se,nls sp,nls br⟩])}
 | .auto t s wh=>{r with aus:=nls (r.aus.l++[⟨nls wh,t,s⟩])}
 | .players n=>{r with ply:=n}
 | .goal c=>{r with gl:=nls c}
def room0:Room:=⟨nls [],nls [],nls [],nls [],nls [],nls [],0,nls []⟩
structure RdJ (n:Nat) (r:Room):Prop where
 pls:r.pls.l.length≤n
 ths:r.ths.l.length≤n
 prs:r.prs.l.length≤n
 wys:r.wys.l.length≤n
 acs:r.acs.l.length≤n
 aus:r.aus.l.length≤n
 nm:NmB r
theorem RdJ.en {n:Nat} {r q:Room} (h:r.e=q.e) (hj:RdJ n q):RdJ n r:=by
 have hA:=RV h;have hn:=hA.nms;have ha:=hA.anms;refine⟨by rw[hA.pls];exact hj.pls,by rw[hA.ths];exact hj.ths,by rw[hA.lprs];exact hj.prs,by rw[hA.lwys];exact hj.wys,by rw[hA.lacs];exact hj.acs,by rw[hA.laus];exact hj.aus,?_⟩;refine⟨by rw[hA.pls];exact hj.nm.pl,by rw[hA.ths];exact hj.nm.th,fun x hx=>?_,fun x hx=>?_⟩
 ·have:x.nm∈q.prs.l.map Pro.nm:=hn▸List.mem_map_of_mem hx;obtain⟨y,hy,e⟩:=List.mem_map.1 this;rw[←e];exact hj.nm.pr y hy
 have:x.nm∈q.acs.l.map Actn.nm:=ha▸List.mem_map_of_mem hx;obtain⟨y,hy,e⟩:=List.mem_map.1 this;rw[←e];exact hj.nm.ac y hy
def lnNm:Ln→Option ByteArray
 | .place nm=>some nm
 | .thing x=>some x.nm
 | .prop nm _ _=>some nm
 | .act nm _ _ _ _ _ _ _=>some nm
 |_=>none
theorem RdJ.add {n:Nat} {r:Room} (hj:RdJ n r) (x:Ln) (hx:∀nm,lnNm x=some nm→nm.size≤70000):RdJ (n+1) (addL r x):=by
 obtain⟨h1,h2,h3,h4,h5,h6,⟨n1,n2,n3,n4⟩⟩:=hj;cases x with
 |place nm=>exact⟨by simp[addL,nls];omega,by simp[addL];omega,by simp[addL];omega,by simp[addL];omega,by simp[addL];omega,by simp[addL];omega,⟨fun y hy=>by
   rcases List.mem_append.1 hy with hy|hy
   ·exact n1 y hy
   rw[List.mem_singleton]at hy;subst hy;exact hx _ rfl,n2,n3,n4⟩⟩
 |thing z=>exact⟨by simp[addL];omega,by simp[addL,nls];omega,by simp[addL];omega,by simp[addL];omega,by simp[addL];omega,by simp[addL];omega,⟨n1,fun y hy=>by
   rcases List.mem_append.1 hy with hy|hy
   ·exact n2 y hy
   rw[List.mem_singleton]at hy;subst hy;exact hx _ rfl,n3,n4⟩⟩
 |prop nm pl wh=>exact⟨by simp[addL];omega,by simp[addL];omega,by simp[addL,nls];omega,by simp[addL];omega,by simp[addL];omega,by simp[addL];omega,⟨n1,n2,fun y hy=>by
   rcases List.mem_append.1 hy with hy|hy
   ·exact n3 y hy
   rw[List.mem_singleton]at hy;subst hy;exact hx _ rfl,n4⟩⟩
 |way a b wh=>exact⟨by simp[addL];omega,by simp[addL];omega,by simp[addL];omega,by simp[addL,nls];omega,by simp[addL];omega,by simp[addL];omega,⟨n1,n2,n3,n4⟩⟩
 |act nm pl lk us wh se sp br=>exact⟨by simp[addL];omega,by simp[addL];omega,by simp[addL];omega,by simp[addL];omega,by simp[addL,nls];omega,by simp[addL];omega,⟨n1,n2,n3,fun y hy=>by
   rcases List.mem_append.1 hy with hy|hy
   ·exact n4 y hy
   rw[List.mem_singleton]at hy;subst hy;exact⟨hx _ rfl,trivial⟩⟩⟩
 |auto a b wh=>exact⟨by simp[addL];omega,by simp[addL];omega,by simp[addL];omega,by simp[addL];omega,by simp[addL];omega,by simp[addL,nls];omega,⟨n1,n2,n3,n4⟩⟩
 |players m=>exact⟨by simp[addL];omega,by simp[addL];omega,by simp[addL];omega,by simp[addL];omega,by simp[addL];omega,by simp[addL];omega,⟨n1,n2,n3,n4⟩⟩
 |goal c=>exact⟨by simp[addL];omega,by simp[addL];omega,by simp[addL];omega,by simp[addL];omega,by simp[addL];omega,by simp[addL];omega,⟨n1,n2,n3,n4⟩⟩
theorem RdJ.zero:RdJ 0 room0:=⟨Nat.le_refl _,Nat.le_refl _,Nat.le_refl _,Nat.le_refl _,Nat.le_refl _,Nat.le_refl _,⟨fun _ h=>(by cases h),fun _ h=>(by cases h),fun _ h=>(by cases h),fun _ h=>(by cases h)⟩⟩
structure Rel {γ:Type} (b:Bool) (spec:Option (γ×Wds)) (v:γ) (ws:Wds) (b':Bool):Prop where
 bt:b=true→b'=true
 ok:b=false→b'=false→spec=some (v,ws)
 no:b=false→b'=true→spec=none
theorem Rel.same {γ:Type} {b:Bool} {spec:Option (γ×Wds)} {v:γ} {ws:Wds} (h:spec=some (v,ws)):Rel b spec v ws b:=⟨fun h=>h,fun _ _=>h,fun h1 h2=>by rw[h1]at h2;cases h2⟩
theorem Rel.bad {γ:Type} {b:Bool} {spec:Option (γ×Wds)} {v:γ} {ws:Wds} (h:b=false→spec=none):Rel b spec v ws true:=⟨fun _=>rfl,fun _ h2=>Bool.noConfusion h2,fun h1 _=>h h1⟩
theorem Rel.bind {γ δ:Type} {b b1 b2:Bool} {s1:Option (γ×Wds)} {v1:γ} {w1 w2:Wds} {f:γ×Wds→Option (δ×Wds)} {v2:δ} (h1:Rel b s1 v1 w1 b1) (h2:Rel b1 (f (v1,w1)) v2 w2 b2):Rel b (s1.bind f) v2 w2 b2:=by
 refine⟨fun h=>h2.bt (h1.bt h),fun h h'=>?_,fun h h'=>?_⟩
 ·cases hb:b1 with
  |true=>have:=h2.bt hb;rw[h']at this;cases this
  |false=>rw[h1.ok h hb];exact h2.ok hb h'
 cases hb:b1 with
 |true=>rw[h1.no h hb];rfl
 |false=>rw[h1.ok h hb];exact h2.no hb h'
theorem Rel.map {γ δ:Type} {b b1:Bool} {s1:Option (γ×Wds)} {v1:γ} {w1:Wds} (f:γ→δ) (h1:Rel b s1 v1 w1 b1):Rel b (s1.map fun x=>(f x.1,x.2)) (f v1) w1 b1:=by
 refine⟨h1.bt,fun h h'=>?_,fun h h'=>?_⟩
 ·rw[h1.ok h h'];rfl
 rw[h1.no h h'];rfl
structure LoopI {α:Type} (b1:Bool) (F:Wds→Option (List α×Wds)) (w1:Wds) (acc:List α) (ws:Wds) (bad:Bool):Prop where
 bt:b1=true→bad=true
 ok:b1=false→bad=false→F w1=(F ws).map fun x=>(acc++x.1,x.2)
 no:b1=false→bad=true→F w1=none
 sf:ws <:+w1
 ln:bad=false→acc.length+ws.length=w1.length
 lm:acc.length≤w1.length
theorem LoopI.start {α:Type} (b1:Bool) (F:Wds→Option (List α×Wds)) (w1:Wds):LoopI b1 F w1 [] w1 b1:=
 ⟨fun h=>h,fun _ _=>by cases F w1<;>simp,fun h1 h2=>Bool.noConfusion (h1.symm.trans h2),List.suffix_refl _,fun _=>by simp,by simp⟩
theorem LoopI.step {α:Type} {b1 bad b2:Bool} {F:Wds→Option (List α×Wds)} {w1 ws w2:Wds} {acc:List α} {a:α} (h:LoopI b1 F w1 acc ws bad) (hbad:bad=false) (hpos:0<ws.length) (sf2:w2 <:+ws)
  (hok:b2=false→F ws=((F w2).map fun x=>(a::x.1,x.2))∧ws.length=w2.length+1) (hno:b2=true→F ws=none):LoopI b1 F w1 (acc++[a]) w2 b2:=by
 have hb1:b1=false:=by
  cases h1:b1 with
  |false=>rfl
  |true=>rw[h.bt h1]at hbad;cases hbad
 have hl:=h.ln hbad;refine⟨fun h1=>Bool.noConfusion (hb1.symm.trans h1),fun _ h2=>?_,fun _ h2=>?_,sf2.trans h.sf,fun h2=>?_,?_⟩
 ·rw[h.ok hb1 hbad,(hok h2).1];cases F w2<;>simp
 ·rw[h.ok hb1 hbad,hno h2];rfl
 ·have:=(hok h2).2;simp;omega
 simp;omega
theorem LoopI.fin {α:Type} {b1 bad:Bool} {F:Wds→Option (List α×Wds)} {w1 ws:Wds} {acc:List α} (h:LoopI b1 F w1 acc ws bad) (hs:bad=false→F ws=some ([],ws)):Rel b1 (F w1) acc ws bad:=
 ⟨h.bt,fun h1 h2=>by rw[h.ok h1 h2,hs h2];simp,h.no⟩
theorem Rel.line {γ:Type} {b':Bool} {s:Option (γ×Wds)} {v:γ} {w:Wds} (h:Rel false s v w b'):(b'=false→s=some (v,w))∧(b'=true→s=none):=⟨fun h1=>h.ok rfl h1,fun h1=>h.no rfl h1⟩
theorem DO (a b:List UInt8):ba a++ba b=ba (a++b):=by
 apply ByteArray.ext
 apply Array.toList_inj.1
 simp[ByteArray.data_append]
theorem QD (n:Int):bl (digB n)=Lib.decDigits n.toNat:=rfl
theorem Qu {n:Int} (h:10≤n):digB n=digB (n/10)++digB (n%10):=by
 have h1:¬n.toNat<10:=by omega
 have e1:(n/10).toNat=n.toNat/10:=by omega
 have e2:(n%10).toNat=n.toNat%10:=by omega
 unfold digB;rw[DO,e1,e2,Lib.decDigits_one (i:=n.toNat%10) (by omega)]
 conv=>lhs;rw[Lib.decDigits,dif_neg h1]
theorem K5 {d:Int} (h:0≤d∧d<10):(⟨#[48,49,50,51,52,53,54,55,56,57]⟩:ByteArray).extract d.toNat (d+1).toNat=digB d:=by
 unfold digB;rw[Lib.decDigits_one (by omega)];rcases(show d=0∨d=1∨d=2∨d=3∨d=4∨d=5∨d=6∨d=7∨d=8∨d=9 by omega)with rfl|rfl|rfl|rfl|rfl|rfl|rfl|rfl|rfl|rfl<;>decide+kernel
theorem WB:∀(u:Nat),(Lib.decDigits u).length≤u+1:=by
 intro u;refine Nat.strongRecOn u ?_;intro u ih
 by_cases h:u<10
 ·rw[Lib.decDigits_one h];simp
 rw[Lib.decDigits,dif_neg h];have:=ih (u/10) (by omega);simp only[List.length_append,List.length_singleton];omega
theorem EM (n:Int):(digB n).size≤n.toNat+1:=by
 rw[←D9,QD];exact WB _
theorem TU {u:Nat} (h:u<1000):1≤(Lib.decDigits u).length∧(Lib.decDigits u).length≤3:=by
 have h1:∀{u:Nat},¬u<10→(Lib.decDigits u).length=(Lib.decDigits (u/10)).length+1:=fun{u} h=>by
  conv=>lhs;rw[Lib.decDigits,dif_neg h]
  simp
 have h2:∀{u:Nat},u<10→(Lib.decDigits u).length=1:=fun{u} h=>by rw[Lib.decDigits_one h];rfl
 by_cases a:u<10
 ·rw[h2 a];omega
 rw[h1 a]
 by_cases b:u/10<10
 ·rw[h2 b];omega
 rw[h1 b,h2 (show u/10/10<10 by omega)];omega
theorem Uz {d:Nat} (h:d<10):(UInt8.ofNat (48+d)).toNat=48+d:=by
 simp[Nat.mod_eq_of_lt (show 48+d<256 by omega)]
theorem G8:∀(u:Nat),GV (Lib.decDigits u)=true∧numL (Lib.decDigits u)=u:=by
 intro u;refine Nat.strongRecOn u ?_;intro u ih
 by_cases h:u<10
 ·rw[Lib.decDigits_one h];have:=Uz h;refine⟨?_,?_⟩
  ·simp only[GV,List.all_cons,List.all_nil,Bool.and_true,Bool.and_eq_true,decide_eq_true_eq];omega
  simp only[numL,List.foldl_cons,List.foldl_nil];omega
 rw[Lib.decDigits,dif_neg h];obtain⟨h1,h2⟩:=ih (u/10) (by omega);have:=Uz (show u%10<10 by omega);refine⟨?_,?_⟩
 ·unfold GV at h1⊢;rw[List.all_append,h1];simp only[List.all_cons,List.all_nil,Bool.and_true,Bool.true_and,Bool.and_eq_true,decide_eq_true_eq];omega
 rw[Pb,h2];omega
theorem SY {u:Nat} (h:u<100):1≤(Lib.decDigits u).length∧(Lib.decDigits u).length≤2:=by
 have h1:=(TU (u:=u) (by omega)).1
 by_cases a:u<10
 ·rw[Lib.decDigits_one a];simp
 have h2:(Lib.decDigits u).length=(Lib.decDigits (u/10)).length+1:=by
  conv=>lhs;rw[Lib.decDigits,dif_neg a]
  simp
 rw[h2,Lib.decDigits_one (show u/10<10 by omega)];simp
theorem TN {n:Int} (h:n<100):(digB n).size≤2:=by
 rw[←D9,QD];exact(SY (by omega)).2
theorem Tx {l:List UInt8} (h:GV l=true):(32:UInt8)∉l:=fun hm=>by
 unfold GV at h;have:=List.all_eq_true.1 h _ hm;simp at this
def sgnB (b:Bool):ByteArray:=if b=true then⟨#[33]⟩else⟨#[61]⟩
structure FineW (x:ByteArray):Prop where
 hi:∀b∈bl x,33≤b.toNat
 sz:x.size≤15
theorem UJ (a b:ByteArray):bl (a++b)=bl a++bl b:=by simp[bl,ByteArray.data_append]
theorem Yb {t:ByteArray} (h:lowB t=true):∀b∈bl t,97≤b.toNat∧b.toNat≤122:=fun b hb=>by
 obtain⟨i,hi,rfl⟩:=List.mem_iff_getElem.1 hb;have hs:i<t.size:=by rw[←D9];exact hi
 unfold lowB at h;have:=List.all_eq_true.1 h i (by simpa using hs);have e:=MP hs;simp only[Bool.and_eq_true,decide_eq_true_eq]at this;omega
theorem O8 {t:ByteArray} (h:Bs t=true):lowB t=true:=by
 simp only[Bs,BW,Bool.and_eq_true]at h;exact h.2.1
theorem My {t:ByteArray} (h:Bs t=true):t.size≤12:=by
 simp only[Bs,Bool.and_eq_true,decide_eq_true_eq]at h;omega
theorem FineW.named {t:ByteArray} (h:Bs t=true):FineW t:=⟨fun b hb=>by have:=Yb (O8 h) b hb;omega,by have:=My h;omega⟩
theorem Y5 (n:Int):∀b∈bl (digB n),48≤b.toNat∧b.toNat≤57:=fun b hb=>by
 have h:=(G8 n.toNat).1;unfold GV at h;have:=List.all_eq_true.1 h b hb
 simpa using this
theorem Xv (b:Bool):bl (sgnB b)=[if b=true then 33 else 61]:=by cases b<;>rfl
theorem Ym (b:Bool):(sgnB b).size=1:=by cases b<;>rfl
theorem FineW.lit {nm:ByteArray} {b:Bool} {n:Int} (h:Bs nm=true) (hn:n<100):FineW (nm++sgnB b++digB n):=by
 refine⟨fun x hx=>?_,?_⟩
 ·rw[UJ,UJ,Xv]at hx;rcases List.mem_append.1 hx with hx|hx
  ·rcases List.mem_append.1 hx with hx|hx
   ·exact(FineW.named h).hi x hx
   rw[List.mem_singleton]at hx;subst hx;cases b<;>decide
  have:=Y5 n x hx;omega
 have h1:=My h;have h2:=Ym b;have h3:=TN hn;simp only[ByteArray.size_append];omega
def agf (P:Program) (f:Field):Option (Nat×Nat):=
 if f.name == "_" then none else if P.plainKey f.type then
  match P.underlying f.type with
  |some (.int _)=>some (f.offset,0)
  |some .bool=>some (f.offset,1)
  |some .string=>some (f.offset,2)
  |_=>none
 else none
def agl (P:Program):List Field→Option (List (Nat×Nat))
 |[]=>some []
 |f::fs=>match agf P f,agl P fs with
  |some a,some r=>some (a::r)
  |_,_=>none
def agq (P:Program) (T:TypeId):Option (List (Nat×Nat)):=
 match P.underlying T with
 |some (.struct fs)=>if P.stoodInHeld T||P.eqGuardType P.depth T then none else agl P fs.toList
 |_=>none
def cmp1:Nat→Option Value→Option Value→Option Bool
 |0,some (.int .i64 a),some (.int .i64 b)=>some (decide (a=b))
 |1,some (.bool a),some (.bool b)=>some (a == b)
 |2,some (.string a),some (.string b)=>some (seq a b)
 |_,_,_=>none
def cmps (xs ys:List Value):List (Nat×Nat)→Option Bool
 |[]=>some true
 |(o,k)::sp=>match cmp1 k xs[o]? ys[o]?,cmps xs ys sp with
  |some a,some r=>some (a&&r)
  |_,_=>none
section
variable {P:Program}
theorem Pq {w:World} {f:Field} {o k:Nat} {xs ys:List Value} {b:Bool} {d:Nat} (hf:agf P f=some (o,k)) (hb:cmp1 k xs[o]? ys[o]? = some b):
  f.name≠ "_" ∧∃x y,(Go.part f.type xs.toArray f.offset).run P w = .ok x w∧(Go.part f.type ys.toArray f.offset).run P w = .ok y w∧(Op.equalIn (d+1) f.type x y).run P w = .ok b w:=by
 unfold agf at hf;split at hf
 ·cases hf
 rename_i hn;refine⟨by simpa using hn,?_⟩;split at hf
 ·rename_i hp;split at hf
  ·rename_i k' hu;cases hf;unfold cmp1 at hb;split at hb<;>first|cases hb|skip
   ·rename_i a b' _ hx hy;refine⟨_,_,run_part_plain w hp (by simpa using hx),run_part_plain w hp (by simpa using hy),?_⟩;rw[run_equalIn_int w d f.type .i64 k' a b' hu]
    by_cases h:a=b'<;>simp[h]
   all_goals simp_all
  ·rename_i hu;cases hf;unfold cmp1 at hb;split at hb<;>first|cases hb|skip
   ·simp_all
   ·rename_i a b' _ hx hy;refine⟨_,_,run_part_plain w hp (by simpa using hx),run_part_plain w hp (by simpa using hy),?_⟩;exact run_equalIn_bool' w d f.type a b' hu
   all_goals simp_all
  ·rename_i hu;cases hf;unfold cmp1 at hb;split at hb<;>first|cases hb|skip
   ·simp_all
   ·simp_all
   rename_i a b' _ hx hy;refine⟨_,_,run_part_plain w hp (by simpa using hx),run_part_plain w hp (by simpa using hy),?_⟩;exact run_equalIn_string w d f.type a b' hu
  cases hf
 cases hf
theorem PD {w:World} {xs ys:List Value} {d:Nat}:∀{fs:List Field} {sp:List (Nat×Nat)} {b:Bool},agl P fs=some sp→cmps xs ys sp=some b→(Op.eqFields (d+1) xs.toArray ys.toArray fs).run P w = .ok b w
 |[],sp,b,h,hb=>by
  simp[agl]at h;subst h;simp[cmps]at hb;subst hb;simp[Op.eqFields]
 |f::fs,sp,b,h,hb=>by
  unfold agl at h;split at h
  ·rename_i a r ha hr;cases h;obtain⟨o,k⟩:=a;unfold cmps at hb;split at hb
   ·rename_i c r' hc hr';cases hb;obtain⟨hn,x,y,p1,p2,p3⟩:=Pq (w:=w) (d:=d) ha hc;have ih:=PD (w:=w) (d:=d) hr hr';simp only[Op.eqFields,hn,ne_eq,not_false_eq_true,if_true,Sem.run_bind,p1,p2,p3,Result.andThen_ok];cases c
    ·simp
    simpa using ih
   cases hb
  cases h
variable {l:List Value} {d:Option Tmp} {ty:TypeId} {ps:String} {af:Array Edge} {g:Option (Nat×Bool)} {C:World→Prop}
end
def shl (o:Nat) (sp:List (Nat×Nat)):List (Nat×Nat):=sp.map fun p=>(o+p.1,p.2)
def agf2 (P:Program) (f:Field):Option (List (Nat×Nat)):=
 match agf P f with
 |some a=>some [a]
 |none=>if f.name == "_" then none else match agq P f.type with
  |some sp=>if sp.all (fun p=>decide (p.1<P.cellsOf f.type))then some (shl f.offset sp)else none
  |none=>none
def agl2 (P:Program):List Field→Option (List (Nat×Nat))
 |[]=>some []
 |f::fs=>match agf2 P f,agl2 P fs with
  |some a,some r=>some (a++r)
  |_,_=>none
def agq2 (P:Program) (T:TypeId):Option (List (Nat×Nat)):=
 match P.underlying T with
 |some (.struct fs)=>if P.stoodInHeld T||P.eqGuardType P.depth T then none else agl2 P fs.toList
 |_=>none
theorem LW {xs ys:List Value}:∀{a b:List (Nat×Nat)} {r:Bool},cmps xs ys (a++b)=some r→∃c d,cmps xs ys a=some c∧cmps xs ys b=some d∧r=(c&&d)
 |[],b,r,h=>⟨true,r,rfl,h,by simp⟩
 |(o,k)::a,b,r,h=>by
  rw[List.cons_append,cmps]at h;split at h
  ·rename_i c r' hc hr;cases h;obtain⟨c1,d1,h1,h2,rfl⟩:=LW hr;exact⟨c&&c1,d1,by rw[cmps,hc,h1],h2,by simp[Bool.and_assoc]⟩
  cases h
theorem MS {xs ys:List Value} {o n:Nat}:∀{sp:List (Nat×Nat)} {r:Bool},(∀p∈sp,p.1<n)→cmps xs ys (shl o sp)=some r→cmps ((xs.drop o).take n) ((ys.drop o).take n) sp=some r
 |[],r,_,h=>h
 |(p,k)::sp,r,hn,h=>by
  rw[shl,List.map_cons,cmps]at h;split at h
  ·rename_i c r' hc hr;cases h;have ih:=MS (fun q hq=>hn q (List.mem_cons_of_mem _ hq)) hr;have hp:p<n:=hn (p,k) List.mem_cons_self;have hx:∀l:List Value,((l.drop o).take n)[p]? = l[o+p]?:=fun l=>by rw[List.getElem?_take_of_lt hp,List.getElem?_drop]
   rw[cmps,hx,hx,hc,ih]
  cases h
section
variable {P:Program}
theorem Sc {w:World} {f:Field} {sp:List (Nat×Nat)} {xs ys:List Value} {b:Bool} {d:Nat} (hf:agf2 P f=some sp) (hb:cmps xs ys sp=some b):
  f.name≠ "_" ∧∃x y,(Go.part f.type xs.toArray f.offset).run P w = .ok x w∧(Go.part f.type ys.toArray f.offset).run P w = .ok y w∧(Op.equalIn (d+2) f.type x y).run P w = .ok b w:=by
 unfold agf2 at hf;split at hf
 ·rename_i a ha;cases hf;obtain⟨o,k⟩:=a;rw[cmps]at hb;split at hb
  ·rename_i c r hc hr;cases hr;cases hb
   rw[Bool.and_true];exact Pq ha hc
  cases hb
 split at hf
 ·cases hf
 rename_i hn;refine⟨by simpa using hn,?_⟩;split at hf
 ·rename_i sp' hq;split at hf
  ·rename_i hall;cases hf;have h2:=MS (n:=P.cellsOf f.type) (fun p hp=>by simpa using List.all_eq_true.1 hall p hp) hb;unfold agq at hq;split at hq
   ·rename_i fs hu;split at hq
    ·cases hq
    rename_i hc;simp only[Bool.or_eq_true,not_or,Bool.not_eq_true]at hc;obtain⟨i,hi⟩:=info_of_underlying hu;have hfs:P.fieldsOf f.type=fs:=by simp[Program.fieldsOf,hu]
    have hpart:∀l:List Value,(Go.part f.type l.toArray f.offset).run P w = .ok (.agg (((l.drop f.offset).take (P.cellsOf f.type)).toArray)) w:=fun l=>by
     have e1:l.toArray.extract f.offset (f.offset+P.cellsOf f.type)=((l.drop f.offset).take (P.cellsOf f.type)).toArray:=by
      apply Array.toList_inj.1
      rw[Array.toList_extract];simp[List.extract]
     have e0:(Go.part f.type l.toArray f.offset).run P w = .ok (.agg (l.toArray.extract f.offset (f.offset+P.cellsOf f.type))) w:=by
      simp[-List.extract_toArray,Go.part,Go.isAgg,run_underlying hu,Go.run_sizeOf w hi]
     rw[e0,e1]
    refine⟨_,_,hpart xs,hpart ys,?_⟩;rw[run_equalIn_struct w (d+1) f.type _ _ (by rw[hfs];exact hu) hc.1,hfs];exact PD hq h2
   cases hq
  cases hf
 cases hf
theorem L8 {w:World} {xs ys:List Value} {d:Nat}:∀{fs:List Field} {sp:List (Nat×Nat)} {b:Bool},agl2 P fs=some sp→cmps xs ys sp=some b→(Op.eqFields (d+2) xs.toArray ys.toArray fs).run P w = .ok b w
 |[],sp,b,h,hb=>by
  simp[agl2]at h;subst h;simp[cmps]at hb;subst hb;simp[Op.eqFields]
 |f::fs,sp,b,h,hb=>by
  unfold agl2 at h;split at h
  ·rename_i a r ha hr;cases h;obtain⟨c,r',hc,hr',rfl⟩:=LW hb;obtain⟨hn,x,y,p1,p2,p3⟩:=Sc (w:=w) (d:=d) ha hc;have ih:=L8 (w:=w) (d:=d) hr hr';simp only[Op.eqFields,hn,ne_eq,not_false_eq_true,if_true,Sem.run_bind,p1,p2,p3,Result.andThen_ok];cases c
   ·simp
   simpa using ih
  cases h
variable {l:List Value} {d:Option Tmp} {ty:TypeId} {ps:String} {af:Array Edge} {g:Option (Nat×Bool)} {C:World→Prop}
theorem Mp {w:World} {T:TypeId} {sp:List (Nat×Nat)} {xs ys:List Value} {b:Bool} (hA:agq2 P T=some sp) (hb:cmps xs ys sp=some b):
  (∀(op:BinOp) (x y:Operand),(eqGuard op T x y (.agg xs.toArray) (.agg ys.toArray)).run P w = .ok () w)∧(Op.equalIn 10000 T (.agg xs.toArray) (.agg ys.toArray)).run P w = .ok b w:=by
 unfold agq2 at hA;split at hA
 ·rename_i fs hu;split at hA
  ·cases hA
  rename_i hc;simp only[Bool.or_eq_true,not_or,Bool.not_eq_true]at hc;have hf:P.fieldsOf T=fs:=by simp[Program.fieldsOf,hu]
  refine⟨fun op x y=>run_eqGuard_agg w op T x y _ _ hc.2,?_⟩;rw[run_equalIn_struct w 9999 T _ _ (by rw[hf];exact hu) hc.1,hf];exact L8 hA hb
 cases hA
theorem Es {T T':TypeId} {x y:Operand} {xs ys:List Value} {b:Bool} {sp:List (Nat×Nat)} (hA:agq2 P T=some sp) (hx:evo l x=some (.agg xs.toArray)) (hy:evo l y=some (.agg ys.toArray)) (hb:cmps xs ys sp=some b):
  Det P C ⟨d,.binOp .neq T x y T',ty,ps,af,g⟩ l (.bool (!b)):=fun u _=>by
 (replace hx:=Am hx;replace hy:=Am hy)
 obtain⟨h1,h2⟩:=Mp (w:=u) hA hb;simp[execOp,Av,hx,hy,h1,run_neq_struct,h2]
theorem FP {T T':TypeId} {x y:Operand} {xs ys:List Value} {b:Bool} {sp:List (Nat×Nat)} (hA:agq2 P T=some sp) (hx:evo l x=some (.agg xs.toArray)) (hy:evo l y=some (.agg ys.toArray)) (hb:cmps xs ys sp=some b):
  Det P C ⟨d,.binOp .eql T x y T',ty,ps,af,g⟩ l (.bool b):=fun u _=>by
 (replace hx:=Am hx;replace hy:=Am hy)
 obtain⟨h1,h2⟩:=Mp (w:=u) hA hb;simp[execOp,Av,hx,hy,h1,run_eql_struct,h2]
end
noncomputable def clB (p:Prop):Bool:= @decide p (Classical.propDecidable p)
theorem EJ {p:Prop}:clB p=true↔p:=by unfold clB;simp
theorem Vj {p:Prop} (h:p):clB p=true:=EJ.2 h
theorem Hc {p:Prop} (h:¬p):clB p=false:=by
 cases hq:clB p with
 |false=>rfl
 |true=>exact(h (EJ.1 hq)).elim
theorem DA {α:Type} [Inhabited α] {l:List α} {i:Int} {P:α→Prop} (hi:¬i<l.length) (h:∀j:Int,0≤j→j<i→P (nth l j)):∀a∈l,P a:=fun a ha=>by
 obtain⟨j,h0,h1,rfl⟩:=Bg ha;exact h j h0 (by omega)
theorem ND {α β:Type} [Inhabited α] (f:α→β) {l m:List α} {i:Int} (hi:¬i<l.length) (hl:l.length=m.length) (h:∀j:Int,0≤j→j<i→f (nth l j)=f (nth m j)):l.map f=m.map f:=by
 apply List.ext_getElem (by simp[hl])
 intro k h1 h2;have h3:k<l.length:=by simpa using h1
 have h4:k<m.length:=by omega
 have:=h k (by omega) (by omega)
 simpa [nth,List.getD,h3,h4]using this
theorem UN {α:Type} [Inhabited α] {l m:List α} {i:Int} (hi:¬i<l.length) (hl:l.length=m.length) (h:∀j:Int,0≤j→j<i→nth l j=nth m j):l=m:=by
 have:=ND (fun x=>x) hi hl h
 simpa using this
theorem Sz {P:Program} {L:List SA} {w0:World} {l:List Value} {d:Option Tmp} {ty:TypeId} {ps:String} {af:Array Edge} {g:Option (Nat×Bool)} {α:Type} [Inhabited α] {C:Cel α} {T:TypeId} (k j n:Nat) {x:Operand} {s:Sl α} {i:Int} {cs:List Value}
  (hx:evo l x=some (.pointer (some ⟨slb s.v,slo s.v+i.toNat*k+j,none⟩))) (hs:SlT C w0 s) (hk:C.k=k) (h:0≤i∧i<s.l.length) (hc:((C.cells (nth s.l i)).drop j).take n=cs) (hn:cs.length=n) (hT:tk P T=some (true,n)):
  Det P (St w0.heap.size w0 L) ⟨d,.load T x,ty,ps,af,g⟩ l (.agg cs.toArray):=by
 subst hk;refine Ci (m:=i.toNat*C.k+j) (by rw[hx,sla,Nat.add_assoc]) (fun _ hu=>hs.sp.st hu) (fun q y hy=>?_) (by rw[hn];exact hT);rw[←hc,List.getElem?_take]at hy;split at hy
 ·rw[List.getElem?_drop]at hy;have hj:j+q<C.k:=by have:=(List.getElem?_eq_some_iff.1 hy).1;rwa [C.len]at this
  rw[Nat.add_assoc,BK C h.1 h.2 _ hj];exact hy
 cases hy
theorem bq:(∀(p:Prop) [Decidable p],(decide p=true)=p)∧(∀(p:Prop) [Decidable p],(decide p=false)=¬p)∧(∀a b:Bool,((a&&b)=true)=(a=true∧b=true))∧(∀a b:Bool,((a||b)=true)=(a=true∨b=true))∧
  (∀a b:Bool,((a&&b)=false)=(a=false∨b=false))∧(∀a b:Bool,((a||b)=false)=(a=false∧b=false))∧(∀a:Bool,((!a)=true)=(a=false))∧(∀a:Bool,((!a)=false)=(a=true))∧(∀(α:Type) (a b:α),(a≠b)=¬a=b)∧(∀p:Prop,[Decidable p]→(¬¬p)=p)∧
  ((!true)=false)∧((!false)=true)∧(∀(α:Type) [BEq α] [LawfulBEq α] (a b:α),((a != b)=true)=¬a=b)∧(∀(α:Type) [BEq α] [LawfulBEq α] (a b:α),((a != b)=false)=(a=b))∧(∀(α:Type) [BEq α] [LawfulBEq α] (a b:α),((a == b)=true)=(a=b))∧(∀(α:Type) [BEq α] [LawfulBEq α] (a b:α),((a == b)=false)=¬a=b):=by
 refine⟨fun p _=>by simp,fun p _=>by simp,fun a b=>by simp,fun a b=>by simp,fun a b=>by cases a<;>cases b<;>simp,fun a b=>by simp,fun a=>by simp,fun a=>by simp,fun α a b=>by simp,fun p=>by simp[Decidable.not_not],rfl,rfl,fun α _ _ a b=>by simp,fun α _ _ a b=>by simp,fun α _ _ a b=>by simp,fun α _ _ a b=>by simp⟩
inductive Tb (α:Type) where
 |o
 |n (l:Tb α) (k:Nat) (v:α) (r:Tb α)
def Tb.get {α:Type}:Tb α→Nat→Option α
 | .o,_=>none
 | .n l k v r,i=>match Nat.blt i k with
  |true=>l.get i
  |false=>match Nat.beq i k with
   |true=>some v
   |false=>r.get i
def Tb.all {α:Type} (p:Nat→α→Bool):Tb α→Bool
 | .o=>true
 | .n l k v r=>l.all p&&p k v&&r.all p
theorem Tb.get_all {α:Type} {p:Nat→α→Bool}:∀{t:Tb α} {i:Nat} {v:α},t.all p=true→t.get i=some v→p i v=true
 | .o,_,_,_,h=>by simp[Tb.get]at h
 | .n l k x r,i,v,ha,h=>by
  simp only[Tb.all,Bool.and_eq_true]at ha;unfold Tb.get at h;split at h
  ·exact Tb.get_all ha.1.1 h
  split at h
  ·rename_i hb;have:i=k:=Nat.eq_of_beq_eq_true hb;cases h;subst this;exact ha.1.2
  exact Tb.get_all ha.2 h
class Fx (P:Program) where
 ft:Tb (List Nat)
 kt:Tb (Bool×Nat)
 st:Tb (TypeId×Nat×Nat)
 fk:ft.all (fun T l=>l.zipIdx.all fun x=>fo P T x.2 == some x.1)=true
 kk:kt.all (fun T r=>tk P T == some r)=true
 sk:st.all (fun T r=>sl P T == some r)=true
def fof (P:Program) [F:Fx P] (T i:Nat):Option Nat:=match F.ft.get T with
 |some l=>l[i]?
 |none=>none
def tkf (P:Program) [F:Fx P] (T:Nat):Option (Bool×Nat):=F.kt.get T
def slf (P:Program) [F:Fx P] (T:Nat):Option (TypeId×Nat×Nat):=F.st.get T
section
variable {P:Program} [Fx P]
theorem UU {T i m:Nat} (h:fof P T i=some m):fo P T i=some m:=by
 unfold fof at h;split at h
 ·rename_i l hl;have h1:=Tb.get_all (Fx.fk (P:=P)) hl;rw[List.all_eq_true]at h1;have h2:=h1 (m,i) (by rw[List.mk_mem_zipIdx_iff_getElem?];exact h)
  simpa using h2
 simp at h
theorem C4 {T:Nat} {r:Bool×Nat} (h:tkf P T=some r):tk P T=some r:=by
 have:=Tb.get_all (Fx.kk (P:=P)) h
 simpa using this
theorem HZ {T:Nat} {r:TypeId×Nat×Nat} (h:slf P T=some r):sl P T=some r:=by
 have:=Tb.get_all (Fx.sk (P:=P)) h
 simpa using this
end
def ikq:IntKind→IntKind→Bool
 | .i64,.i64=>true
 | .u8,.u8=>true
 | .i32,.i32=>true
 |_,_=>false
theorem XP {a b:IntKind} (h:ikq a b=true):a=b:=by cases a<;>cases b<;>first|rfl|cases h
def cmpf:BinOp→Int→Int→Option Bool
 | .eql,a,b=>some (decide (a=b))
 | .neq,a,b=>some (decide (a≠b))
 | .lss,a,b=>some (decide (a<b))
 | .leq,a,b=>some (decide (a≤b))
 | .gtr,a,b=>some (decide (b<a))
 | .geq,a,b=>some (decide (b≤a))
 |_,_,_=>none
def fv (P:Program) [Fx P] (l:List Value):Op→Option Value
 | .move x=>evo l x
 | .assign x=>evo l x
 | .fieldAddr T x f=>match evo l x with
  |some (.pointer (some ⟨b,o,none⟩))=>match fof P T f with
   |some m=>some (.pointer (some ⟨b,o+m,none⟩))
   |none=>none
  |_=>none
 | .binOp k _ x y _=>match evo l x,evo l y with
  |some (.int i a),some (.int j b)=>match ikq i j with
   |true=>match cmpf k a b with
    |some r=>some (.bool r)
    |none=>none
   |false=>none
  |_,_=>none
 | .unOp .not _ x=>match evo l x with
  |some (.bool a)=>some (.bool (!a))
  |_=>none
 | .extract x i=>match evo l x with
  |some (.tuple ⟨vs⟩)=>vs[i]?
  |_=>none
 | .nilCheck x=>match evo l x with
  |some (.pointer (some a))=>some (.pointer (some a))
  |_=>none
 |_=>none
def runF (P:Program) [Fx P]:Nat→List Oper→List Value→Option (List Oper×List Value)
 |0,ops,l=>some (ops,l)
 |n+1,⟨some d,op,_,_,_,none⟩::ops,l=>match fv P l op with
  |some v=>match lset l d v with
   |some l'=>runF P n ops l'
   |none=>none
  |none=>none
 |_,_,_=>none
section
variable {P:Program} [Fx P] {C:World→Prop} {l:List Value} {d:Option Tmp} {ty:TypeId} {ps:String} {af:Array Edge} {g:Option (Nat×Bool)}
theorem Mm {op:Op} {v:Value} (h:fv P l op=some v):Det P C ⟨d,op,ty,ps,af,g⟩ l v:=by
 unfold fv at h;split at h
 ·exact Bp h
 ·exact F1 h
 ·split at h
  ·rename_i b o hx;split at h
   ·rename_i m hm;cases h;exact E7 hx (UU hm)
   cases h
  cases h
 ·split at h
  ·rename_i i a j b hx hy;split at h
   ·rename_i hk;have:=XP hk;subst this;split at h
    ·rename_i r hr;cases h;unfold cmpf at hr;split at hr
     ·cases hr;exact Uu hx hy
     ·cases hr;exact UD hx hy
     ·cases hr;exact Uo hx hy
     ·cases hr;exact UT hx hy
     ·cases hr;exact Uj hx hy
     ·cases hr;exact Uq hx hy
     cases hr
    cases h
   cases h
  cases h
 ·split at h
  ·rename_i a hx;cases h;exact K3 hx
  cases h
 ·split at h
  ·rename_i vs hx;exact GD (vs:=vs) hx h
  cases h
 ·split at h
  ·rename_i a hx;cases h;exact F8 hx
  cases h
 cases h
theorem WR {op:Op} {v:Value} (h:fv P l op=some v):calm op=true:=by
 cases op<;>first|rfl|(simp[fv]at h)
end
section
variable {P:Program} [Fx P] {ro:Option Nat} {n0:Nat} {w0:World} {ds:List Deferred} {ops:Array Oper} {Q:Exit→Act→World→Prop} {L:List SA} {C:World→Prop}
theorem Wz:∀(n:Nat) {rest rest':List Oper} {l l':List Value} (k:WS P ro n0 w0 ds ops Q L rest' l') (h:runF P n rest l=some (rest',l'):=by exact rfl),WS P ro n0 w0 ds ops Q L rest l
 |0,_,_,_,_,k,h=>by cases h;exact k
 |n+1,rest,rest',l,l',k,h=>by
  unfold runF at h;split at h
  ·cases h;exact k
  ·rename_i n' d op ty ps af os l0 hn;cases hn;split at h
   ·rename_i v hv;split at h
    ·rename_i l1 hl;exact WS.det (WR hv) rfl rfl (Mm hv) hl (Wz n k h)
    cases h
   cases h
  cases h
theorem Dz:∀(n:Nat) {rest rest':List Oper} {l l':List Value} (k:DS P n0 w0 ds ops Q L rest' l') (h:runF P n rest l=some (rest',l'):=by exact rfl),DS P n0 w0 ds ops Q L rest l
 |0,_,_,_,_,k,h=>by cases h;exact k
 |n+1,rest,rest',l,l',k,h=>by
  unfold runF at h;split at h
  ·cases h;exact k
  ·rename_i n' d op ty ps af os l0 hn;cases hn;split at h
   ·rename_i v hv;split at h
    ·rename_i l1 hl;exact DS.det rfl rfl (Mm hv) hl (Dz n k h)
    cases h
   cases h
  cases h
variable {rest rest':List Oper} {l l' l'':List Value} {o:Oper} {d j s:Nat} {v:Value} {b c x want:Bool} {bl bl' bl'':List Bool} {fuel fuel' na:Nat}
theorem Wk (n:Nat) (h:Det P (St n0 w0 L) o l v) (k:WS P ro n0 w0 ds ops Q L rest' l'') (hc:calm o.op=true:=by exact rfl) (hd:o.dst=some d:=by exact rfl) (hg:o.guard=none:=by exact rfl) (hl:lset l d v=some l':=by exact rfl) (hr:runF P n rest l'=some (rest',l''):=by exact rfl):WS P ro n0 w0 ds ops Q L (o::rest) l:=WS.det hc hd hg h hl (Wz n k hr)
theorem Wt (n:Nat) (hg:o.guard=some (j,true)) (hb:yielded ops l.toArray j=some b) (h:b=true→Det P (St n0 w0 L) o l v) (k:WS P ro n0 w0 ds ops Q L rest' l'') (hc:calm o.op=true:=by exact rfl) (hd:o.dst=some d:=by exact rfl) (hl:lset l d (cond b v undef)=some l':=by exact rfl) (hr:runF P n rest l'=some (rest',l''):=by exact rfl):WS P ro n0 w0 ds ops Q L (o::rest) l:=WS.guardT hc hd hg hb h hl (Wz n k hr)
theorem Wf (n:Nat) (hg:o.guard=some (j,false)) (hb:yielded ops l.toArray j=some b) (h:(!b)=true→Det P (St n0 w0 L) o l v) (k:WS P ro n0 w0 ds ops Q L rest' l'') (hc:calm o.op=true:=by exact rfl) (hd:o.dst=some d:=by exact rfl) (hl:lset l d (cond (!b) v undef)=some l':=by exact rfl) (hr:runF P n rest l'=some (rest',l''):=by exact rfl):WS P ro n0 w0 ds ops Q L (o::rest) l:=WS.guardF hc hd hg hb h hl (Wz n k hr)
theorem Wn (n:Nat) (hg:o.guard=some (j,want)) (hs:(ops[j]?).bind (·.dst)=some s) (hv:l[s]? = some (cond c (.bool x) undef)) (h:(c&&(x == want))=true→Det P (St n0 w0 L) o l v) (k:WS P ro n0 w0 ds ops Q L rest' l'') (hc:calm o.op=true:=by exact rfl) (hd:o.dst=some d:=by exact rfl) (hl:lset l d (cond (c&&(x == want)) v undef)=some l':=by exact rfl) (hr:runF P n rest l'=some (rest',l''):=by exact rfl):WS P ro n0 w0 ds ops Q L (o::rest) l:=WS.guardN hc hd hg hs hv h hl (Wz n k hr)
theorem Dk (n:Nat) (h:Det P (St n0 w0 L) o l v) (k:DS P n0 w0 ds ops Q L rest' l'') (hd:o.dst=some d:=by exact rfl) (hg:o.guard=none:=by exact rfl) (hl:lset l d v=some l':=by exact rfl) (hr:runF P n rest l'=some (rest',l''):=by exact rfl):DS P n0 w0 ds ops Q L (o::rest) l:=DS.det hd hg h hl (Dz n k hr)
theorem Dt (n:Nat) (hg:o.guard=some (j,true)) (hb:yielded ops l.toArray j=some b) (h:b=true→Det P (St n0 w0 L) o l v) (k:DS P n0 w0 ds ops Q L rest' l'') (hd:o.dst=some d:=by exact rfl) (hl:lset l d (cond b v undef)=some l':=by exact rfl) (hr:runF P n rest l'=some (rest',l''):=by exact rfl):DS P n0 w0 ds ops Q L (o::rest) l:=DS.guardT hd hg hb h hl (Dz n k hr)
theorem Df (n:Nat) (hg:o.guard=some (j,false)) (hb:yielded ops l.toArray j=some b) (h:(!b)=true→Det P (St n0 w0 L) o l v) (k:DS P n0 w0 ds ops Q L rest' l'') (hd:o.dst=some d:=by exact rfl) (hl:lset l d (cond (!b) v undef)=some l':=by exact rfl) (hr:runF P n rest l'=some (rest',l''):=by exact rfl):DS P n0 w0 ds ops Q L (o::rest) l:=DS.guardF hd hg hb h hl (Dz n k hr)
theorem Dn (n:Nat) (hg:o.guard=some (j,want)) (hs:(ops[j]?).bind (·.dst)=some s) (hv:l[s]? = some (cond c (.bool x) undef)) (h:(c&&(x == want))=true→Det P (St n0 w0 L) o l v) (k:DS P n0 w0 ds ops Q L rest' l'') (hd:o.dst=some d:=by exact rfl) (hl:lset l d (cond (c&&(x == want)) v undef)=some l':=by exact rfl) (hr:runF P n rest l'=some (rest',l''):=by exact rfl):DS P n0 w0 ds ops Q L (o::rest) l:=DS.guardN hd hg hs hv h hl (Dz n k hr)
def asOk (ops:Array Oper):List Nat→List Bool→Bool
 |[],_=>true
 |i::is,bl=>Region.free .any ops bl.toArray i&&(Region.ready .any ops bl.toArray).contains i&&asOk ops is (bl.set i true)
def atOk (ops:Array Oper) (na s:Nat):List Nat→List Bool→Bool
 |[],_=>true
 |i::is,bl=>Je ops na i s&&!(i == s)&&FK ops bl.toArray&&Region.free .any ops bl.toArray i&&(Region.ready .any ops bl.toArray).contains i&&atOk ops na s is (bl.set i true)
def runA (P:Program) [Fx P] (ops:Array Oper):List Nat→Nat→List Bool→List Value→Option (Nat×List Bool×List Value)
 |[],f,bl,l=>some (f,bl,l)
 |i::is,f+1,bl,l=>match ops[i]? with
  |some ⟨some d,op,_,_,_,none⟩=>match fv P l op with
   |some v=>match lset l d v with
    |some l'=>match lset bl i true with
     |some bl'=>runA P ops is f bl' l'
     |none=>none
    |none=>none
   |none=>none
  |_=>none
 |_,_,_,_=>none
theorem Az (hcalm:Bf ops=true):∀(is:List Nat) {fuel fuel':Nat} {bl bl':List Bool} {l l':List Value} (hk:asOk ops is bl=true) (k:AS P ro n0 w0 ds ops Q C L fuel' bl' l')
  (h:runA P ops is fuel bl l=some (fuel',bl',l')),AS P ro n0 w0 ds ops Q C L fuel bl l
 |[],_,_,_,_,_,_,_,k,h=>by cases h;exact k
 |i::is,fuel,fuel',bl,bl',l,l',hk,k,h=>by
  unfold runA at h;split at h
  ·rename_i he;cases he
  ·rename_i i' is' f bl0 l0 he;cases he;simp only[asOk,Bool.and_eq_true]at hk;split at h
   ·rename_i d op ty ps af ho;split at h
    ·rename_i v hv;split at h
     ·rename_i l1 hl;split at h
      ·rename_i bl1 hb;have hb1:=Ag hb;exact AS.take i ho hcalm hk.1.1 hk.1.2 rfl rfl (Mm hv) hb hl (Az hcalm is (by rw[←hb1];exact hk.2) k h)
      cases h
     cases h
    cases h
   cases h
  cases h
theorem Tz (hcalm:Bf ops=true) {na s:Nat}:∀(is:List Nat) {fuel fuel':Nat} {bl bl':List Bool} {l l':List Value} (hk:atOk ops na s is bl=true) (k:AT P ro n0 w0 ds ops Q C s L fuel' bl' l')
  (h:runA P ops is fuel bl l=some (fuel',bl',l')),AT P ro n0 w0 ds ops Q C s L fuel bl l
 |[],_,_,_,_,_,_,_,k,h=>by cases h;exact k
 |i::is,fuel,fuel',bl,bl',l,l',hk,k,h=>by
  unfold runA at h;split at h
  ·rename_i he;cases he
  ·rename_i i' is' f bl0 l0 he;cases he;simp only[atOk,Bool.and_eq_true]at hk;split at h
   ·rename_i d op ty ps af ho;split at h
    ·rename_i v hv;split at h
     ·rename_i l1 hl;split at h
      ·rename_i bl1 hb;have hb1:=Ag hb;exact AT.take i ho hcalm hk.1.1.1.1.1 (by simpa using hk.1.1.1.1.2) hk.1.1.1.2 hk.1.1.2 hk.1.2 rfl rfl (Mm hv) hb hl (Tz hcalm is (by rw[←hb1];exact hk.2) k h)
      cases h
     cases h
    cases h
   cases h
  cases h
theorem Ar (is:List Nat) (k:AS P ro n0 w0 ds ops Q C L fuel' bl' l') (hcalm:Bf ops=true:=by kernel_rfl) (hk:asOk ops is bl=true:=by kernel_rfl) (h:runA P ops is fuel bl l=some (fuel',bl',l'):=by exact rfl):AS P ro n0 w0 ds ops Q C L fuel bl l:=Az hcalm is hk k h
theorem Ak (i:Nat) (is:List Nat) (hi:ops[i]? = some o) (h:Det P C o l v) (k:AS P ro n0 w0 ds ops Q C L fuel' bl'' l'') (hcalm:Bf ops=true:=by kernel_rfl) (hk:asOk ops (i::is) bl=true:=by kernel_rfl)
  (hd:o.dst=some d:=by exact rfl) (hg:o.guard=none:=by exact rfl) (hb:lset bl i true=some bl':=by exact rfl) (hl:lset l d v=some l':=by exact rfl) (hr:runA P ops is fuel bl' l'=some (fuel',bl'',l''):=by exact rfl):AS P ro n0 w0 ds ops Q C L (fuel+1) bl l:=by
 simp only[asOk,Bool.and_eq_true]at hk;exact AS.take i hi hcalm hk.1.1 hk.1.2 hd hg h hb hl (Az hcalm is (by rw[←Ag hb];exact hk.2) k hr)
theorem At (i:Nat) (is:List Nat) (hi:ops[i]? = some o) (hg:o.guard=some (j,true)) (hw:yielded ops l.toArray j=some b) (h:b=true→Det P C o l v) (k:AS P ro n0 w0 ds ops Q C L fuel' bl'' l'') (hcalm:Bf ops=true:=by kernel_rfl) (hk:asOk ops (i::is) bl=true:=by kernel_rfl)
  (hd:o.dst=some d:=by exact rfl) (hb:lset bl i true=some bl':=by exact rfl) (hl:lset l d (cond b v undef)=some l':=by exact rfl) (hr:runA P ops is fuel bl' l'=some (fuel',bl'',l''):=by exact rfl):AS P ro n0 w0 ds ops Q C L (fuel+1) bl l:=by
 simp only[asOk,Bool.and_eq_true]at hk;exact AS.takeT i hi hcalm hk.1.1 hk.1.2 hd hg hw h hb hl (Az hcalm is (by rw[←Ag hb];exact hk.2) k hr)
theorem Tr (na:Nat) (is:List Nat) (k:AT P ro n0 w0 ds ops Q C s L fuel' bl' l') (hcalm:Bf ops=true:=by kernel_rfl) (hk:atOk ops na s is bl=true:=by kernel_rfl) (h:runA P ops is fuel bl l=some (fuel',bl',l'):=by exact rfl):AT P ro n0 w0 ds ops Q C s L fuel bl l:=Tz hcalm is hk k h
theorem Tk (na i:Nat) (is:List Nat) (hi:ops[i]? = some o) (h:Det P C o l v) (k:AT P ro n0 w0 ds ops Q C s L fuel' bl'' l'') (hcalm:Bf ops=true:=by kernel_rfl) (hk:atOk ops na s (i::is) bl=true:=by kernel_rfl)
  (hd:o.dst=some d:=by exact rfl) (hg:o.guard=none:=by exact rfl) (hb:lset bl i true=some bl':=by exact rfl) (hl:lset l d v=some l':=by exact rfl) (hr:runA P ops is fuel bl' l'=some (fuel',bl'',l''):=by exact rfl):AT P ro n0 w0 ds ops Q C s L (fuel+1) bl l:=by
 simp only[atOk,Bool.and_eq_true]at hk;exact AT.take i hi hcalm hk.1.1.1.1.1 (by simpa using hk.1.1.1.1.2) hk.1.1.1.2 hk.1.1.2 hk.1.2 hd hg h hb hl (Tz hcalm is (by rw[←Ag hb];exact hk.2) k hr)
theorem Tt (na i:Nat) (is:List Nat) (hi:ops[i]? = some o) (hg:o.guard=some (j,true)) (hw:yielded ops l.toArray j=some b) (h:b=true→Det P C o l v) (k:AT P ro n0 w0 ds ops Q C s L fuel' bl'' l'') (hcalm:Bf ops=true:=by kernel_rfl) (hk:atOk ops na s (i::is) bl=true:=by kernel_rfl)
  (hd:o.dst=some d:=by exact rfl) (hb:lset bl i true=some bl':=by exact rfl) (hl:lset l d (cond b v undef)=some l':=by exact rfl) (hr:runA P ops is fuel bl' l'=some (fuel',bl'',l''):=by exact rfl):AT P ro n0 w0 ds ops Q C s L (fuel+1) bl l:=by
 simp only[atOk,Bool.and_eq_true]at hk;exact AT.takeT i hi hcalm hk.1.1.1.1.1 (by simpa using hk.1.1.1.1.2) hk.1.1.1.2 hk.1.1.2 hk.1.2 hd hg hw h hb hl (Tz hcalm is (by rw[←Ag hb];exact hk.2) k hr)
theorem Dr {id:Nat} {os:List Oper} (hm:P.follows .mixedOrders=true) (n:Nat) (k:DS P n0 w0 ds os.toArray Q L rest' l') (hr:runF P n os l=some (rest',l'):=by exact rfl) (hB:Region.lexB .any os.toArray=true:=by kernel_rfl) (hcalm:Bf os.toArray=true:=by kernel_rfl):
  CS P ro n0 w0 ds (.region id os.toArray true) Q L l:=CS.draw hm hB hcalm (Dz n k hr)
end
section
variable {P:Program} {ro:Option Nat} {n0:Nat} {w0:World} {ds:List Deferred} {ops:Array Oper} {Q:Exit→Act→World→Prop} {L:List SA} {C:World→Prop} {l:List Value} {o:Oper} {s:Nat} {bl bl':List Bool} {fuel:Nat}
theorem Ao (i:Nat) (hi:ops[i]? = some o) (k:WS P ro n0 w0 ds ops (Exit.then (AH P ro ops (NP ops Q) C fuel bl'.toArray) (NP ops Q)) L [o] l) (hr:Region.ready .any ops bl.toArray=[i]:=by kernel_rfl)
  (hC:∀u,St n0 w0 L u→C u:=by first|exact fun _ h=>h|exact fun _ h=>h.sub (by repeat first|exact List.Sublist.refl _|apply List.Sublist.cons_cons|apply List.Sublist.cons)) (hb:lset bl i true=some bl':=by exact rfl):AS P ro n0 w0 ds ops Q C L (fuel+1) bl l:=AS.one hr hi hC hb k
theorem Ae (k:QS n0 w0 ds Q .normal L l) (hr:Region.ready .any ops bl.toArray=[]:=by kernel_rfl)
  (hC:∀u,St n0 w0 L u→C u:=by first|exact fun _ h=>h|exact fun _ h=>h.sub (by repeat first|exact List.Sublist.refl _|apply List.Sublist.cons_cons|apply List.Sublist.cons)):AS P ro n0 w0 ds ops Q C L 0 bl l:=AS.done hr hC k
theorem To (i:Nat) (hi:ops[i]? = some o) (k:WS P ro n0 w0 ds ops (Exit.then (AZ P ro ops (NP ops Q) C s fuel bl'.toArray) (NP ops Q)) L [o] l) (hr:Region.ready .any ops bl.toArray=[i]:=by kernel_rfl)
  (hC:bl.toArray.getD s true=false→∀u,St n0 w0 L u→C u:=by first|(intro h;exact absurd h (by decide))|exact fun _ _ h=>h|exact fun _ _ h=>h.sub (by repeat first|exact List.Sublist.refl _|apply List.Sublist.cons_cons|apply List.Sublist.cons)) (hb:lset bl i true=some bl':=by exact rfl):AT P ro n0 w0 ds ops Q C s L (fuel+1) bl l:=AT.one hr hi hC hb k
theorem Te (k:QS n0 w0 ds Q .normal L l) (hr:Region.ready .any ops bl.toArray=[]:=by kernel_rfl)
  (hC:bl.toArray.getD s true=false→∀u,St n0 w0 L u→C u:=by first|(intro h;exact absurd h (by decide))|exact fun _ _ h=>h|exact fun _ _ h=>h.sub (by repeat first|exact List.Sublist.refl _|apply List.Sublist.cons_cons|apply List.Sublist.cons)):AT P ro n0 w0 ds ops Q C s L 0 bl l:=AT.done hr hC k
end
def cuto:Nat→Nat→List Value→Option (List Value)
 |0,0,_=>some []
 |0,n+1,v::l=>match cuto 0 n l with
  |some r=>some (v::r)
  |none=>none
 |i+1,n,_::l=>cuto i n l
 |_,_,[]=>none
theorem Jc:∀{i n:Nat} {c cs:List Value},cuto i n c=some cs→(c.drop i).take n=cs∧cs.length=n
 |0,0,c,cs,h=>by simp[cuto]at h;subst h;simp
 |0,n+1,[],cs,h=>by simp[cuto]at h
 |0,n+1,v::l,cs,h=>by
  unfold cuto at h;split at h
  ·rename_i r hr;simp at h;subst h;have:=Jc hr;simp at this⊢;exact this
  simp at h
 |i+1,n,[],cs,h=>by simp[cuto]at h
 |i+1,n,v::l,cs,h=>by
  have:=Jc (show cuto i n l=some cs from h)
  simpa using this
section
variable {P:Program} {C:World→Prop} {l:List Value} {d:Option Tmp} {ty:TypeId} {ps:String} {af:Array Edge} {g:Option (Nat×Bool)} {v:Value}
theorem op_ {x:Operand} (h:evo l x=some v:=by first|rfl|exact K6 (by assumption) rfl|exact K6 (Z4 (by assumption)) rfl):evo l x=some v:=h
variable {n0:Nat} {w0:World} {L:List SA} {T T' e e':TypeId} {x y z:Operand} {i b o a k q q' m n:Nat} {c cs:List Value} {vv:Value} {xs:List Int} {ii aa bb:Int} {w:World} {ik:IntKind} {ba bc br:Bool}
theorem Fm (h:evo l x=some v:=by exact op_):Det P C ⟨d,.move x,ty,ps,af,g⟩ l v:=Bp h
theorem Fq (hx:evo l x=some (.int ik aa):=by exact op_) (hy:evo l y=some (.int ik bb):=by exact op_):Det P C ⟨d,.binOp .eql T x y T',ty,ps,af,g⟩ l (.bool (decide (aa=bb))):=Uu hx hy
theorem Fr (hx:evo l x=some (.int ik aa):=by exact op_) (hy:evo l y=some (.int ik bb):=by exact op_):Det P C ⟨d,.binOp .neq T x y T',ty,ps,af,g⟩ l (.bool (decide (aa≠bb))):=UD hx hy
theorem Fl (hx:evo l x=some (.int ik aa):=by exact op_) (hy:evo l y=some (.int ik bb):=by exact op_):Det P C ⟨d,.binOp .lss T x y T',ty,ps,af,g⟩ l (.bool (decide (aa<bb))):=Uo hx hy
theorem Fk (hx:evo l x=some (.int ik aa):=by exact op_) (hy:evo l y=some (.int ik bb):=by exact op_):Det P C ⟨d,.binOp .leq T x y T',ty,ps,af,g⟩ l (.bool (decide (aa≤bb))):=UT hx hy
theorem Fg (hx:evo l x=some (.int ik aa):=by exact op_) (hy:evo l y=some (.int ik bb):=by exact op_):Det P C ⟨d,.binOp .gtr T x y T',ty,ps,af,g⟩ l (.bool (decide (bb<aa))):=Uj hx hy
theorem Fh (hx:evo l x=some (.int ik aa):=by exact op_) (hy:evo l y=some (.int ik bb):=by exact op_):Det P C ⟨d,.binOp .geq T x y T',ty,ps,af,g⟩ l (.bool (decide (bb≤aa))):=Uq hx hy
theorem Fn (hx:evo l x=some (.bool ba):=by exact op_):Det P C ⟨d,.unOp .not T x,ty,ps,af,g⟩ l (.bool (!ba)):=K3 hx
theorem Fc {aq:Addr} (hx:evo l x=some (.pointer (some aq)):=by exact op_):Det P C ⟨d,.nilCheck x,ty,ps,af,g⟩ l (.pointer (some aq)):=F8 hx
theorem Fe {f:Nat} {vs:List Value} (hx:evo l x=some (.tuple vs.toArray):=by exact op_) (hv:vs[f]? = some v:=by exact rfl):Det P C ⟨d,.extract x f,ty,ps,af,g⟩ l v:=GD hx hv
theorem Pa (hc:evo l x=some (.bool bc):=by exact op_) (hx:evo l y=some (cond bc (.bool br) undef):=by exact rfl) (hy:evo l z=some (.bool false):=by exact rfl):Det P C ⟨d,.pick x y z,ty,ps,af,g⟩ l (.bool (bc&&br)):=CD hc hx hy
theorem Po (hc:evo l x=some (.bool bc):=by exact op_) (hy:evo l z=some (cond (!bc) (.bool br) undef):=by exact rfl) (hx:evo l y=some (.bool true):=by exact rfl):Det P C ⟨d,.pick x y z,ty,ps,af,g⟩ l (.bool (bc||br)):=G7 hc hy hx
theorem Za (hx:evo l x=some (.int .i64 aa):=by exact op_) (hy:evo l y=some (.int .i64 bb):=by exact op_) (h: -9223372036854775808≤aa+bb∧aa+bb≤9223372036854775807:=by(try simp only[bq]at hg);omega):Det P C ⟨d,.binOp .add T x y T',ty,ps,af,g⟩ l (.int .i64 (aa+bb)):=P8 hx hy h
theorem Zb (hx:evo l x=some (.int .i64 aa):=by exact op_) (hy:evo l y=some (.int .i64 bb):=by exact op_) (h: -9223372036854775808≤aa-bb∧aa-bb≤9223372036854775807:=by(try simp only[bq]at hg);omega):Det P C ⟨d,.binOp .sub T x y T',ty,ps,af,g⟩ l (.int .i64 (aa-bb)):=Lh hx hy h
theorem Zc (hx:evo l x=some (.int .i64 aa):=by exact op_) (hy:evo l y=some (.int .i64 bb):=by exact op_) (h: -9223372036854775808≤aa*bb∧aa*bb≤9223372036854775807:=by(try simp only[bq]at hg);omega):Det P C ⟨d,.binOp .mul T x y T',ty,ps,af,g⟩ l (.int .i64 (aa*bb)):=VP hx hy h
theorem Db {pl:List (Nat×Operand)} {pls:List (Nat×Nat)} {zs:List Value} {parts:List (Nat×Value)} (hp:plc P T=some pls) (hz:zv P T=some zs) (hv:evp l pl=some parts:=by exact rfl) (hb:bld pls zs parts=some cs:=by exact rfl)
  (h1:∀p∈parts,p.2.oneCell'=true:=by first|(simp[Value.oneCell'];done)|((repeat (refine List.forall_mem_cons.2 ⟨by first|rfl|assumption,?_⟩));exact fun _ h=>absurd h List.not_mem_nil)):Det P C ⟨d,.build T pl.toArray,ty,ps,af,g⟩ l (.agg cs.toArray):=FJ hp hz hv hb h1
theorem Cb {f:Operand} {args:List Operand} {ts:Array TypeId} {fn:FuncId} {cap:List Value} {vs:List Value} (hf:evo l f=some (.func (.func fn) #[] cap.toArray)) (hv:evs l args=some vs) (he:Ent P fn)
  (hc:∀u,St n0 w0 L u→Calls P fn (vs++cap).toArray u (RetB u v)):Det P (St n0 w0 L) ⟨d,.call ⟨.value f,args.toArray,ts⟩,ty,ps,af,g⟩ l v:=Rg hf hv he hc
end
section
variable {P:Program} [Fx P] {C:World→Prop} {l:List Value} {d:Option Tmp} {ty:TypeId} {ps:String} {af:Array Edge} {g:Option (Nat×Bool)} {v:Value}
variable {n0:Nat} {w0:World} {L:List SA} {T T' e e':TypeId} {x y z:Operand} {i b o a k q q' m n:Nat} {c cs:List Value} {vv:Value} {xs:List Int} {ii aa bb:Int} {w:World} {ik:IntKind} {ba bc br:Bool}
theorem Ff {f:Nat} (hx:evo l x=some (.pointer (some ⟨b,o,none⟩)):=by exact op_) (hf:fof P T f=some m:=by exact rfl):Det P C ⟨d,.fieldAddr T x f,ty,ps,af,g⟩ l (.pointer (some ⟨b,o+m,none⟩)):=E7 hx (UU hf)
theorem Ba (j:Nat) (hx:evo l x=some (.pointer (some ⟨b,i,none⟩)):=by exact op_) (hj:L[j]? = some (blk b c e):=by exact rfl) (hv:c[i]? = some v:=by exact rfl) (hT:tkf P T=some (false,k):=by exact rfl):Det P (St n0 w0 L) ⟨d,.load T x,ty,ps,af,g⟩ l v:=Aj hx hj hv (C4 hT)
theorem Bb (j:Nat) (hx:evo l x=some (.pointer (some ⟨b,0,none⟩)):=by exact op_) (hj:L[j]? = some (blk b c e):=by exact rfl) (hT:tkf P T=some (true,c.length):=by exact rfl):Det P (St n0 w0 L) ⟨d,.load T x,ty,ps,af,g⟩ l (.agg c.toArray):=AK hx hj (C4 hT)
theorem Bc (j:Nat) (hx:evo l x=some (.pointer (some ⟨b,i,none⟩)):=by exact op_) (hj:L[j]? = some (blk b c e):=by exact rfl) (hT:tkf P T=some (true,n):=by exact rfl) (hv:cuto i n c=some cs:=by exact rfl):Det P (St n0 w0 L) ⟨d,.load T x,ty,ps,af,g⟩ l (.agg cs.toArray):=CK hx hj (Jc hv).1 (Jc hv).2 (C4 hT)
theorem Ga (hx:evo l x=some (.pointer (some ⟨b,i,none⟩)):=by exact op_) (hb:BlkAt w0 b c e:=by assumption) (hv:c[i]? = some v:=by exact rfl) (hT:tkf P T=some (false,k):=by exact rfl):Det P (St w0.heap.size w0 L) ⟨d,.load T x,ty,ps,af,g⟩ l v:=Bo hx hb hv (C4 hT)
theorem Gb (hx:evo l x=some (.pointer (some ⟨b,0,none⟩)):=by exact op_) (hb:BlkAt w0 b c e:=by assumption) (hT:tkf P T=some (true,n):=by exact rfl) (hn:c.length=n:=by exact rfl):Det P (St w0.heap.size w0 L) ⟨d,.load T x,ty,ps,af,g⟩ l (.agg c.toArray):=HR hx hb hn (C4 hT)
theorem Ia (hx:evo l x=some (.pointer (some (sla vv ii.toNat))):=by exact op_) (hs:SlI w0 vv xs:=by assumption) (h:0≤ii∧ii<xs.length:=by(try simp only[bq]at hg);omega) (hT:tkf P T=some (false,q):=by exact rfl):Det P (St w0.heap.size w0 L) ⟨d,.load T x,ty,ps,af,g⟩ l (.int .i64 (nth xs ii)):=RK hx hs h (C4 hT)
theorem Ib (j:Nat) (hx:evo l x=some (.pointer (some (sla vv ii.toNat))):=by exact op_) (hj:L[j]? = some (oints e vv xs):=by exact rfl) (h:0≤ii∧ii<xs.length:=by(try simp only[bq]at hg);omega) (hT:tkf P T=some (false,q):=by exact rfl):Det P (St n0 w0 L) ⟨d,.load T x,ty,ps,af,g⟩ l (.int .i64 (nth xs ii)):=Gq hx hj h (C4 hT)
theorem Xa (hx:evo l x=some vv:=by exact op_) (hy:evo l y=some (.int .i64 ii):=by exact op_) (hs:SlI w vv xs:=by assumption) (h0:0≤ii:=by(try simp only[bq]at hg);omega) (h1:ii<xs.length:=by(try simp only[bq]at hg);omega) (hT:slf P T=some (e,1,q):=by exact rfl):Det P C ⟨d,.indexAddr T x y,ty,ps,af,g⟩ l (.pointer (some (sla vv ii.toNat))):=IE (HZ hT) hx hy hs h0 h1
theorem Xb (j:Nat) (hx:evo l x=some vv:=by exact op_) (hy:evo l y=some (.int .i64 ii):=by exact op_) (hj:L[j]? = some (oints e' vv xs):=by exact rfl) (h0:0≤ii:=by(try simp only[bq]at hg);omega) (h1:ii<xs.length:=by(try simp only[bq]at hg);omega) (hT:slf P T=some (e,1,q):=by exact rfl):Det P (St n0 w0 L) ⟨d,.indexAddr T x y,ty,ps,af,g⟩ l (.pointer (some (sla vv ii.toNat))):=RD (HZ hT) hx hy hj h0 h1
theorem Na (hx:evo l x=some vv:=by exact op_) (hs:SlI w vv xs:=by assumption) (hT:slf P T=some (e,a,q):=by exact rfl):Det P C ⟨d,.call ⟨.builtin .len,#[x],#[T]⟩,ty,ps,af,g⟩ l (.int .i64 xs.length):=Bi (HZ hT) hx hs
theorem Nb (j:Nat) (hx:evo l x=some vv:=by exact op_) (hj:L[j]? = some (oints e' vv xs):=by exact rfl) (hT:slf P T=some (e,a,q):=by exact rfl):Det P (St n0 w0 L) ⟨d,.call ⟨.builtin .len,#[x],#[T]⟩,ty,ps,af,g⟩ l (.int .i64 xs.length):=Km (HZ hT) hx hj
section
variable {α:Type} {K:Cel α} {s:Sl α}
theorem Nc (hx:evo l x=some s.v:=by exact op_) (hs:SlT K w s:=by assumption) (hT:slf P T=some (e,a,q):=by exact rfl):Det P C ⟨d,.call ⟨.builtin .len,#[x],#[T]⟩,ty,ps,af,g⟩ l (.int .i64 s.l.length):=Gs (HZ hT) hx hs
theorem Xc (hx:evo l x=some s.v:=by exact op_) (hy:evo l y=some (.int .i64 ii):=by exact op_) (hs:SlT K w s:=by assumption) (hT:slf P T=some (e,k,q):=by exact rfl) (hk:K.k=k:=by exact rfl) (h0:0≤ii:=by(try simp only[bq]at hg);omega) (h1:ii<s.l.length:=by(try simp only[bq]at hg);omega):Det P C ⟨d,.indexAddr T x y,ty,ps,af,g⟩ l (.pointer (some (sla s.v (ii.toNat*k)))):=E1 (HZ hT) hx hy hs hk h0 h1
theorem Uc (k j:Nat) (hx:evo l x=some (.pointer (some ⟨slb s.v,slo s.v+ii.toNat*k+j,none⟩)):=by exact op_) (hs:SlT K w0 s:=by assumption) (ih:Inhabited α:=by infer_instance) (hk:K.k=k:=by exact rfl) (h:0≤ii∧ii<s.l.length:=by(try simp only[bq]at hg);omega) (hj:j<k:=by decide) (hc:(K.cells (nth s.l ii))[j]? = some v:=by exact rfl) (hT:tkf P T=some (false,q):=by exact rfl):Det P (St w0.heap.size w0 L) ⟨d,.load T x,ty,ps,af,g⟩ l v:=SP k j hx hs hk h hj hc (C4 hT)
theorem Ub (hx:evo l x=some (.pointer (some (sla s.v (ii.toNat*1)))):=by exact op_) (hs:SlT K w0 s:=by assumption) (ih:Inhabited α:=by infer_instance) (hk:K.k=1:=by exact rfl) (h:0≤ii∧ii<s.l.length:=by(try simp only[bq]at hg);omega) (hc:(K.cells (nth s.l ii))[0]? = some v:=by exact rfl) (hT:tkf P T=some (false,q):=by exact rfl):Det P (St w0.heap.size w0 L) ⟨d,.load T x,ty,ps,af,g⟩ l v:=LM hx hs hk h hc (C4 hT)
theorem Ua (hx:evo l x=some (.pointer (some (sla s.v (ii.toNat*k)))):=by exact op_) (hs:SlT K w0 s:=by assumption) (ih:Inhabited α:=by infer_instance) (hk:K.k=k:=by exact rfl) (h:0≤ii∧ii<s.l.length:=by(try simp only[bq]at hg);omega) (hc:K.cells (nth s.l ii)=cs:=by exact rfl) (hT:tkf P T=some (true,k):=by exact rfl):Det P (St w0.heap.size w0 L) ⟨d,.load T x,ty,ps,af,g⟩ l (.agg cs.toArray):=PS hx hs hk h hc (C4 hT)
variable [Inhabited α]
theorem Va (jj:Nat) (hj:L[jj]? = some (roT K s)) (hx:evo l x=some (.pointer (some (sla s.v (ii.toNat*k)))):=by exact op_) (hk:K.k=k:=by exact rfl) (h:0≤ii∧ii<s.l.length:=by(try simp only[bq]at hg);omega) (hc:K.cells (nth s.l ii)=cs:=by exact rfl) (hT:tkf P T=some (true,k):=by exact rfl):Det P (St n0 w0 L) ⟨d,.load T x,ty,ps,af,g⟩ l (.agg cs.toArray):=CZ hj hx hk h hc (C4 hT)
end
end
section
variable {P:Program} [Fx P] {ro:Option Nat} {n0:Nat} {w0:World} {ds:List Deferred} {ops:Array Oper} {Q:Exit→Act→World→Prop} {L L':List SA} {l l'':List Value} {T ty e:TypeId} {x y:Operand} {ps:String} {af:Array Edge} {b i q d:Nat} {bq_:Bool} {c c' vs:List Value} {v:Value} {rest rest':List Oper}
theorem Ws (n j:Nat) (k:WS P ro n0 w0 ds ops Q L' rest' l'') (hx:evo l x=some (.pointer (some ⟨b,i,none⟩)):=by exact rfl) (hj:L[j]? = some (blk b c e):=by exact rfl) (hi:i<c.length:=by first|decide|omega|(simp;done)|(simp;omega)|exact Nat.le_of_ble_eq_true rfl)
  (hy:evo l y=some v:=by exact rfl) (h1:v.oneCell'=true:=by first|rfl|assumption) (hT:tkf P T=some (bq_,1):=by exact rfl) (hc:lset c i v=some c':=by first|exact rfl|exact AG _ _ _) (hL:lset L j (blk b c' e)=some L':=by exact rfl) (hr:runF P n rest l=some (rest',l''):=by exact rfl):
  WS P ro n0 w0 ds ops Q L (⟨none,.store T x y,ty,ps,af,none⟩::rest) l:=WS.store hx hj hi hy h1 (C4 hT) hc hL (Wz n k hr)
theorem Wv (n j:Nat) (k:WS P ro n0 w0 ds ops Q L' rest' l'') (hx:evo l x=some (.pointer (some ⟨b,0,none⟩)):=by exact rfl) (hj:L[j]? = some (blk b c e):=by exact rfl) (hy:evo l y=some (.agg vs.toArray):=by exact rfl) (hn:vs.length=c.length:=by exact rfl)
  (h1:∀v∈vs,v.oneCell'=true:=by first|(simp[Value.oneCell'];done)|((repeat (refine List.forall_mem_cons.2 ⟨by first|rfl|assumption,?_⟩));exact fun _ h=>absurd h List.not_mem_nil)|exact Cel.one _ w _ (by first|assumption|exact trivial))
  (hT:tkf P T=some (true,q):=by exact rfl) (hnn:vs.length=q:=by exact rfl) (hL:lset L j (blk b vs e)=some L':=by exact rfl) (hr:runF P n rest l=some (rest',l''):=by exact rfl):
  WS P ro n0 w0 ds ops Q L (⟨none,.store T x y,ty,ps,af,none⟩::rest) l:=WS.storeW hx hj hy hn h1 (C4 hT) hnn hL (Wz n k hr)
variable {ll:Nat→List Value} {rr:Nat→List Oper} {lz:Nat→List Value}
theorem Wb (n:Nat) (hx:evo l x=some v) (hc:v.cells=c.toArray) (hl:∀b,lset l d (.pointer (some ⟨b,0,none⟩))=some (ll b)) (hr:∀b,runF P n rest (ll b)=some (rr b,lz b))
  (k:∀b,n0≤b→WS P ro n0 w0 ds ops Q (blk b c T::L) (rr b) (lz b)):WS P ro n0 w0 ds ops Q L (⟨some d,.box T x,ty,ps,af,none⟩::rest) l:=WS.box hx hc hl fun b hb=>Wz n (k b hb) (hr b)
theorem Wl (n:Nat) (hz:zv P T=some c) (hl:∀b,lset l d (.pointer (some ⟨b,0,none⟩))=some (ll b)) (hr:∀b,runF P n rest (ll b)=some (rr b,lz b))
  (k:∀b,n0≤b→WS P ro n0 w0 ds ops Q (blk b c T::L) (rr b) (lz b)):WS P ro n0 w0 ds ops Q L (⟨some d,.alloc T,ty,ps,af,none⟩::rest) l:=WS.alloc hz hl fun b hb=>Wz n (k b hb) (hr b)
theorem Wr (n:Nat) (k:∀b,n0≤b→WS P ro n0 w0 ds ops Q (blk b c T::L) (rr b) (lz b)) (hx:evo l x=some v:=by exact rfl) (hc:v.cells=c.toArray:=by exact rfl) (hl:∀b,lset l d (.pointer (some ⟨b,0,none⟩))=some (ll b):=by exact fun _=>rfl)
  (hr:∀b,runF P n rest (ll b)=some (rr b,lz b):=by exact fun _=>rfl):WS P ro n0 w0 ds ops Q L (⟨some d,.box T x,ty,ps,af,none⟩::rest) l:=Wb n hx hc hl hr k
theorem Wq (n:Nat) (hz:zv P T=some c) (k:∀b,n0≤b→WS P ro n0 w0 ds ops Q (blk b c T::L) (rr b) (lz b)) (hl:∀b,lset l d (.pointer (some ⟨b,0,none⟩))=some (ll b):=by exact fun _=>rfl)
  (hr:∀b,runF P n rest (ll b)=some (rr b,lz b):=by exact fun _=>rfl):WS P ro n0 w0 ds ops Q L (⟨some d,.alloc T,ty,ps,af,none⟩::rest) l:=Wl n hz hl hr k
theorem Nz (n:Nat) {id:Nat} {os:List Oper} {z:Code} (k:WS P ro n0 w0 ds os.toArray (Exit.then (z.wpIn (FW ro) 0 P Q) Q) L rest' l'') (hr:runF P n os l=some (rest',l''):=by exact rfl):CS P ro n0 w0 ds (.seq (.region id os.toArray false) z) Q L l:=CS.seq (CS.region (Wz n k hr))
theorem Ny (n:Nat) {id:Nat} {os:List Oper} (k:WS P ro n0 w0 ds os.toArray Q L rest' l'') (hr:runF P n os l=some (rest',l''):=by exact rfl):CS P ro n0 w0 ds (.region id os.toArray false) Q L l:=CS.region (Wz n k hr)
theorem Nx (n:Nat) {z:Code} {id:Nat} {os:List Oper} {Q':Exit→Act→World→Prop} (k:WS P ro n0 w0 ds os.toArray (Exit.then (z.wpIn (FW ro) 0 P Q') Q') L rest' l'') (hr:runF P n os l=some (rest',l''):=by exact rfl):WS P ro n0 w0 ds ops (Exit.then ((Code.seq (.region id os.toArray false) z).wpIn (FW ro) 0 P Q') Q) L [] l:=WS.done (QS.then_code (Nz n k hr))
theorem Nw (n:Nat) {id:Nat} {os:List Oper} {Q':Exit→Act→World→Prop} (k:WS P ro n0 w0 ds os.toArray Q' L rest' l'') (hr:runF P n os l=some (rest',l''):=by exact rfl):WS P ro n0 w0 ds ops (Exit.then ((Code.region id os.toArray false).wpIn (FW ro) 0 P Q') Q) L [] l:=WS.done (QS.then_code (CS.region (Wz n k hr)))
end
section
variable {P:Program} {ro:Option Nat} {n0:Nat} {w0:World} {ds:List Deferred} {ops:Array Oper} {Q:Exit→Act→World→Prop} {L:List SA} {C:World→Prop} {l:List Value} {o:Oper} {b:Bool} {rest:List Oper}
theorem Fy_ (h:False):Det P C o l undef:=h.elim
theorem Fz_ (h:False):Det P C o l (.bool false):=h.elim
theorem Fy (h:b=false) (k:b=true):Det P C o l undef:=Bool.noConfusion (h.symm.trans k)
theorem Fz (h:b=false) (k:b=true):Det P C o l (.bool false):=Bool.noConfusion (h.symm.trans k)
theorem eg_ {x:Operand} {v:Value} (hb:b=true) (h:evo l x=some (cond b v undef)):evo l x=some v:=K6 hb h
theorem en_:evs l []=some []:=rfl
theorem ec_ {x:Operand} {xs:List Operand} {v:Value} {vs:List Value} (h:evo l x=some v) (h2:evs l xs=some vs):evs l (x::xs)=some (v::vs):=Tj h h2
theorem Ck (k:QS n0 w0 ds Q .normal L l):CS P ro n0 w0 ds .skip Q L l:=CS.skip k
theorem Cr (k:QS n0 w0 ds Q .ret L l):CS P ro n0 w0 ds .ret Q L l:=CS.ret k
theorem Cv {id:Nat} (k:QS n0 w0 ds Q (.exit id) L l):CS P ro n0 w0 ds (.exit id) Q L l:=CS.leave k
theorem Cs {x y:Code} (k:CS P ro n0 w0 ds x (Exit.then (y.wpIn (FW ro) 0 P Q) Q) L l):CS P ro n0 w0 ds (.seq x y) Q L l:=CS.seq k
theorem Ce {id:Nat} {c:Code} (k:CS P ro n0 w0 ds c (Exit.inBlock id Q) L l):CS P ro n0 w0 ds (.block id c) Q L l:=CS.block k
theorem Qc {y:Code} {Q':Exit→Act→World→Prop} (k:CS P ro n0 w0 ds y Q' L l):QS n0 w0 ds (Exit.then (y.wpIn (FW ro) 0 P Q') Q) .normal L l:=k
theorem Qr {K:Act→World→Prop} (k:QS n0 w0 ds Q .ret L l):QS n0 w0 ds (Exit.then K Q) .ret L l:=k
theorem Qe {K:Act→World→Prop} {i:Nat} (k:QS n0 w0 ds Q (.exit i) L l):QS n0 w0 ds (Exit.then K Q) (.exit i) L l:=k
theorem Qb {id:Nat} (k:QS n0 w0 ds Q .normal L l):QS n0 w0 ds (Exit.inBlock id Q) .normal L l:=k
theorem Qs {id:Nat} (k:QS n0 w0 ds Q .ret L l):QS n0 w0 ds (Exit.inBlock id Q) .ret L l:=k
theorem Qx {id:Nat} (k:QS n0 w0 ds Q .normal L l):QS n0 w0 ds (Exit.inBlock id Q) (.exit id) L l:=QS.block_exit k
theorem Qn {id i:Nat} (k:QS n0 w0 ds Q (.exit i) L l) (h:(i == id)=false:=by exact rfl):QS n0 w0 ds (Exit.inBlock id Q) (.exit i) L l:=QS.block_exit_ne h k
theorem Wd (k:QS n0 w0 ds Q .normal L l):WS P ro n0 w0 ds ops Q L [] l:=WS.done k
theorem Cn {c:Operand} {x y:Code} {b:Bool} {p q:Prop} (kt:p→CS P ro n0 w0 ds x Q L l) (kf:q→CS P ro n0 w0 ds y Q L l) (hc:evo l c=some (.bool b):=by exact rfl) (hp:(b=true)=p:=by(try simp only[bq]);exact rfl) (hq:(b=false)=q:=by(try simp only[bq]);exact rfl):CS P ro n0 w0 ds (.cond c x y) Q L l:=CS.cond hc (fun h=>kt (hp▸h)) (fun h=>kf (hq▸h))
theorem Wp {c:Operand} {x y:Code} {b:Bool} {p q:Prop} {Q':Exit→Act→World→Prop} (kt:p→CS P ro n0 w0 ds x Q' L l) (kf:q→CS P ro n0 w0 ds y Q' L l) (hc:evo l c=some (.bool b):=by exact rfl) (hp:(b=true)=p:=by(try simp only[bq]);exact rfl) (hq:(b=false)=q:=by(try simp only[bq]);exact rfl):WS P ro n0 w0 ds ops (Exit.then ((Code.cond c x y).wpIn (FW ro) 0 P Q') Q) L [] l:=Wd (Qc (Cn kt kf hc hp hq))
theorem Nu {id:Nat} {c:Code} {Q':Exit→Act→World→Prop} (k:CS P ro n0 w0 ds c (Exit.inBlock id Q') L l):WS P ro n0 w0 ds ops (Exit.then ((Code.block id c).wpIn (FW ro) 0 P Q') Q) L [] l:=Wd (Qc (Ce k))
theorem Dd (k:QS n0 w0 ds Q .normal L l):DS P n0 w0 ds ops Q L [] l:=k
theorem Qa {bl:List Bool} {fuel:Nat} (k:AS P ro n0 w0 ds ops Q C L fuel bl l):QS n0 w0 ds (Exit.then (AH P ro ops (NP ops Q) C fuel bl.toArray) (NP ops Q)) .normal L l:=QS.then_AS k
theorem Qt {bl:List Bool} {fuel s:Nat} (k:AT P ro n0 w0 ds ops Q C s L fuel bl l):QS n0 w0 ds (Exit.then (AZ P ro ops (NP ops Q) C s fuel bl.toArray) (NP ops Q)) .normal L l:=QS.then_AT k
theorem Wc {β:Type} {f:Operand} {args:List Operand} {ts:Array TypeId} {fn:FuncId} {cap:List Value} {vs:List Value} {v:β→Value} {A:β→SA} {p:β→Prop} {i:Nat} {l':β→List Value} {ty:TypeId} {ps:String} {af:Array Edge}
  (hf:evo l f=some (.func (.func fn) #[] cap.toArray)) (hv:evs l args=some vs) (he:Ent P fn)
  (hc:∀u,St n0 w0 L u→Calls P fn (vs++cap).toArray u (fun e u'=>∃x,p x∧RetF u (v x) (A x) e u'))
  (hl:∀x,lset l i (v x)=some (l' x)) (k:∀x,p x→WS P ro n0 w0 ds ops Q (A x::L) rest (l' x)):
  WS P ro n0 w0 ds ops Q L (⟨some i,.call ⟨.value f,args.toArray,ts⟩,ty,ps,af,none⟩::rest) l:=WS.callF hf hv he hc hl k
end
section
variable {P:Program} [Fx P] {ro:Option Nat} {n0:Nat} {w0:World} {ds:List Deferred} {ops:Array Oper} {Q:Exit→Act→World→Prop} {L:List SA} {l l'':List Value} {rest':List Oper}
theorem Nv (n:Nat) {id:Nat} {os:List Oper} {z y:Code} {Q':Exit→Act→World→Prop} (k:WS P ro n0 w0 ds os.toArray (Exit.then (z.wpIn (FW ro) 0 P (Exit.then (y.wpIn (FW ro) 0 P Q') Q')) (Exit.then (y.wpIn (FW ro) 0 P Q') Q')) L rest' l'') (hr:runF P n os l=some (rest',l''):=by exact rfl):
  WS P ro n0 w0 ds ops (Exit.then ((Code.seq (.seq (.region id os.toArray false) z) y).wpIn (FW ro) 0 P Q') Q) L [] l:=Wd (Qc (Cs (Nz n k hr)))
end
section
variable {P:Program} [Fx P] {ro:Option Nat} {n0:Nat} {w0:World} {ds:List Deferred} {ops:Array Oper} {Q:Exit→Act→World→Prop} {L:List SA} {rest rest':List Oper} {l l' l'':List Value} {o:Oper} {d j:Nat} {v:Value} {b:Bool}
theorem Wj (n:Nat) (k:WS P ro n0 w0 ds ops Q L rest' l'') (hg:o.guard=some (j,true):=by exact rfl) (hb:yielded ops l.toArray j=some b:=by exact rfl) (h:b=true→Det P (St n0 w0 L) o l v:=by intro hg;first|exact Ff|exact Fm|exact Fn|exact Fq|exact Fg|exact Fr|exact Fl|exact Fc|exact Nc|exact Ba 0|exact Ba 1|exact Ba 2|exact Ba 3|exact Ba 4|exact Ba 5|exact Ba 6|exact Ba 7|exact Ba 8|exact Ba 9|exact Bb 0|exact Bb 1|exact Bb 2|exact Bb 3|exact Bb 4|exact Bb 5|exact Ga|exact Fk|exact Fh|exact Fe|exact Xc|exact Na (eg_ hg rfl)|exact Na|exact Xa (eg_ hg rfl)|exact Xa|exact Zb|exact Za)
  (hc:calm o.op=true:=by exact rfl) (hd:o.dst=some d:=by exact rfl) (hl:lset l d (cond b v undef)=some l':=by exact rfl) (hr:runF P n rest l'=some (rest',l''):=by exact rfl):WS P ro n0 w0 ds ops Q L (o::rest) l:=WS.guardT hc hd hg hb h hl (Wz n k hr)
theorem We (n:Nat) (k:WS P ro n0 w0 ds ops Q L rest' l'') (hg:o.guard=some (j,false):=by exact rfl) (hb:yielded ops l.toArray j=some b:=by exact rfl) (h:(!b)=true→Det P (St n0 w0 L) o l v:=by intro hg;first|exact Ff|exact Fm|exact Fn|exact Fq|exact Fg|exact Fr|exact Fl|exact Fc|exact Nc|exact Ba 0|exact Ba 1|exact Ba 2|exact Ba 3|exact Ba 4|exact Ba 5|exact Ba 6|exact Ba 7|exact Ba 8|exact Ba 9|exact Bb 0|exact Bb 1|exact Bb 2|exact Bb 3|exact Bb 4|exact Bb 5|exact Ga|exact Fk|exact Fh|exact Fe|exact Xc|exact Na (eg_ hg rfl)|exact Na|exact Xa (eg_ hg rfl)|exact Xa|exact Zb|exact Za)
  (hc:calm o.op=true:=by exact rfl) (hd:o.dst=some d:=by exact rfl) (hl:lset l d (cond (!b) v undef)=some l':=by exact rfl) (hr:runF P n rest l'=some (rest',l''):=by exact rfl):WS P ro n0 w0 ds ops Q L (o::rest) l:=WS.guardF hc hd hg hb h hl (Wz n k hr)
theorem Dj (n:Nat) (k:DS P n0 w0 ds ops Q L rest' l'') (hg:o.guard=some (j,true):=by exact rfl) (hb:yielded ops l.toArray j=some b:=by exact rfl) (h:b=true→Det P (St n0 w0 L) o l v:=by intro hg;first|exact Ff|exact Fm|exact Fn|exact Fq|exact Fg|exact Fr|exact Fl|exact Fc|exact Nc|exact Ba 0|exact Ba 1|exact Ba 2|exact Ba 3|exact Ba 4|exact Ba 5|exact Ba 6|exact Ba 7|exact Ba 8|exact Ba 9|exact Bb 0|exact Bb 1|exact Bb 2|exact Bb 3|exact Bb 4|exact Bb 5|exact Ga|exact Fk|exact Fh|exact Fe|exact Xc|exact Na (eg_ hg rfl)|exact Na|exact Xa (eg_ hg rfl)|exact Xa|exact Zb|exact Za)
  (hd:o.dst=some d:=by exact rfl) (hl:lset l d (cond b v undef)=some l':=by exact rfl) (hr:runF P n rest l'=some (rest',l''):=by exact rfl):DS P n0 w0 ds ops Q L (o::rest) l:=DS.guardT hd hg hb h hl (Dz n k hr)
theorem De (n:Nat) (k:DS P n0 w0 ds ops Q L rest' l'') (hg:o.guard=some (j,false):=by exact rfl) (hb:yielded ops l.toArray j=some b:=by exact rfl) (h:(!b)=true→Det P (St n0 w0 L) o l v:=by intro hg;first|exact Ff|exact Fm|exact Fn|exact Fq|exact Fg|exact Fr|exact Fl|exact Fc|exact Nc|exact Ba 0|exact Ba 1|exact Ba 2|exact Ba 3|exact Ba 4|exact Ba 5|exact Ba 6|exact Ba 7|exact Ba 8|exact Ba 9|exact Bb 0|exact Bb 1|exact Bb 2|exact Bb 3|exact Bb 4|exact Bb 5|exact Ga|exact Fk|exact Fh|exact Fe|exact Xc|exact Na (eg_ hg rfl)|exact Na|exact Xa (eg_ hg rfl)|exact Xa|exact Zb|exact Za)
  (hd:o.dst=some d:=by exact rfl) (hl:lset l d (cond (!b) v undef)=some l':=by exact rfl) (hr:runF P n rest l'=some (rest',l''):=by exact rfl):DS P n0 w0 ds ops Q L (o::rest) l:=DS.guardF hd hg hb h hl (Dz n k hr)
end
structure LockD where
 w:Int
 s:Int
 deriving Inhabited,DecidableEq
structure NoteD where
 nm:ByteArray
 pl:Int
 lk:Int
 wh:Sl Lit
 cl:Clue
 gv:Value
 deriving Inhabited
structure NoteP where
 nm:ByteArray
 pl:Int
 lk:Int
 wh:List Lit
 cl:Clue
 deriving Inhabited
def NoteD.p (n:NoteD):NoteP:=⟨n.nm,n.pl,n.lk,n.wh.l,n.cl⟩
structure Game where
 rm:Room
 lks:Sl LockD
 cds:Sl (Sl Int)
 nts:Sl NoteD
 tr:Int
 deriving Inhabited
abbrev gcl (G:Game):List Value:=[G.rm.pls.v,G.rm.ths.v,G.rm.prs.v,G.rm.wys.v,G.rm.acs.v,G.rm.aus.v,.int .i64 G.rm.ply,G.rm.gl.v,G.lks.v,G.cds.v,G.nts.v,.int .i64 G.tr ]
structure GP where
 rm:Room
 lks:List LockD
 cds:List (List Int)
 nts:List NoteP
 tr:Int
 deriving Inhabited
def Game.p (g:Game):GP:=⟨g.rm.e,g.lks.l,g.cds.l.map Sl.l,g.nts.l.map NoteD.p,g.tr⟩
structure Pos where
 st:Stt
 rd:Sl Bool
 deriving Inhabited
def cLock:Cel LockD:=⟨2,fun a=>[.int .i64 a.w,.int .i64 a.s],fun _ _=>True,fun _=>rfl,fun _ _ _ _ _=>trivial,fun _ _ _ v hv=>by simp at hv;rcases hv with rfl|rfl<;>rfl⟩
theorem SlI.one1 {w:World} {v:Value} {xs:List Int} (h:SlI w v xs):v.oneCell'=true:=by
 obtain⟨p,cap,rfl⟩:=h.shape;rfl
def cNote:Cel NoteD:=⟨11,fun a=>[.string a.nm,.int .i64 a.pl,.int .i64 a.lk,a.wh.v,.int .i64 a.cl.k,.int .i64 a.cl.a,.int .i64 a.cl.b,.int .i64 a.cl.n,.int .i64 a.cl.m,a.gv,.bool a.cl.nt],
 fun w a=>SlT cLit w a.wh∧SlI w a.gv a.cl.g,fun _=>rfl,fun _ _ _ h hb=>⟨h.1.ext hb,h.2.ext hb⟩,fun _ _ h v hv=>by
 simp at hv;rcases hv with rfl|rfl|rfl|rfl|rfl|rfl|rfl|rfl|rfl|rfl|rfl
 ·rfl
 ·rfl
 ·rfl
 ·exact Sl.one h.1
 ·rfl
 ·rfl
 ·rfl
 ·rfl
 ·rfl
 ·exact h.2.one1
 rfl⟩
structure GameOk (w:World) (g:Game):Prop where
 rm:RoomOk w g.rm
 lks:SlT cLock w g.lks
 cds:SlT (cSl cInt) w g.cds
 nts:SlT cNote w g.nts
theorem GameOk.ext {w u:World} {g:Game} (h:GameOk w g) (hb:Below w.heap.size w u):GameOk u g:=⟨h.rm.ext hb,h.lks.ext hb,h.cds.ext hb,h.nts.ext hb⟩
theorem GameOk.st {w u:World} {L:List SA} {g:Game} (h:GameOk w g) (hu:St w.heap.size w L u):GameOk u g:=h.ext hu.below
structure PosOk (w:World) (p:Pos):Prop where
 st:SttOk w p.st
 rd:SlT cBool w p.rd
theorem PosOk.ext {w u:World} {p:Pos} (h:PosOk w p) (hb:Below w.heap.size w u):PosOk u p:=⟨h.st.ext hb,h.rd.ext hb⟩
theorem PosOk.toSt {w u:World} {L:List SA} {p:Pos} (h:PosOk w p) (hu:St w.heap.size w L u):PosOk u p:=h.ext hu.below
abbrev PX:=P3×List Bool
def Pos.x (p:Pos):PX:=(p.st.x,p.rd.l)
def noP:PX:=(no3,[])
structure NearG (g:Game):Prop where
 rm:Near g.rm
 lks:g.lks.l.length≤10
 cds:g.cds.l.length≤10
 nts:g.nts.l.length≤20
 lk:∀x∈g.lks.l,¬(3<x.w∧5<x.s)
 cd:∀x∈g.cds.l,x.l.length≤10
 nt:∀x∈g.nts.l,x.nm.size≤100∧x.wh.l.length≤20∧x.cl.g.length≤10
def lkO (G:GP) (i:Int):Int:=Cg (nth G.lks i).w (nth G.lks i).s
def cdO (G:GP) (i:Int):Int:=if DT (nth G.lks i).w (nth G.lks i).s (nth G.cds i)=0 then 0 else 12
def alO (G:GP) (i:Int):Int:=if(nth G.rm.acs.l i).lk<(G.lks.length:Int)then 0 else 26
def KW (c:Clue):Bool:=decide (c.k=0)&&(decide (c.a=0)&&(decide (c.b=0)&&(decide (c.n=0)&&(decide (c.m=0)&&(decide ((c.g.length:Int)=0)&&!c.nt)))))
def Xu (G:GP) (n:NoteP):Bool:=if n.lk = -1 then KW n.cl else decide (Dc (nth G.lks n.lk).w (nth G.lks n.lk).s n.cl=0)&&DZ n.cl (nth G.cds n.lk)
def ntB (G:GP) (i:Int):Bool:=newB NoteP.nm G.nts i&&(Bs (nth G.nts i).nm&&(placeB G.rm (nth G.nts i).pl&&((decide (-1≤(nth G.nts i).lk)&&decide ((nth G.nts i).lk≤(G.lks.length:Int)-1))&&Xu G (nth G.nts i))))
def ntO (G:GP) (i:Int):Int:=or0 (if ntB G i=true then 0 else 40) (whO G.rm (nth G.nts i).wh)
def gck6 (G:GP):Int:=if(decide (1≤G.tr)&&decide (G.tr≤100))=true then 0 else 1
def gck5 (G:GP):Int:=or0 (AV (ntO G) G.nts.length) (gck6 G)
def gck4 (G:GP):Int:=or0 (AV (alO G) G.rm.acs.l.length) (gck5 G)
def gck3 (G:GP):Int:=if G.cds.length=G.lks.length then or0 (AV (cdO G) G.lks.length) (gck4 G)else 12
def gck2 (G:GP):Int:=or0 (AV (lkO G) G.lks.length) (gck3 G)
def gck1 (G:GP):Int:=if(decide ((8:Int)<G.lks.length)||decide ((16:Int)<G.nts.length))=true then 2 else gck2 G
def Bj (G:GP):Int:=or0 (checkE G.rm) (gck1 G)
def posE (G:GP) (x:PX):Int:=or0 (stE G.rm x.1.1 x.1.2.1 x.1.2.2) (if(x.2.length:Int)=G.nts.length then 0 else 28)
def posG (G:GP) (x:PX):Int:=or0 (Bj G) (posE G x)
def HE (x:P3) (n:NoteP):Bool:=x.2.2.any (fun p=>decide (p=n.pl))&&Bt x.1 n.wh
def BT (G:GP) (x:P3) (rd:List Bool):List Bool:=(Ca rd.length).map fun i=>nth rd i||HE x (nth G.nts i)
def cluN (G:GP) (rd:List Bool) (lk:Int):List Int:=filI G.nts.length fun i=>nth rd i&&decide ((nth G.nts i).lk=lk)
def Ey (G:GP) (lk:Int) (p:Int→Bool):List Int:=filI G.nts.length fun i=>decide ((nth G.nts i).lk=lk)&&p i
def clsN (G:GP) (ns:List Int):List Clue:=ns.map fun i=>(nth G.nts i).cl
def PT (G:GP) (lk:Int) (ns:List Int):Int:=((G0 (nth G.lks lk).w (nth G.lks lk).s (clsN G ns)).length:Int)
def Dm (G:GP) (rd:List Bool) (lk:Int):Bool:=decide (PT G lk (cluN G rd lk)≤G.tr)
def mayB (G:GP) (rd:List Bool) (m:Move):Bool:=!decide (m.k=4)||(decide ((nth G.rm.acs.l m.n).lk<0)||Dm G rd (nth G.rm.acs.l m.n).lk)
def HF (G:GP) (x:P3) (m:Move):Option P3:=if legalB G.rm x m=true then settleV G.rm (moveX G.rm x m)else none
def AE (G:GP) (x:PX) (m:Move):Bool:=(HF G x.1 m).isSome&&mayB G x.2 m
def AM (G:GP) (x:PX) (m:Move):PX:=((HF G x.1 m).getD no3,BT G ((HF G x.1 m).getD no3) x.2)
def Ai (G:GP) (x:PX):List Move:=(AF G.rm x.1).filter (AE G x)
def CanV (G:GP) (x:PX):Int×List Move:=if posG G x=0 then(0,Ai G x)else(posG G x,[])
def Ap (G:GP) (x:PX) (m:Move):Int×PX:=if posG G x=0 then if AE G x m=true then(0,AM G x m)else(29,noP)else(posG G x,noP)
def Ac (G:GP):Int×PX:=if Bj G=0 then if(BeginV G.rm).1=0 then(0,(BeginV G.rm).2,BT G (BeginV G.rm).2 (List.replicate G.nts.length false))else((BeginV G.rm).1,noP)else(Bj G,noP)
theorem Game.p_nlen (g:Game):g.p.nts.length=g.nts.l.length:=by simp[Game.p]
theorem Game.p_clen (g:Game):g.p.cds.length=g.cds.l.length:=by simp[Game.p]
theorem Game.p_nts (g:Game) (i:Int):nth g.p.nts i=(nth g.nts.l i).p:=DC NoteD.p rfl _ _
theorem Game.p_cds (g:Game) (i:Int):nth g.p.cds i=(nth g.cds.l i).l:=DC Sl.l rfl _ _
theorem Game.p_alike (g:Game):Alike g.rm g.p.rm:=by
 refine RV ?_;show g.rm.e=g.rm.e.e;simp[Room.e,Sl.e,Function.comp_def,Pro.e,Way.e,Actn.e,Auto.e]
theorem ZV (G:Game) (i:Int):lkO G.p i=Cg (nth G.lks.l i).w (nth G.lks.l i).s:=rfl
theorem Kr (G:Game) (i:Int):cdO G.p i=if DT (nth G.lks.l i).w (nth G.lks.l i).s (nth G.cds.l i).l=0 then 0 else 12:=by unfold cdO;rw[Game.p_cds];rfl
theorem Game.p_alk (G:Game) (i:Int):(nth G.p.rm.acs.l i).lk=(nth G.rm.acs.l i).lk:=by
 have:=congrArg Actn.lk (G.p_alike.ac i);exact this.symm
theorem O1 (G:Game) (i:Int):alO G.p i=if(nth G.rm.acs.l i).lk<(G.lks.l.length:Int)then 0 else 26:=by unfold alO;rw[Game.p_alk];rfl
def NL (G:Game) (n:NoteD):Bool:=if n.lk = -1 then KW n.cl else decide (Dc (nth G.lks.l n.lk).w (nth G.lks.l n.lk).s n.cl=0)&&DZ n.cl (nth G.cds.l n.lk).l
def ntG (G:Game) (i:Int):Bool:=newB NoteD.nm G.nts.l i&&(Bs (nth G.nts.l i).nm&&(placeB G.rm (nth G.nts.l i).pl&&((decide (-1≤(nth G.nts.l i).lk)&&decide ((nth G.nts.l i).lk≤(G.lks.l.length:Int)-1))&&NL G (nth G.nts.l i))))
theorem HY {G:Game} {n:NoteD} (h:n.lk = -1):NL G n=KW n.cl:=if_pos h
theorem FG {G:Game} {n:NoteD} (h:¬n.lk = -1):NL G n=(decide (Dc (nth G.lks.l n.lk).w (nth G.lks.l n.lk).s n.cl=0)&&DZ n.cl (nth G.cds.l n.lk).l):=if_neg h
theorem OT {α β:Type} [Inhabited α] [Inhabited β] (f:α→β) (hd:f default=default) (n:β→ByteArray) (l:List α) (i:Int):newB n (l.map f) i=newB (fun x=>n (f x)) l i:=by
 unfold newB;rw[←List.map_take,List.any_map,DC f hd]
 rfl
theorem Jaj (G:Game) (i:Int):ntB G.p i=ntG G i:=by
 unfold ntB ntG Xu NL;rw[Game.p_nts,←G.p_alike.placeB];simp only[NoteD.p];rw[Game.p_cds];rw[show newB NoteP.nm G.p.nts i=newB NoteD.nm G.nts.l i from OT NoteD.p rfl NoteP.nm G.nts.l i]
 rfl
theorem KB (G:Game) (i:Int):ntO G.p i=or0 (if ntG G i=true then 0 else 40) (whO G.rm (nth G.nts.l i).wh.l):=by
 unfold ntO;rw[Jaj,Game.p_nts,←G.p_alike.whO]
 rfl
theorem G6 (G:Game):gck5 G.p=or0 (AV (ntO G.p) G.nts.l.length) (gck6 G.p):=by unfold gck5;rw[Game.p_nlen]
theorem Kf (G:Game):gck4 G.p=or0 (AV (alO G.p) G.rm.acs.l.length) (gck5 G.p):=by unfold gck4;rw[←G.p_alike.lacs]
theorem Kd (G:Game):gck3 G.p=if G.cds.l.length=G.lks.l.length then or0 (AV (cdO G.p) G.lks.l.length) (gck4 G.p)else 12:=by unfold gck3;rw[Game.p_clen];rfl
theorem JX (G:Game):gck2 G.p=or0 (AV (lkO G.p) G.lks.l.length) (gck3 G.p):=rfl
theorem Kc (G:Game):gck1 G.p=if(decide ((8:Int)<G.lks.l.length)||decide ((16:Int)<G.nts.l.length))=true then 2 else gck2 G.p:=by unfold gck1;rw[Game.p_nlen];rfl
theorem Eo (G:Game):Bj G.p=or0 (checkE G.rm) (gck1 G.p):=by unfold Bj;rw[G.p_alike.checkE]
theorem JJ (G:Game):gck6 G.p=if(decide (1≤G.tr)&&decide (G.tr≤100))=true then 0 else 1:=rfl
theorem KA {w s:Int} {c:Clue} {xs:List Int} (h:DT w s xs=0):Gd w s c xs=Dc w s c:=by
 unfold Gd;split
 ·rename_i h2;rw[h,h2]
 rfl
def kwB (t:ByteArray):Bool:=(wordL.any fun x=>seq x t)||seq t ⟨#[]⟩
theorem FT (t:ByteArray):BW t=(lowB t&&!kwB t):=by unfold BW kwB;rw[Bool.not_or]
theorem HP (G:Game) (p:Pos):posG G.p p.x=or0 (Bj G.p) (or0 (CX G.rm p.st) (if(p.rd.l.length:Int)=G.nts.l.length then 0 else 28)):=by
 unfold posG
 by_cases h:Bj G.p=0
 ·rw[Bm h,Bm h];rw[Eo]at h;have h1:=(BH h).1;unfold posE CX;rw[Bm h1,←G.p_alike.stE,Game.p_nlen]
  rfl
 rw[Bn rfl h,Bn rfl h]
end Go.Proofs.YtmoojmgihdgceaaGreatDoor
namespace Go.Proofs.YtmoojmgihdgceaaGreatDoor
set_option linter.unusedVariables false
set_option linter.unusedSimpArgs false
open Go.RowKit Go.Proofs Go.MapKept
structure MapI (es:Array MapEntry) (f:Int→Int):Prop where
 num:∀e∈es.toList,∃k,e.key = .int .i64 k∧e.val = .int .i64 (f k)
 non:∀k,(∀e∈es.toList,e.key≠.int .i64 k)→f k=0
 dis:es.toList.Pairwise fun a b=>a.key≠b.key
theorem FR {α:Type} (f:α→α):∀(l:List α) (j:Nat) (e:α),l[j]? = some e→l.modify j f=l.set j (f e)
 |[],_,_,h=>by simp at h
 |a::l,0,e,h=>by simp at h;subst h;rfl
 |a::l,j+1,e,h=>by
  rw[List.modify_succ_cons,List.set_cons_succ,FR f l j e (by simpa using h)]
def zo (P:Program) (T:TypeId):Option Value:=(P.info? T).bind fun i=>i.zero
def updI (f:Int→Int) (k v:Int):Int→Int:=fun j=>if j=k then v else f j
theorem MapI.keys {es:Array MapEntry} {f:Int→Int} (h:MapI es f):∀x∈es.toList,IsKey (.int .i64) x.key:=fun x hx=>by
 obtain⟨k,h1,_⟩:=h.num x hx;rw[h1];rfl
theorem MapI.nil:MapI #[] fun _=>0:=⟨by simp,fun _ _=>rfl,by simp⟩
theorem MapI.new {es:Array MapEntry} {f:Int→Int} (h:MapI es f) {k:Int} (hk:∀x∈es.toList,x.key≠.int .i64 k) (v:Int) (c:Nat):MapI (es.push ⟨.int .i64 k,.int .i64 v,c⟩) (updI f k v):=by
 refine⟨fun e he=>?_,fun j hj=>?_,?_⟩
 ·rw[Array.toList_push,List.mem_append,List.mem_singleton]at he;rcases he with he|rfl
  ·obtain⟨q,h1,h2⟩:=h.num e he;refine⟨q,h1,?_⟩;have:q≠k:=fun hq=>hk e he (by rw[h1,hq]);rw[h2,updI,if_neg this]
  exact⟨k,rfl,by simp[updI]⟩
 ·have h1:j≠k:=fun hq=>hj ⟨.int .i64 k,.int .i64 v,c⟩ (by simp) (by rw[hq]);rw[updI,if_neg h1];exact h.non j fun e he=>hj e (by simp[Array.toList_push];exact .inl (by simpa using he))
 rw[Array.toList_push,List.pairwise_append];exact⟨h.dis,List.pairwise_singleton _ _,fun a ha b hb=>by rw[List.mem_singleton]at hb;subst hb;exact hk a ha⟩
theorem MapI.at {es:Array MapEntry} {f:Int→Int} (h:MapI es f) {j:Nat} {e:MapEntry} {k:Int} (hj:es.toList[j]? = some e) (hk:e.key = .int .i64 k):e.val = .int .i64 (f k):=by
 obtain⟨q,h1,h2⟩:=h.num e (List.mem_of_getElem? hj);rw[hk]at h1;rw[h2];injection h1 with _ h3;rw[h3]
theorem MapI.apart {es:Array MapEntry} {f:Int→Int} (h:MapI es f) {i j:Nat} {a b:MapEntry} (hi:es.toList[i]? = some a) (hj:es.toList[j]? = some b) (hk:a.key=b.key):i=j:=by
 obtain⟨hi1,hi2⟩:=List.getElem?_eq_some_iff.1 hi;obtain⟨hj1,hj2⟩:=List.getElem?_eq_some_iff.1 hj;have hp:=List.pairwise_iff_getElem.1 h.dis;rcases Nat.lt_trichotomy i j with h1|h1|h1
 ·exact(hp i j hi1 hj1 h1 (by rw[hi2,hj2];exact hk)).elim
 ·exact h1
 exact(hp j i hj1 hi1 h1 (by rw[hi2,hj2];exact hk.symm)).elim
theorem MapI.old {es:Array MapEntry} {f:Int→Int} (h:MapI es f) {j:Nat} {e:MapEntry} {k:Int} (hj:es.toList[j]? = some e) (hk:e.key = .int .i64 k) (v:Int):
  MapI (es.modify j fun e'=>{e' with key:=.int .i64 k,val:=.int .i64 v}) (updI f k v):=by
 have hl:(es.modify j fun e'=>{e' with key:=.int .i64 k,val:=.int .i64 v}).toList=es.toList.set j {e with key:=.int .i64 k,val:=.int .i64 v}:=by
  rw[Array.toList_modify,FR _ _ _ _ hj]
 have hjl:=(List.getElem?_eq_some_iff.1 hj).1;refine⟨fun x hx=>?_,fun q hq=>?_,?_⟩
 ·rw[hl]at hx;obtain⟨i,hi⟩:=List.getElem?_of_mem hx
  by_cases hij:i=j
  ·subst hij;rw[List.getElem?_set_self hjl]at hi;cases hi;exact⟨k,rfl,by simp[updI]⟩
  rw[List.getElem?_set_ne (Ne.symm hij)]at hi;obtain⟨q,h1,h2⟩:=h.num x (List.mem_of_getElem? hi);refine⟨q,h1,?_⟩;have:q≠k:=fun hq=>hij (h.apart hi hj (by rw[h1,hk,hq]));rw[h2,updI,if_neg this]
 ·rw[hl]at hq;have h1:q≠k:=fun h0=>hq _ (List.mem_of_getElem? (List.getElem?_set_self hjl)) (by simp[h0]);rw[updI,if_neg h1];refine h.non q fun x hx hxk=>?_;obtain⟨i,hi⟩:=List.getElem?_of_mem hx
  by_cases hij:i=j
  ·subst hij;rw[hj]at hi;cases hi
   rw[hk]at hxk;injection hxk with _ h3;exact h1 h3.symm
  exact hq x (List.mem_of_getElem? (by rw[List.getElem?_set_ne (Ne.symm hij)];exact hi)) hxk
 rw[hl,List.pairwise_iff_getElem];intro a b ha hb hab;have hp:=List.pairwise_iff_getElem.1 h.dis
 have e1:∀i (hi:i<(es.toList.set j {e with key:=.int .i64 k,val:=.int .i64 v}).length),((es.toList.set j {e with key:=.int .i64 k,val:=.int .i64 v})[i]).key=(es.toList[i]'(by simpa using hi)).key:=fun i hi=>by
  rw[List.getElem_set];split
  ·rename_i hji;subst hji;have:=(List.getElem?_eq_some_iff.1 hj).2;rw[this,hk]
  rfl
 rw[e1,e1];exact hp a b (by simpa using ha) (by simpa using hb) hab
theorem MapI.drop {es:Array MapEntry} {f:Int→Int} (h:MapI es f) {j:Nat} {e:MapEntry} {k:Int} (hj:es.toList[j]? = some e) (hk:e.key = .int .i64 k):MapI (es.eraseIdxIfInBounds j) (updI f k 0):=by
 have hjl:j<es.toList.length:=(List.getElem?_eq_some_iff.1 hj).1;have hjs:j<es.size:=by simpa using hjl
 have hl:(es.eraseIdxIfInBounds j).toList=es.toList.eraseIdx j:=by
  unfold Array.eraseIdxIfInBounds;rw[dif_pos hjs];simp
 have hne:∀x∈es.toList.eraseIdx j,x.key≠.int .i64 k:=fun x hx hxk=>by
  obtain⟨i,hij,hi⟩:=List.mem_eraseIdx_iff_getElem?.1 hx;exact hij (h.apart hi hj (by rw[hxk,hk]))
 refine⟨fun x hx=>?_,fun q hq=>?_,by rw[hl];exact h.dis.sublist (List.eraseIdx_sublist _ _)⟩
 ·rw[hl]at hx;obtain⟨q,h1,h2⟩:=h.num x ((List.eraseIdx_sublist _ _).subset hx);refine⟨q,h1,?_⟩;have:q≠k:=fun hq=>hne x hx (by rw[h1,hq]);rw[h2,updI,if_neg this]
 rw[hl]at hq
 by_cases h1:q=k
 ·simp[updI,h1]
 rw[updI,if_neg h1];refine h.non q fun x hx hxk=>?_;obtain⟨i,hi⟩:=List.getElem?_of_mem hx
 by_cases hij:i=j
 ·subst hij;rw[hj]at hi;cases hi
  rw[hk]at hxk;injection hxk with _ h3;exact h1 h3.symm
 exact hq x (List.mem_eraseIdx_iff_getElem?.2 ⟨i,hij,hi⟩) hxk
theorem Qh {f:Int→Int} {k:Int} (h:f k=0):updI f k 0=f:=by
 funext j;unfold updI;split
 ·rename_i e;rw[e,h]
 rfl
def mapI (b:Nat) (f:Int→Int):SA where
 h S u:=(∀k,S k↔k=b)∧∃es c,u.heap[b]? = some (.map es c)∧MapI es f
 loc S u u' h hk:=by
  obtain⟨h1,es,c,h2,h3⟩:=h;exact⟨h1,es,c,hk b ((h1 b).2 rfl) _ h2,h3⟩
 dom S u k h hS:=by
  obtain⟨h1,es,c,h2,_⟩:=h;rw[(h1 k).1 hS];exact(Array.getElem?_eq_some_iff.1 h2).1
section
variable {P:Program} {ro:Option Nat} {n0:Nat} {w0:World} {ds:List Deferred} {ops:Array Oper} {Q:Exit→Act→World→Prop} {L L':List SA} {rest:List Oper} {l:List Value} {ty:TypeId} {ps:String} {af:Array Edge}
 {T K E:TypeId} {x y z:Operand} {b j:Nat} {f:Int→Int} {k v:Int} {d:Option Tmp} {g:Option (Nat×Bool)}
theorem St.mapI {u:World} (h:St n0 w0 L u) (hj:L[j]? = some (YtmoojmgihdgceaaGreatDoor.mapI b f)):n0≤b∧∃es c,u.heap[b]? = some (.map es c)∧MapI es f:=by
 obtain⟨T,h1,h2,h3⟩:=h.get hj;exact⟨h1 b ((h2 b).2 rfl),h3⟩
theorem St.mapSet {u:World} (h:St n0 w0 L u) (hj:L[j]? = some (YtmoojmgihdgceaaGreatDoor.mapI b f)) {es:Array MapEntry} {c:Nat} {f':Int→Int} (hm:MapI es f'):St n0 w0 (L.set j (YtmoojmgihdgceaaGreatDoor.mapI b f')) {u with heap:=u.heap.setIfInBounds b (.map es c)}:=by
 obtain⟨T,hT,⟨hS,es0,c0,hb,_⟩,hc⟩:=h.upd hj;have hlt:b<u.heap.size:=(Array.getElem?_eq_some_iff.1 hb).1;refine hc _ _ (fun k=>k=b) ⟨rfl,rfl,rfl,by simp,fun k hk=>?_⟩ (fun k hk o' hcell=>?_) ⟨fun k=>Iff.rfl,es,c,?_,hm⟩ (fun k hk=>by subst hk;exact⟨hT _ ((hS _).2 rfl),.inl ((hS _).2 rfl)⟩)
 ·have:=hT b ((hS b).2 rfl);simp only[Array.getElem?_setIfInBounds];rw[if_neg (by omega)]
 ·simp only[Array.getElem?_setIfInBounds];rw[if_neg (fun e=>hk.2.2 ((hS k).2 e.symm))];exact hcell
 simp[hlt]
theorem WS.makeMap {i:Nat} {l':Nat→List Value} (hl:∀b,lset l i (.map (some b))=some (l' b)) (kk:∀b,n0≤b→WS P ro n0 w0 ds ops Q (YtmoojmgihdgceaaGreatDoor.mapI b (fun _=>0)::L) rest (l' b)):
  WS P ro n0 w0 ds ops Q L (⟨some i,.makeMap T none,ty,ps,af,none⟩::rest) l:=by
 refine WS.world rfl rfl fun u hu=>?_;refine⟨.map (some u.heap.size),u.alloc (.map #[] 0),?_,?_⟩
 ·simp[execOp,Instr.makeMap]
 rw[Ax,Ag (hl _)];exact kk _ hu.size _ (hu.cons (T:=fun k=>k=u.heap.size) ((Below.refl _ u).alloc (Nat.le_refl _) _) ⟨fun k=>Iff.rfl,_,_,World.alloc_heap_new u _,MapI.nil⟩ (fun k hk=>by omega))
theorem CM (hT:P.underlying T=some (.map K E)) (hK:P.underlying K=some (.int .i64)) (hz:zo P E=some (.int .i64 0)) (hx:evo l x=some (.map (some b))) (hj:L[j]? = some (YtmoojmgihdgceaaGreatDoor.mapI b f)) (hy:evo l y=some (.int .i64 k)):
  Det P (St n0 w0 L) ⟨d,.lookup T x y false,ty,ps,af,g⟩ l (.int .i64 (f k)):=fun u hu=>by
 (replace hx:=Am hx;replace hy:=Am hy)
 obtain⟨_,es,c,hb,hm⟩:=hu.mapI hj;have hkey:IsKey (.int .i64) (.int .i64 k):=rfl;rcases findNow_spec hkey es.toList 0 hm.keys with⟨h1,h2⟩|⟨q,e,h1,h2,h3⟩
 ·have h0:f k=0:=hm.non k h2;unfold zo at hz;cases hi:P.info? E with
  |none=>simp[hi]at hz
  |some inf=>
   have hz2:inf.zero=some (.int .i64 0):=by simpa [hi]using hz
   simp[execOp,Av,hx,hy,Instr.lookup,run_underlying hT,MapKept.run_getObj_map hb,run_checkKey hK hkey,run_findKey hK h1,Result.andThen,zeroValue,typeInfo,hi,hz2,h0]
 have hv:=hm.at h2 h3;simp[execOp,Av,hx,hy,Instr.lookup,run_underlying hT,MapKept.run_getObj_map hb,run_checkKey hK hkey,run_findKey hK h1,Result.andThen,hv]
theorem WS.mapUpdate (hT:P.underlying T=some (.map K E)) (hK:P.underlying K=some (.int .i64)) (hx:evo l x=some (.map (some b))) (hj:L[j]? = some (YtmoojmgihdgceaaGreatDoor.mapI b f)) (hy:evo l y=some (.int .i64 k)) (hz:evo l z=some (.int .i64 v))
  (hL:lset L j (YtmoojmgihdgceaaGreatDoor.mapI b (updI f k v))=some L') (kk:WS P ro n0 w0 ds ops Q L' rest l):WS P ro n0 w0 ds ops Q L (⟨none,.mapUpdate T x y z,ty,ps,af,none⟩::rest) l:=by
 (replace hx:=Am hx;replace hy:=Am hy;replace hz:=Am hz)
 rw[←Ag hL]at kk;refine WS.world_skip rfl rfl rfl fun u hu=>?_;obtain⟨_,es,c,hb,hm⟩:=hu.mapI hj;have hkey:IsKey (.int .i64) (.int .i64 k):=rfl;rcases findNow_spec hkey es.toList 0 hm.keys with⟨h1,h2⟩|⟨q,e,h1,h2,h3⟩
 ·refine⟨_,?_,kk _ (hu.mapSet hj (c:=c+1) (hm.new h2 v c))⟩;simp[execOp,hx,hy,hz,Instr.mapUpdate,run_underlying hT,MapKept.run_getObj_map hb,run_checkKey hK hkey,run_findKey hK h1,MapKept.run_setObj_map _ hb,Result.andThen]
 have hq:es[q]? = some e:=by simpa using h2
 refine⟨_,?_,kk _ (hu.mapSet hj (c:=c) (hm.old h2 h3 v))⟩;simp[execOp,hx,hy,hz,Instr.mapUpdate,run_underlying hT,MapKept.run_getObj_map hb,run_checkKey hK hkey,run_findKey hK h1,hq,h3,run_keyThatStays hkey,MapKept.run_setObj_map _ hb,Result.andThen]
theorem WS.mapDelete {T1 T2:TypeId} (hT:P.underlying T=some (.map K E)) (hK:P.underlying K=some (.int .i64)) (hx:evo l x=some (.map (some b))) (hj:L[j]? = some (YtmoojmgihdgceaaGreatDoor.mapI b f)) (hy:evo l y=some (.int .i64 k))
  (hL:lset L j (YtmoojmgihdgceaaGreatDoor.mapI b (updI f k 0))=some L') (kk:WS P ro n0 w0 ds ops Q L' rest l):WS P ro n0 w0 ds ops Q L (⟨none,.call ⟨.builtin .delete,#[x,y],#[T,T1]⟩,ty,ps,af,none⟩::rest) l:=by
 (replace hx:=Am hx;replace hy:=Am hy)
 rw[←Ag hL]at kk;refine WS.world rfl rfl fun u hu=>?_;obtain⟨_,es,c,hb,hm⟩:=hu.mapI hj;have hkey:IsKey (.int .i64) (.int .i64 k):=rfl;rcases findNow_spec hkey es.toList 0 hm.keys with⟨h1,h2⟩|⟨q,e,h1,h2,h3⟩
 ·have h0:=Qh (hm.non k h2);rw[h0]at kk;refine⟨.tuple #[],_,?_,kk _ (hu.mapSet hj (c:=c) hm)⟩;simp[execOp,hx,hy,resolve,invoke,builtin,Builtin.delete_,run_underlying hT,MapKept.run_getObj_map hb,run_checkKey hK hkey,run_findKey hK h1,MapKept.run_setObj_map _ hb,Result.andThen]
 refine⟨.tuple #[],_,?_,kk _ (hu.mapSet hj (c:=c) (hm.drop h2 h3))⟩;simp[execOp,hx,hy,resolve,invoke,builtin,Builtin.delete_,run_underlying hT,MapKept.run_getObj_map hb,run_checkKey hK hkey,run_findKey hK h1,MapKept.run_setObj_map _ hb,Result.andThen]
end
end Go.Proofs.YtmoojmgihdgceaaGreatDoor
namespace Go.Proofs.YtmoojmgihdgceaaGreatDoor
set_option linter.unusedVariables false
set_option linter.unusedSimpArgs false
open Go.RowKit Go.Proofs
def putL:Nat→List Value→List Value→Option (List Value)
 |0,[],z=>some z
 |0,c::cs,_::z=>match putL 0 cs z with
  |some r=>some (c::r)
  |none=>none
 |o+1,cs,x::z=>match putL o cs z with
  |some r=>some (x::r)
  |none=>none
 |_,_,[]=>none
theorem Fj:∀{o:Nat} {cs z r:List Value},putL o cs z=some r→o+cs.length≤z.length∧r=z.take o++(cs++z.drop (o+cs.length))
 |0,[],z,r,h=>by simp[putL]at h;subst h;simp
 |0,c::cs,[],r,h=>by simp[putL]at h
 |0,c::cs,y::z,r,h=>by
  unfold putL at h;split at h
  ·rename_i r' hr;simp at h;subst h;have:=Fj hr;simp at this⊢;obtain⟨h1,h2⟩:=this;exact⟨by omega,by rw[h2]⟩
  simp at h
 |o+1,cs,[],r,h=>by cases cs<;>simp[putL]at h
 |o+1,cs,x::z,r,h=>by
  have h':(match putL o cs z with|some r=>some (x::r)|none=>none)=some r:=by cases cs<;>exact h
  split at h'
  ·rename_i r' hr;simp at h';subst h';have:=Fj hr;obtain⟨h1,h2⟩:=this;refine⟨by simp;omega,?_⟩;rw[show o+1+cs.length=o+cs.length+1 by omega];simp[h2]
  simp at h'
def bldG (pls:List (Nat×Nat)):List Value→List (Nat×List Value)→Option (List Value)
 |z,[]=>some z
 |z,(i,cs)::r=>match pls[i]? with
  |some (o,n)=>match Nat.beq cs.length n with
   |true=>match putL o cs z with
    |some z'=>bldG pls z' r
    |none=>none
   |false=>none
  |none=>none
inductive CellsOf:List (Nat×Value)→List (Nat×List Value)→Prop
 |nil:CellsOf [] []
 |agg {i:Nat} {c:List Value} {r:List (Nat×Value)} {s:List (Nat×List Value)} (h:CellsOf r s):CellsOf ((i,.agg c.toArray)::r) ((i,c)::s)
 |one {i:Nat} {v:Value} {r:List (Nat×Value)} {s:List (Nat×List Value)} (h1:v.oneCell'=true) (h:CellsOf r s):CellsOf ((i,v)::r) ((i,[v])::s)
theorem PJ {v:Value} (h:v.oneCell'=true):v.cells = #[v]:=by cases v<;>simp_all [Value.cells,Value.oneCell']
theorem Qg (pls:List (Nat×Nat)):∀{ps:List (Nat×Value)} {pcs:List (Nat×List Value)} {z cs:List Value},CellsOf ps pcs→bldG pls z pcs=some cs→Instr.fill (pls.toArray[·]?) z.toArray ps=some cs.toArray:=by
 have step:∀{i:Nat} {v:Value} {c:List Value} {ps:List (Nat×Value)} {pcs:List (Nat×List Value)} {z cs:List Value},v.cells=c.toArray→
   (∀{z cs:List Value},bldG pls z pcs=some cs→Instr.fill (pls.toArray[·]?) z.toArray ps=some cs.toArray)→bldG pls z ((i,c)::pcs)=some cs→Instr.fill (pls.toArray[·]?) z.toArray ((i,v)::ps)=some cs.toArray:=by
  intro i v c ps pcs z cs hv ih h;unfold bldG at h;split at h
  ·rename_i o n ho;split at h
   ·rename_i hn;have hn':c.length=n:=Nat.eq_of_beq_eq_true hn;split at h
    ·rename_i z' hz;obtain⟨h1,h2⟩:=Fj hz;have h3:=ih h;have ho':pls.toArray[i]? = some (o,n):=by simpa using ho
     simp only[Instr.fill,ho',hv];rw[if_neg (by simp[hn'];omega)];have h4:=Kq c ((z.drop o).take c.length) (z.take o) (z.drop (o+c.length)) o 0 (by simp;omega) (by simp;omega)
     have h5:z.take o++((z.drop o).take c.length++z.drop (o+c.length))=z:=by
      rw[←List.drop_drop,List.take_append_drop,List.take_append_drop]
     rw[h5]at h4
     have h6:(c.toArray.zipIdx.foldl (fun(cs:Array Value) (x:Value×Nat)=>cs.setIfInBounds (o+x.2) x.1) z.toArray)=z'.toArray:=by
      rw[h2,←h4];simp[←Array.foldl_toList]
     show Instr.fill _ (Array.foldl (fun cs (x:Value×Nat)=>cs.setIfInBounds (o+x.2) x.1) z.toArray c.toArray.zipIdx) ps=_;rw[h6];exact h3
    simp at h
   simp at h
  simp at h
 intro ps pcs z cs hc
 induction hc generalizing z cs with
 |nil=>intro h;simp[bldG]at h;subst h;simp[Instr.fill]
 |agg hc ih=>exact fun h=>step rfl ih h
 |one h1 hc ih=>exact fun h=>step (by rw[PJ h1]) ih h
section
variable {P:Program} {ro:Option Nat} {n0:Nat} {w0:World} {ds:List Deferred} {ops:Array Oper} {Q:Exit→Act→World→Prop} {L:List SA}
 {rest:List Oper} {l:List Value} {d:Option Tmp} {ty:TypeId} {ps:String} {af:Array Edge} {g:Option (Nat×Bool)} {C:World→Prop}
theorem Aw {T:TypeId} {pl:List (Nat×Operand)} {pls:List (Nat×Nat)} {z cs:List Value} {parts:List (Nat×Value)} {pcs:List (Nat×List Value)} (hp:plc P T=some pls) (hz:zv P T=some z) (hv:evp l pl=some parts) (hc:CellsOf parts pcs)
  (hf:bldG pls z pcs=some cs):Det P C ⟨d,.build T pl.toArray,ty,ps,af,g⟩ l (.agg cs.toArray):=HL hp hz hv (Qg pls hc hf)
theorem WS.storeP {T:TypeId} {x y:Operand} {b i j:Nat} {c c' vs:List Value} {e:TypeId} (hx:evo l x=some (.pointer (some ⟨b,i,none⟩))) (hj:L[j]? = some (blk b c e)) (hy:evo l y=some (.agg vs.toArray))
  (hc:putL i vs c=some c') (h1:∀v∈vs,v.oneCell'=true) {n:Nat} (hT:tk P T=some (true,n)) (hnn:vs.length=n) {L':List SA} (hL:lset L j (blk b c' e)=some L') (k:WS P ro n0 w0 ds ops Q L' rest l):
  WS P ro n0 w0 ds ops Q L (⟨none,.store T x y,ty,ps,af,none⟩::rest) l:=by
 subst hnn;rw[←Ag hL]at k;replace hx:=Am hx;replace hy:=Am hy;obtain⟨hle,hcc⟩:=Fj hc;refine WS.world_skip rfl rfl rfl fun u hu=>?_;obtain⟨S,hS,⟨hS1,hb⟩,hupd⟩:=hu.upd hj;have hst:=run_storeCells_at P b i e vs 0 c.toArray u hb (by simp;omega) h1;refine⟨u.setRow b c'.toArray,?_,?_⟩
 ·simp only[Nat.add_zero]at hst;have e2:(c.toArray.toList.take i++vs++c.toArray.toList.drop (i+vs.length)).toArray=c'.toArray:=by rw[hcc];simp
  rw[e2]at hst;simp[execOp,hx,hy,Instr.storeAt,Instr.sureAddr,storeVar,(CP hT u).2,Value.cells,hst]
 refine k _ (hupd _ _ (fun k=>k=b) ⟨rfl,rfl,rfl,by simp,fun k hk=>setRow_other u b k _ (fun e=>by have:=hS b ((hS1 b).2 rfl);omega)⟩ (fun k hk o' hcell=>?_) ⟨fun k=>Iff.rfl,?_⟩ (fun k hk=>by subst hk;exact⟨hS _ ((hS1 _).2 rfl),.inl ((hS1 _).2 rfl)⟩))
 ·rw[setRow_other u b k _ (fun e=>hk.2.2 ((hS1 k).2 e))];exact hcell
 exact setRow_heap u b c.toArray c'.toArray e _ hb
theorem WS.callSg {β:Type} {f:Operand} {args:List Operand} {ts:Array TypeId} {fn:FuncId} {cap:List Value} {vs:List Value} {v:β→Value} {L':β→List SA} {p:β→Prop} {i:Nat} {l':β→List Value} {j:Nat} {want:Bool}
  (hw:yielded ops l.toArray j=some want)
  (hf:evo l f=some (.func (.func fn) #[] cap.toArray)) (hv:evs l args=some vs) (he:Ent P fn)
  (hc:∀u,St n0 w0 L u→Calls P fn (vs++cap).toArray u (fun e u'=>∃x,p x∧e = .returned (v x)∧St n0 w0 (L' x) u'))
  (hl:∀x,lset l i (v x)=some (l' x)) (k:∀x,p x→WS P ro n0 w0 ds ops Q (L' x) rest (l' x)):
  WS P ro n0 w0 ds ops Q L (⟨some i,.call ⟨.value f,args.toArray,ts⟩,ty,ps,af,some (j,want)⟩::rest) l:=by
 intro u hu;have hn:=WS.callS (ds:=ds) (ops:=ops) (Q:=Q) (ro:=ro) (rest:=rest) (ty:=ty) (ps:=ps) (af:=af) (ts:=ts) hf hv he hc hl k u hu;unfold wpListIn at hn⊢;rw[if_pos (by simp[Region.wanted])]at hn
 rw[if_pos (by
  have hw':yielded ops (Act.mk l.toArray ds).tmps j=some want:=hw
  simp[Region.wanted,hw'])]
 exact hn
end
structure GoodG (G:Game):Prop where
 ck:checkE G.rm=0
 nl:G.lks.l.length≤8
 nn:G.nts.l.length≤16
 lk:∀j:Int,0≤j→j<G.lks.l.length→A7 (nth G.lks.l j).w (nth G.lks.l j).s=true
 cl:G.cds.l.length=G.lks.l.length
 cd:∀j:Int,0≤j→j<G.lks.l.length→DT (nth G.lks.l j).w (nth G.lks.l j).s (nth G.cds.l j).l=0
 al:∀j:Int,0≤j→j<G.rm.acs.l.length→(nth G.rm.acs.l j).lk<G.lks.l.length
 nt:∀j:Int,0≤j→j<G.nts.l.length→ntG G j=true
 wh:∀j:Int,0≤j→j<G.nts.l.length→D6 G.rm.ths.l (nth G.nts.l j).wh.l=true
 tr:1≤G.tr∧G.tr≤100
theorem GE {G:Game} (h:Bj G.p=0):GoodG G:=by
 rw[Eo]at h;obtain⟨h0,h⟩:=BH h;rw[Kc]at h;split at h
 ·cases h
 rename_i hm;simp only[Bool.or_eq_true,decide_eq_true_eq]at hm;rw[JX]at h;obtain⟨h1,h⟩:=BH h;rw[Kd]at h;split at h
 case isFalse=>cases h
 rename_i hcl;obtain⟨h2,h⟩:=BH h;rw[Kf]at h;obtain⟨h3,h⟩:=BH h;rw[G6]at h;obtain⟨h4,h⟩:=BH h;rw[JJ]at h
 have ht:1≤G.tr∧G.tr≤100:=by
  split at h
  ·rename_i h5;simpa using h5
  cases h
 have hnt:∀j:Int,0≤j→j<G.nts.l.length→ntG G j=true∧D6 G.rm.ths.l (nth G.nts.l j).wh.l=true:=fun j a b=>by
  have q:=A9 h4 j a b;rw[KB]at q;obtain⟨q1,q2⟩:=BH q;refine⟨?_,Jk q2⟩;split at q1
  ·assumption
  cases q1
 refine⟨h0,by omega,by omega,fun j a b=>?_,hcl,fun j a b=>?_,fun j a b=>?_,fun j a b=>(hnt j a b).1,fun j a b=>(hnt j a b).2,ht⟩
 ·have q:=A9 h1 j a b;rw[ZV]at q
  simpa [Cg]using q
 ·have q:=A9 h2 j a b;rw[Kr]at q;split at q
  ·assumption
  cases q
 have q:=A9 h3 j a b;rw[O1]at q;split at q
 ·assumption
 cases q
structure GoodP (G:Game) (p:Pos):Prop extends GoodG G where
 inn:StIn G.rm p.st.x
 ln:p.rd.l.length=G.nts.l.length
theorem BJ {G:Game} {p:Pos} (h:posG G.p p.x=0):GoodP G p:=by
 rw[HP]at h;obtain⟨h1,h⟩:=BH h;obtain⟨h2,h⟩:=BH h;refine⟨GE h1,?_,?_⟩
 ·exact(CR.1 (show stL G.rm p.st.x=0 from h2)).2
 split at h
 ·omega
 cases h
theorem GoodG.ready {G:Game} (h:GoodG G):Ready G.rm:=Cq h.ck
theorem GoodG.cond {G:Game} (h:GoodG G) {j:Int} (h0:0≤j) (h1:j<G.nts.l.length):DM G.rm.ths.l.length (nth G.nts.l j).wh.l:=EL (h.wh j h0 h1)
def RetP (w:World) (x:PX) (f:Value→Value):Ending→World→Prop:=fun e w'=>∃y:Pos,(y.x=x∧∃u0,PosOk u0 y)∧RetF w (f (.agg #[y.st.ths.v,y.st.prs.v,y.st.pls.v,y.rd.v])) (roS fun u=>PosOk u y) e w'
theorem X6 {w:World} {v:Value} {xs:List Bool} (h:SlC w v xs.length 1 (Ay cBool xs)):SlT cBool w ⟨v,xs⟩:=⟨h,fun _ _=>trivial⟩
theorem Ys {w0 u:World} {L:List SA} {is:List Nat} {e:TypeId} {y:Stt} {rv:Value} {rd:List Bool} {f:Value→Value} {x:PX} (hs:selo L is=some [roS fun u=>SttOk u y,oT cBool e rv rd]) (hx:(y.x,rd)=x) (hu:St w0.heap.size w0 L u):
  RetP w0 x f (.returned (f (.agg #[y.ths.v,y.prs.v,y.pls.v,rv]))) u:=by
 have h1:=St.toRo (A:=star [roS fun u=>SttOk u y,oT cBool e rv rd]) (p:=fun u=>PosOk u ⟨y,⟨rv,rd⟩⟩) (L:=[]) (fun S u h=>⟨Star.ro (L:=[roS fun u=>SttOk u y,oT cBool e rv rd]) (j:=0) rfl h.1,X6 (Star.osl (L:=[roS fun u=>SttOk u y,oT cBool e rv rd]) (j:=1) rfl h.1)⟩) (St.pack (L2:=[]) (by simpa using hu.sel is hs));exact⟨⟨y,⟨rv,rd⟩⟩,⟨hx,u,h1.ro (j:=0) rfl⟩,retF (j:=0) rfl u h1⟩
theorem RI {w0 u:World} {L:List SA} {j:Nat} {y:Pos} {x:PX} {f:Value→Value} (hj:L[j]? = some (roS fun u=>PosOk u y)) (hx:y.x=x) (hu:St w0.heap.size w0 L u):
  RetP w0 x f (.returned (f (.agg #[y.st.ths.v,y.st.prs.v,y.st.pls.v,y.rd.v]))) u:=⟨y,⟨hx,u,hu.ro hj⟩,retF hj u hu⟩
theorem PosOk.nil (w:World):PosOk w ⟨⟨⟨.slice none 0 0,[]⟩,⟨.slice none 0 0,[]⟩,⟨.slice none 0 0,[]⟩⟩,⟨.slice none 0 0,[]⟩⟩:=⟨⟨SlT.nil _ _,SlT.nil _ _,SlT.nil _ _⟩,SlT.nil _ _⟩
theorem Oj {w0 u:World} {L:List SA} {f:Value→Value} (hu:St w0.heap.size w0 L u):RetP w0 noP f (.returned (f (.agg #[.slice none 0 0,.slice none 0 0,.slice none 0 0,.slice none 0 0]))) u:=
 ⟨⟨⟨⟨_,[]⟩,⟨_,[]⟩,⟨_,[]⟩⟩,⟨_,[]⟩⟩,⟨rfl,u,PosOk.nil u⟩,retR (fun S u h=>PosOk.nil u) u hu⟩
structure ReadTo (G:GP) (x:P3) (rd:List Bool) (i:Int) (s:List Bool):Prop where
 len:s.length=rd.length
 lo:∀j:Int,0≤j→j<i→nth s j=(nth rd j||HE x (nth G.nts j))
 hi:∀j:Int,i≤j→0≤j→nth s j=nth rd j
theorem ReadTo.zero {G:GP} {x:P3} {rd:List Bool}:ReadTo G x rd 0 rd:=⟨rfl,fun j a b=>by omega,fun j a b=>rfl⟩
theorem ST {n:Nat} {i:Int} (h0:0≤i) (h1:i<n):nth (Ca n) i=i:=by
 have h2:i.toNat<n:=by omega
 simp[Ca,nth,List.getD,h2];omega
theorem Gw {α β:Type} [Inhabited α] [Inhabited β] (f:α→β) {l:List α} {i:Int} (h0:0≤i) (h1:i<l.length):nth (l.map f) i=f (nth l i):=by
 have h2:i.toNat<l.length:=by omega
 simp[nth,List.getD,h2]
theorem PW {G:GP} {x:P3} {rd:List Bool} {i:Int} (h0:0≤i) (h1:i<rd.length):nth (BT G x rd) i=(nth rd i||HE x (nth G.nts i)):=by
 unfold BT;have h2:i<((Ca rd.length).length:Int):=by simp[Ca];omega
 rw[Gw _ h0 h2,ST h0 h1]
theorem Do {G:GP} {x:P3} {rd:List Bool}:(BT G x rd).length=rd.length:=by simp[BT,Ca]
theorem ReadTo.done {G:GP} {x:P3} {rd s:List Bool} {i:Int} (h:ReadTo G x rd i s) (hi:rd.length≤i):s=BT G x rd:=by
 refine IQ (by rw[h.len,Do]) fun j h0 h1=>?_;rw[h.len]at h1;rw[h.lo j h0 (by omega),PW h0 h1]
theorem ReadTo.next {G:GP} {x:P3} {rd s s':List Bool} {i:Int} (h:ReadTo G x rd i s) (h0:0≤i) (h1:i<rd.length) (hs:s'=if HE x (nth G.nts i)=true then s.set i.toNat true else s):ReadTo G x rd (i+1) s':=by
 subst hs;have hl:=h.len
 by_cases hc:HE x (nth G.nts i)=true
 ·rw[if_pos hc];refine⟨by simp[hl],fun j a b=>?_,fun j a b=>?_⟩
  ·by_cases e:j=i
   ·subst e;rw[BI h0 (by omega),hc];simp
   rw[AU h0 a e];exact h.lo j a (by omega)
  rw[AU h0 b (by omega)];exact h.hi j (by omega) b
 rw[if_neg hc];refine⟨hl,fun j a b=>?_,fun j a b=>h.hi j (by omega) b⟩
 by_cases e:j=i
 ·subst e;have hc':HE x (nth G.nts j)=false:=by simpa using hc
  rw[h.hi j (Int.le_refl _) a,hc'];simp
 exact h.lo j a (by omega)
def F4 (x:P3) (n:NoteP) (k:Int):Bool:=(x.2.2.take k.toNat).any (fun p=>decide (p=n.pl))&&Bt x.1 n.wh
theorem NG {x:P3} {n:NoteP} {k:Int} (h:x.2.2.length≤k):F4 x n k=HE x n:=by
 unfold F4 HE;rw[List.take_of_length_le (by omega)]
theorem KT {x:P3} {n:NoteP}:F4 x n 0=false:=by simp[F4]
theorem Lx {x:P3} {n:NoteP} {k:Int} (h0:0≤k) (h1:k<x.2.2.length):F4 x n (k+1)=(F4 x n k||(decide (nth x.2.2 k=n.pl)&&Bt x.1 n.wh)):=by
 unfold F4;rw[AY _ h0 h1,List.any_append];simp only[List.any_cons,List.any_nil,Bool.or_false];cases(List.any (x.2.2.take k.toNat) fun p=>decide (p=n.pl))<;>cases Bt x.1 n.wh<;>simp
theorem Qk (G:Game) (rd:List Bool) (lk:Int):cluN G.p rd lk=filI G.nts.l.length fun i=>nth rd i&&decide ((nth G.nts.l i).lk=lk):=by
 unfold cluN;rw[Game.p_nlen];congr 1;funext i;rw[Game.p_nts];rfl
theorem Jo (G:Game) (lk:Int) (p:Int→Bool):Ey G.p lk p=filI G.nts.l.length fun i=>decide ((nth G.nts.l i).lk=lk)&&p i:=by
 unfold Ey;rw[Game.p_nlen];congr 1;funext i;rw[Game.p_nts];rfl
theorem Q2 (G:GP) (rd:List Bool) (lk:Int):Ey G lk (fun i=>nth rd i)=cluN G rd lk:=by
 unfold Ey cluN;congr 1;funext i;exact Bool.and_comm _ _
def clsG (G:Game) (ns:List Int):List Clue:=ns.map fun i=>(nth G.nts.l i).cl
def gvsG (G:Game) (ns:List Int):List Value:=ns.map fun i=>(nth G.nts.l i).gv
theorem YU (G:Game) (ns:List Int):clsN G.p ns=clsG G ns:=by
 unfold clsN clsG;congr 1;funext i;rw[Game.p_nts];rfl
theorem Ot (G:Game) (lk:Int) (ns:List Int):PT G.p lk ns=((G0 (nth G.lks.l lk).w (nth G.lks.l lk).s (clsG G ns)).length:Int):=by unfold PT;rw[YU];rfl
def GY (G:Game) (lk:Int) (ns:List Int):Prop:=∀k∈ns,(0≤k∧k<G.nts.l.length)∧(nth G.nts.l k).lk=lk
theorem MB {n k:Int} {p:Int→Bool} (h:k∈filI n p):(0≤k∧k<n)∧p k=true:=by
 unfold filI at h;rw[List.mem_filter]at h;obtain⟨h1,h2⟩:=h;unfold Ca at h1;rw[List.mem_map]at h1;obtain⟨i,hi,rfl⟩:=h1;have:=List.mem_range.1 hi;exact⟨by omega,h2⟩
theorem X0 {G:Game} {rd:List Bool} {lk:Int}:GY G lk (cluN G.p rd lk):=fun k hk=>by
 rw[Qk]at hk;obtain⟨h1,h2⟩:=MB hk;simp only[Bool.and_eq_true,decide_eq_true_eq]at h2;exact⟨h1,h2.2⟩
theorem MD {G:Game} {p:Int→Bool} {lk:Int}:GY G lk (Ey G.p lk p):=fun k hk=>by
 rw[Jo]at hk;obtain⟨h1,h2⟩:=MB hk;simp only[Bool.and_eq_true,decide_eq_true_eq]at h2;exact⟨h1,h2.1⟩
theorem Vu {G:Game} (hV:GoodG G) (rd:List Bool) (lk:Int):(cluN G.p rd lk).length≤16:=by
 have:=hV.nn;rw[Qk];have:=Eu (n:=(G.nts.l.length:Int)) (p:=fun i=>nth rd i&&decide ((nth G.nts.l i).lk=lk)) (by omega);omega
theorem Rp {G:Game} (hV:GoodG G) (p:Int→Bool) (lk:Int):(Ey G.p lk p).length≤16:=by
 have:=hV.nn;rw[Jo];have:=Eu (n:=(G.nts.l.length:Int)) (p:=fun i=>decide ((nth G.nts.l i).lk=lk)&&p i) (by omega);omega
theorem GoodG.says {G:Game} (hV:GoodG G) {k:Int} (h0:0≤k) (h1:k<G.nts.l.length) (hl:0≤(nth G.nts.l k).lk):
  A5 (nth G.lks.l (nth G.nts.l k).lk).w (nth G.lks.l (nth G.nts.l k).lk).s (nth G.nts.l k).cl=true∧DZ (nth G.nts.l k).cl (nth G.cds.l (nth G.nts.l k).lk).l=true:=by
 have h:=hV.nt k h0 h1;unfold ntG at h;simp only[Bool.and_eq_true,decide_eq_true_eq]at h;obtain⟨_,_,_,h3,h4⟩:=h;rw[FG (by omega)]at h4;simp only[Bool.and_eq_true,decide_eq_true_eq]at h4;refine⟨?_,h4.2⟩;have h5:=h4.1;unfold Dc at h5;rw[if_pos (hV.lk _ hl (by omega))]at h5;split at h5
 ·assumption
 cases h5
theorem JW {G:Game} (hV:GoodG G) {lk:Int} (h0:0≤lk) (h1:lk<G.lks.l.length) {ns:List Int} (hns:GY G lk ns) (hl:ns.length≤20):BR (nth G.lks.l lk).w (nth G.lks.l lk).s (clsG G ns)=0:=by
 unfold BR;rw[if_pos (hV.lk lk h0 h1),if_neg (by simp[clsG];omega),if_pos];rw[List.all_eq_true];intro c hc;unfold clsG at hc;rw[List.mem_map]at hc;obtain⟨k,hk,rfl⟩:=hc;obtain⟨⟨a,b⟩,e⟩:=hns k hk;have:=(hV.says a b (by omega)).1
 rwa [e]at this
theorem Uk {G:Game} {u:World} {v:Value} {ns:List Int} {lk:Int} (hG:GameOk u G) (hns:GY G lk ns) (h:SlC u v (clsG G ns).length 7 (BB (clsG G ns) (gvsG G ns))):ClS u v (clsG G ns) (gvsG G ns):=by
 refine⟨h,by simp[clsG,gvsG],fun i a b=>?_⟩;have b':i<(ns.length:Int):=by simpa [clsG]using b
 obtain⟨⟨c,d⟩,_⟩:=hns _ (Ad a b');unfold gvsG clsG;rw[Gw _ a b',Gw _ a b'];exact(hG.nts.at c d:cNote.ok u _).2
theorem GoodG.alk {G:Game} (hV:GoodG G) {n:Int} (h0:0≤n) (h1:n<G.rm.acs.l.length):(nth G.rm.acs.l n).lk<G.lks.l.length:=hV.al n h0 h1
theorem RQ (G:Game) (x:P3):AF G.p.rm x=AF G.rm x:=by
 unfold AF;rw[←G.p_alike.ply];congr 1;funext m;exact(G.p_alike.legalB x m).symm
theorem DH (G:Game) (x:P3) (m:Move):HF G.p x m=if legalB G.rm x m=true then settleV G.rm (moveX G.rm x m)else none:=by
 unfold HF;rw[←G.p_alike.legalB,←G.p_alike.settleV,←G.p_alike.moveX]
theorem Fs (G:Game) (x:PX):Ai G.p x=(AF G.rm x.1).filter (AE G.p x):=by unfold Ai;rw[RQ]
theorem Ja {α:Type} [Inhabited α] {p:α→Bool} {l:List α} {i:Int} (h0:0≤i) (h1:i<l.length) (h:p (nth l i)=true):(l.take i.toNat).filter p++[nth l i]=(l.take (i+1).toNat).filter p:=by
 rw[AY l h0 h1,List.filter_append];simp[h]
theorem K7 {α:Type} [Inhabited α] {p:α→Bool} {l:List α} {i:Int} (h0:0≤i) (h1:i<l.length) (h:p (nth l i)=false):(l.take i.toNat).filter p=(l.take (i+1).toNat).filter p:=by
 rw[AY l h0 h1,List.filter_append];simp[h]
theorem MT {α:Type} {p:α→Bool} {l:List α} {n:Nat}:((l.take n).filter p).length≤l.length:=by
 have:=List.length_filter_le p (l.take n);have:=List.length_take_le n l;have:=List.length_take_le' n l;omega
theorem GQ {r:Room} (hR:Ready r) (x:P3):(AF r x).length≤384:=by
 have:=List.length_filter_le (legalB r x) (DW r.ply.toNat);rw[GJ]at this;have:=hR.ply;unfold AF;omega
theorem Pj {r:Room} {x:P3} {i:Int} (h0:0≤i) (h1:i<(AF r x).length):legalB r x (nth (AF r x) i)=true:=(List.mem_filter.1 (Ad h0 h1)).2
theorem LK {r:Room} {x:P3} {m:Move} (hR:Ready r) (hI:StIn r x) (hL:legalB r x m=true) (h:m.k=4):0≤m.n∧m.n<r.acs.l.length:=(G2 hR hI hL).ac h
theorem O5 {p k n:Int} {c:Nat} (h0:0≤n) (h1:n<c):(⟨p,k,n⟩:Move)∈B3 p k c:=by
 unfold B3;rw[List.mem_map];exact⟨n.toNat,List.mem_range.2 (by omega),by simp;omega⟩
theorem J7 {p k n:Int} (h0:1≤k) (h2:0≤n) (h3:n<24):∀{j:Nat},k≤j→(⟨p,k,n⟩:Move)∈EE p j
 |0,h=>by omega
 |j+1,h=>by
  rw[EE,List.mem_append]
  by_cases hk:k=j+1
  ·exact .inr (by rw[←hk];exact O5 h2 (by omega))
  exact .inl (J7 h0 h2 h3 (by omega))
theorem Ka {p k n:Int} (h0:0≤p) (h1:1≤k∧k≤4) (h2:0≤n) (h3:n<24):∀{q:Nat},p<q→(⟨p,k,n⟩:Move)∈DW q
 |0,h=>by omega
 |q+1,h=>by
  rw[DW,List.mem_append]
  by_cases hp:p=q
  ·exact .inr (by rw[←hp];exact J7 h1.1 h2 h3 (by omega))
  exact .inl (Ka h0 h1 h2 h3 (by omega))
theorem KG {r:Room} (hR:Ready r) {x:P3} (hI:StIn r x) {m:Move} (h:legalB r x m=true):(0≤m.p∧m.p<r.ply)∧(1≤m.k∧m.k≤4)∧0≤m.n∧m.n<24:=by
 have hM:=G2 hR hI h;have hl:=hR.lens;have hlp:=hI.lp
 have hk:m.k=1∨m.k=2∨m.k=3∨m.k=4:=by
  unfold legalB at h;split at h
  ·split at h
   ·exact .inl (by assumption)
   split at h
   ·exact .inr (.inl (by assumption))
   split at h
   ·exact .inr (.inr (.inl (by assumption)))
   split at h
   ·exact .inr (.inr (.inr (by assumption)))
   cases h
  cases h
 refine⟨⟨hM.p.1,by have:=hM.p.2.1;have:=hI.ll;omega⟩,by omega,?_⟩;rcases hk with hk|hk|hk|hk
 ·have:=hM.go hk;omega
 ·have:=hM.pr (.inl hk);omega
 ·have:=hM.pr (.inr hk);omega
 have:=hM.ac hk;omega
theorem OY {r:Room} (hR:Ready r) {x:P3} (hI:StIn r x) (m:Move):((AF r x).any fun y=>decide (y=m))=legalB r x m:=by
 cases hL:legalB r x m with
 |true=>
  obtain⟨h1,h2,h3,h4⟩:=KG hR hI hL;refine List.any_eq_true.2 ⟨m,List.mem_filter.2 ⟨?_,hL⟩,by simp⟩;obtain⟨p,k,n⟩:=m;have h5:p<r.ply:=h1.2;exact Ka (p:=p) h1.1 h2 h3 h4 (by omega)
 |false=>
  rw[List.any_eq_false];intro y hy;have:=(List.mem_filter.1 hy).2;intro he;rw[decide_eq_true_eq]at he;rw[he,hL]at this;cases this
theorem AS.three {P:Program} {ro:Option Nat} {n0:Nat} {w0:World} {ds:List Deferred} {ops:Array Oper} {Q:Exit→Act→World→Prop} {L:List SA} {C:World→Prop} {l:List Value} {fuel:Nat} {bl:List Bool} {i j k:Nat} {o p q:Oper} {bi bj bk:List Bool}
  (hr:Region.ready .any ops bl.toArray=[i,j,k]) (hi:ops[i]? = some o) (hj:ops[j]? = some p) (hk:ops[k]? = some q) (hC:∀u,St n0 w0 L u→C u) (hbi:lset bl i true=some bi) (hbj:lset bl j true=some bj) (hbk:lset bl k true=some bk)
  (h1:WS P ro n0 w0 ds ops (Exit.then (AH P ro ops (NP ops Q) C fuel bi.toArray) (NP ops Q)) L [o] l) (h2:WS P ro n0 w0 ds ops (Exit.then (AH P ro ops (NP ops Q) C fuel bj.toArray) (NP ops Q)) L [p] l)
  (h3:WS P ro n0 w0 ds ops (Exit.then (AH P ro ops (NP ops Q) C fuel bk.toArray) (NP ops Q)) L [q] l):AS P ro n0 w0 ds ops Q C L (fuel+1) bl l:=fun u hu u' hu'=>by
 have hst:=hu.ext hu';refine⟨hC _ hst,fun h0=>by rw[hr]at h0;simp at h0,fun x hx=>?_⟩;rw[hr]at hx;simp at hx;rcases hx with rfl|rfl|rfl
 ·have:=BD hi (h1 u' hst);rw[←Ag hbi]at this
  simpa using this
 ·have:=BD hj (h2 u' hst);rw[←Ag hbj]at this
  simpa using this
 have:=BD hk (h3 u' hst);rw[←Ag hbk]at this
 simpa using this
theorem Wo {P:Program} {n0:Nat} {w0:World} {L:List SA} {l:List Value} {d:Option Tmp} {ty:TypeId} {ps:String} {af:Array Edge} {g:Option (Nat×Bool)} {T:TypeId} {x:Operand} {p:World→Prop} {v:Value} {xs:List Int} {i:Int} {j z:Nat}
  (hj:L[j]? = some (roS p)) (hp:∀u,p u→SlI u v xs) (hx:evo l x=some (.pointer (some (sla v i.toNat)))) (h:0≤i∧i<xs.length) (hT:tk P T=some (false,z)):Det P (St n0 w0 L) ⟨d,.load T x,ty,ps,af,g⟩ l (.int .i64 (nth xs i)):=
 B7 hx (fun _ hu=>hp _ (St.ro hj hu)) (GZ h) hT
theorem ClS.snoc {u:World} {v v' gv:Value} {cs:List Clue} {gs:List Value} {c:Clue} (h:ClS u v cs gs) (hg:SlI u gv c.g) (hs:SlC u v' (cs++[c]).length 7 (BB (cs++[c]) (gs++[gv]))):ClS u v' (cs++[c]) (gs++[gv]):=by
 refine⟨hs,by simp[h.len],fun i h0 h1=>?_⟩;have hl:=h.len
 by_cases hi:i<cs.length
 ·have e1:nth (cs++[c]) i=nth cs i:=by unfold nth;rw[List.getD,List.getD,List.getElem?_append_left (by omega)]
  have e2:nth (gs++[gv]) i=nth gs i:=by unfold nth;rw[List.getD,List.getD,List.getElem?_append_left (by omega)]
  rw[e1,e2];exact h.el i h0 hi
 have hi2:i.toNat=cs.length:=by simp at h1;omega
 have e1:nth (cs++[c]) i=c:=by simp[nth,List.getD,hi2]
 have e2:nth (gs++[gv]) i=gv:=by simp[nth,List.getD,hi2,←hl]
 rw[e1,e2];exact hg
structure Entr where
 t:Int
 k:Int
 m:Move
 a:Int
 b:Int
 deriving Inhabited,DecidableEq
structure Timed where
 t:Int
 m:Move
 deriving Inhabited,DecidableEq
def cEntry:Cel Entr:=⟨7,fun x=>[.int .i64 x.t,.int .i64 x.k,.int .i64 x.m.p,.int .i64 x.m.k,.int .i64 x.m.n,.int .i64 x.a,.int .i64 x.b],fun _ _=>True,fun _=>rfl,fun _ _ _ _ _=>trivial,fun _ _ _ v hv=>by
 simp at hv;rcases hv with rfl|rfl|rfl|rfl|rfl|rfl|rfl<;>rfl⟩
def cTimed:Cel Timed:=⟨4,fun x=>[.int .i64 x.t,.int .i64 x.m.p,.int .i64 x.m.k,.int .i64 x.m.n],fun _ _=>True,fun _=>rfl,fun _ _ _ _ _=>trivial,fun _ _ _ v hv=>by
 simp at hv;rcases hv with rfl|rfl|rfl|rfl<;>rfl⟩
def mv0:Move:=⟨0,0,0⟩
def DQ (x:Entr):Bool:=
 if x.k=1 then decide (x.a=0)&&decide (x.b=0)else if x.k=2 then decide (x.m=mv0)&&decide (x.b=0)else
 if x.k=3∨x.k=4 then decide (x.m=mv0)&&(decide (x.a=0)&&decide (x.b=0))else if x.k=5 then decide (x.m=mv0)else false
def Cj (last:Int) (x:Entr):Bool:=decide (last≤x.t)&&decide (x.t≤1000000)
structure Film where
 x:PX
 st:Bool
 si:Int
 pa:Int
 en:Int
 hi:Int
abbrev fcl (G:Game) (y:Pos) (f:Film):List Value:=[G.rm.pls.v,G.rm.ths.v,G.rm.prs.v,G.rm.wys.v,G.rm.acs.v,G.rm.aus.v,.int .i64 G.rm.ply,G.rm.gl.v,G.lks.v,G.cds.v,G.nts.v,.int .i64 G.tr,y.st.ths.v,y.st.prs.v,y.st.pls.v,y.rd.v,.bool f.st,.int .i64 f.si,.int .i64 f.pa,.int .i64 f.en,.int .i64 f.hi ]
def Cl (G:GP) (x:PX):Bool:=Bt x.1.1 G.rm.gl.l
def A6 (G:GP) (f:Film) (e:Entr):Option Film:=
 if DQ e=true then
  if e.k=1 then
   if f.st=false∧(Ap G f.x e.m).1=0 then some {f with x:=(Ap G f.x e.m).2,en:=if f.en<0∧Cl G (Ap G f.x e.m).2=true then e.t-f.pa else f.en}else none
  else if e.k=2 then(if f.st=false∧0≤e.a∧e.a≤1000 then some {f with hi:=if f.en<0 then f.hi+1 else f.hi}else none)
  else if e.k=3 then(if f.st=false then some {f with st:=true,si:=e.t}else none)
  else if e.k=4 then(if f.st=true then some {f with st:=false,pa:=f.pa+(e.t-f.si)}else none)
  else if 0≤e.a∧e.a≤(f.x.1.1.length:Int)-1∧nth f.x.1.1 e.a=e.b then some f else none
 else none
def B9 (G:GP):List Entr→Int→Int→Film→Except Int Film
 |[],_,_,f=>.ok f
 |e::l,i,last,f=>if Cj last e=true then(match A6 G f e with|some f'=>B9 G l (i+1) e.t f'|none=>.error i)else .error i
def A4 (G:GP):Film:=⟨(Ac G).2,false,0,0,if Cl G (Ac G).2=true then 0 else -1,0⟩
def AC (G:GP) (l:List Entr):Int×Int×Film:=
 if(Ac G).1=0 then if 500<(l.length:Int)then(2,0,A4 G)else(match B9 G l 0 0 (A4 G)with| .ok f=>(0,0,f)| .error i=>(120,i,A4 G))else((Ac G).1,0,A4 G)
def B1 (G:GP) (l:List Entr):Int×Int×Int:=if(AC G l).1=0 then if(AC G l).2.2.en<0 then(3,0,0)else(0,(AC G l).2.2.en,(AC G l).2.2.hi)else((AC G l).1,0,0)
def Ez (t:Int) (old new:List Int):List Entr:=((Ca new.length).filter fun k=>!decide (nth new k=nth old k)).map fun k=>⟨t,5,mv0,k,nth new k⟩
def recF (G:GP):List Timed→Int→Int→PX→List Entr→Int×Int×List Entr×PX
 |[],_,_,x,out=>(0,0,out,x)
 |m::ms,i,last,x,out=>
  if decide (last≤m.t)&&decide (m.t≤1000000)then
   if(Ap G x m.m).1=0 then recF G ms (i+1) m.t (Ap G x m.m).2 (out++⟨m.t,1,m.m,0,0⟩::Ez m.t x.1.1 (Ap G x m.m).2.1.1)else(29,i,[],x)
  else(1,i,[],x)
def AB (G:GP) (ms:List Timed):Int×Int×List Entr:=
 if(Ac G).1=0 then
  if(recF G ms 0 0 (Ac G).2 []).1=0 then if 500<((recF G ms 0 0 (Ac G).2 []).2.2.1.length:Int)then(2,0,[])else(0,0,(recF G ms 0 0 (Ac G).2 []).2.2.1)
  else((recF G ms 0 0 (Ac G).2 []).1,(recF G ms 0 0 (Ac G).2 []).2.1,[])
 else((Ac G).1,0,[])
def Ft (G:GP):List Entr→Film→List (List Int)
 |[],_=>[]
 |e::l,f=>match A6 G f e with
  |some f'=>if e.k=1 then f'.x.1.1::Ft G l f' else Ft G l f'
  |none=>[]
theorem O3 {e:Entr} (h:DQ e=true):e.k=1∨e.k=2∨e.k=3∨e.k=4∨e.k=5:=by
 unfold DQ at h
 by_cases h1:e.k=1
 ·exact .inl h1
 by_cases h2:e.k=2
 ·exact .inr (.inl h2)
 by_cases h3:e.k=3∨e.k=4
 ·omega
 by_cases h5:e.k=5
 ·omega
 rw[if_neg h1,if_neg h2,if_neg h3,if_neg h5]at h;cases h
theorem Ch {G:GP} {f f':Film} {e:Entr} (h:A6 G f e=some f'):DQ e=true∧
  ((e.k=1∧f.st=false∧(Ap G f.x e.m).1=0∧f'={f with x:=(Ap G f.x e.m).2,en:=if f.en<0∧Cl G (Ap G f.x e.m).2=true then e.t-f.pa else f.en})∨
   (e.k=2∧f.st=false∧(0≤e.a∧e.a≤1000)∧f'={f with hi:=if f.en<0 then f.hi+1 else f.hi})∨
   (e.k=3∧f.st=false∧f'={f with st:=true,si:=e.t})∨
   (e.k=4∧f.st=true∧f'={f with st:=false,pa:=f.pa+(e.t-f.si)})∨
   (e.k=5∧(0≤e.a∧e.a≤(f.x.1.1.length:Int)-1∧nth f.x.1.1 e.a=e.b)∧f'=f)):=by
 unfold A6 at h
 by_cases hf:DQ e=true
 ·refine⟨hf,?_⟩;have hk:=O3 hf;rw[if_pos hf]at h
  by_cases h1:e.k=1
  ·rw[if_pos h1]at h
   by_cases hc:f.st=false∧(Ap G f.x e.m).1=0
   ·rw[if_pos hc]at h;exact .inl ⟨h1,hc.1,hc.2,(Option.some.inj h).symm⟩
   rw[if_neg hc]at h;cases h
  rw[if_neg h1]at h
  by_cases h2:e.k=2
  ·rw[if_pos h2]at h
   by_cases hc:f.st=false∧0≤e.a∧e.a≤1000
   ·rw[if_pos hc]at h;exact .inr (.inl ⟨h2,hc.1,hc.2,(Option.some.inj h).symm⟩)
   rw[if_neg hc]at h;cases h
  rw[if_neg h2]at h
  by_cases h3:e.k=3
  ·rw[if_pos h3]at h
   by_cases hc:f.st=false
   ·rw[if_pos hc]at h;exact .inr (.inr (.inl ⟨h3,hc,(Option.some.inj h).symm⟩))
   rw[if_neg hc]at h;cases h
  rw[if_neg h3]at h
  by_cases h4:e.k=4
  ·rw[if_pos h4]at h
   by_cases hc:f.st=true
   ·rw[if_pos hc]at h;exact .inr (.inr (.inr (.inl ⟨h4,hc,(Option.some.inj h).symm⟩)))
   rw[if_neg hc]at h;cases h
  rw[if_neg h4]at h
  by_cases hc:0≤e.a∧e.a≤(f.x.1.1.length:Int)-1∧nth f.x.1.1 e.a=e.b
  ·rw[if_pos hc]at h;exact .inr (.inr (.inr (.inr ⟨by omega,hc,(Option.some.inj h).symm⟩)))
  rw[if_neg hc]at h;cases h
 rw[if_neg hf]at h;cases h
def cU8:Cel Int:=⟨1,fun x=>[.int .u8 x],fun _ _=>True,fun _=>rfl,fun _ _ _ _ _=>trivial,fun _ _ _ v hv=>by simp at hv;subst hv;rfl⟩
def byts (t:ByteArray):List Int:=(bl t).map fun b=>(b.toNat:Int)
theorem Gm (t:ByteArray):(byts t).length=t.size:=by simp[byts]
theorem SR {t:ByteArray} {i:Int} (h0:0≤i) (h1:i<t.size):nth (byts t) i=byt t i:=by
 have h2:i.toNat<(bl t).length:=by rw[D9];omega
 have e:=MP (t:=t) (i:=i.toNat) (by omega);rw[show((i.toNat:Nat):Int)=i by omega]at e;rw[e];simp only[byts,nth,List.getD,List.getElem?_map,List.getElem?_eq_getElem h2,Option.map_some,Option.getD_some]
section
variable {P:Program} {ro:Option Nat} {n0:Nat} {w0:World} {ds:List Deferred} {ops:Array Oper} {Q:Exit→Act→World→Prop} {L:List SA} {rest:List Oper} {l:List Value} {d:Option Tmp} {ty:TypeId} {ps:String} {af:Array Edge} {g:Option (Nat×Bool)} {C:World→Prop}
theorem JC {u:World} {b:Nat} {t:ByteArray} {w:World} {e:TypeId} (hb:∀j,j<t.size→u.cell? ⟨b,j,none⟩=some (.int .u8 (t.data.toList.getD j 0).toNat)) (h:t.size≤maxLen):
  SlT cU8 u ⟨.slice (some ⟨b,0,none⟩) t.size (grownCap w t.size 0 e),byts t⟩:=by
 refine⟨⟨by rw[Bv],some ⟨b,0,none⟩,grownCap w t.size 0 e,by simp only[Gm],⟨by simp only[Gm];exact grownCap_ge ..,?_⟩,.inr ⟨b,0,rfl,fun m x hx=>?_⟩⟩,fun _ _=>trivial⟩
 ·have:=grownCap_le_maxLen w t.size 0 e h;unfold maxLen at this;omega
 simp only at hx;have hm:=(List.getElem?_eq_some_iff.1 hx).1;rw[Bv,Gm,show cU8.k=1 from rfl,Nat.mul_one]at hm;have h2:=BK cU8 (l:=byts t) (i:=(m:Int)) (by omega) (by rw[Gm];omega) 0 (by decide);rw[show cU8.k=1 from rfl,Nat.mul_one,Nat.add_zero,show((m:Int)).toNat=m by omega,hx]at h2;rw[Nat.zero_add,hb m hm,h2]
 have e1:nth (byts t) (m:Int)=((t.data.toList.getD m 0).toNat:Int):=by
  rw[SR (by omega) (by omega),MP hm];congr 2;rw[List.getD,List.getElem?_eq_getElem (by rw[D9];exact hm)];rfl
 rw[e1];rfl
theorem WS.bytes {T T' e:TypeId} {i:Nat} {x:Operand} {t:ByteArray} (hT:P.underlying T=some .string) (hT':P.underlying T'=some (.slice e)) (he:P.underlying e=some (.int .u8)) (hx:evo l x=some (.string t)) (h:t.size≤maxLen)
  {l':Value→List Value} (hl:∀v,lset l i v=some (l' v)) (k:∀v,(∃u0,SlT cU8 u0 ⟨v,byts t⟩)→WS P ro n0 w0 ds ops Q (roT cU8 ⟨v,byts t⟩::L) rest (l' v)):
  WS P ro n0 w0 ds ops Q L (⟨some i,.convert T T' x,ty,ps,af,none⟩::rest) l:=by
 refine WS.world rfl rfl fun u hu=>?_;replace hx:=Am hx;refine⟨.slice (some ⟨u.heap.size,0,none⟩) t.size (grownCap u t.size 0 e),Lib.bytesWorld u e t,?_,?_⟩
 ·have h1:(convert T T' (.string t)).run P u=_:=Lib.run_convert_string_bytes u T T' e t hT hT' he;simp[execOp,hx,h1]
 show wpListIn (FW ro) 0 P ops Q rest ((Act.mk l.toArray ds).put (some i) _) _;rw[Ax,Ag (hl _)];have hc:∀j,j<t.size→(Lib.bytesWorld u e t).cell? ⟨u.heap.size,j,none⟩=some (.int .u8 (t.data.toList.getD j 0).toNat):=Lib.bytesWorld_cell u e t;have hat:=Lib.bytesWorld_at_new u e t;refine k _ ⟨_,JC hc h⟩ _ (hu.cons (T:=fun k=>k=u.heap.size) (Lib.bytesWorld_below u e t) ⟨fun u' hk=>JC (fun j hj=>?_) h,fun k hk=>?_⟩ fun k hk=>by omega)
 ·rw[←hc j hj];have h3:=hk _ rfl _ hat;simp[World.cell?,h3,hat]
 subst hk;exact(Array.getElem?_eq_some_iff.1 hat).1
end
section
variable {P:Program} {ro:Option Nat} {n0:Nat} {w0:World} {ds:List Deferred} {ops:Array Oper} {Q:Exit→Act→World→Prop} {L:List SA} {rest:List Oper} {l:List Value} {ty:TypeId} {ps:String} {af:Array Edge}
theorem WS.appendS {T U e:TypeId} {i j n:Nat} {x y:Operand} {v:Value} {s:ByteArray} {xs:List Value} (hT:sl P T=some (e,1,1)) (hz:zo P e=some (.int .u8 0)) (hU:P.underlying U=some .string)
  (hx:evo l x=some v) (hj:L[j]? = some (osl e 1 v n xs)) (hy:evo l y=some (.string s)) (hb:n+s.size≤140737488355328)
  {l':Value→List Value} (hl:∀v,lset l i v=some (l' v)) {L':Value→List SA} (hL:∀v',lset L j (osl e 1 v' (n+s.size) (xs++Lib.strCells s))=some (L' v')) (k:∀v',v'.oneCell'=true→WS P ro n0 w0 ds ops Q (L' v') rest (l' v')):
  WS P ro n0 w0 ds ops Q L (⟨some i,.call ⟨.builtin .append,#[x,y],#[T,U]⟩,ty,ps,af,none⟩::rest) l:=by
 (replace hx:=Am hx;replace hy:=Am hy)
 refine WS.world rfl rfl fun u hu=>?_;obtain⟨inf,hu1,hi,hs,hby⟩:=BS hT
 have hz2:inf.zero=some (.int .u8 0):=by
  unfold zo at hz
  simpa [hi]using hz
 obtain⟨S,hS,⟨hS1,hown⟩,hupd⟩:=hu.upd hj;have hml:n+s.size≤maxLen:=by simp only[maxLen];omega
 have fin:∀v' u',(Builtin.append_ #[T,U] ty #[v,.string s]).run P u = .ok v' u'→u'.ownsRow 0 e 1 v' (n+s.size) (xs++Lib.strCells s)→u.grownBy u' v.ownBlock→(∀b,v'.ownBlock=some b→n0≤b∧(v.ownBlock=some b∨u.heap.size≤b))→
   ∃v u',(execOp (ev l) ⟨some i,.call ⟨.builtin .append,#[x,y],#[T,U]⟩,ty,ps,af,none⟩).run P u = .ok (.value v) u'∧wpListIn (FW ro) 0 P ops Q rest ((Act.mk l.toArray ds).put (some i) v) u':=by
  intro v' u' hr h2 h3 h4;refine⟨v',u',by simp[execOp,resolve,invoke,builtin,hx,hy,hr],?_⟩
  have ho:v'.oneCell'=true:=by
   rcases h2.2 with⟨rfl,_⟩|⟨g,c,cur,rfl,_⟩<;>rfl
  rw[Ax,Ag (hl _)];refine k v' ho u' (Ag (hL v')▸hupd u' _ (fun b=>v'.ownBlock=some b) ?_ ?_ ⟨fun b=>Iff.rfl,h2⟩ ?_)
  ·exact⟨h3.os,h3.tape,h3.output,h3.size,fun b hb=>h3.block b (by have:=hu.size;omega) fun e=>by have:=hS b ((hS1 b).2 e.symm);omega⟩
  ·intro b hb o hc;exact(h3.block b hb.2.1 fun e=>hb.2.2 ((hS1 b).2 e.symm)).trans hc
  intro b hb;obtain⟨ha,hb⟩:=h4 b hb;exact⟨ha,hb.imp (fun h=>(hS1 b).2 h) id⟩
 have hle:=hu.size;obtain⟨v',u',hr,h2,h3,h4⟩:=Lib.run_append_own_string (P:=P) u 0 T U ty e inf hu1 hU hi hz2 hs hby v n xs hown s hml hb (Nat.zero_le _);refine fin v' u' hr h2 h3 fun b' hb'=>?_
 by_cases hlt:b'<u.heap.size
 ·by_cases hv:v.ownBlock=some b'
  ·exact⟨hS b' ((hS1 b').2 hv),.inl hv⟩
  exfalso;rcases hown.2 with⟨rfl,rfl⟩|⟨g,cap',cur,rfl,_,hg,hnc,hcm,hcs,htake⟩
  ·have hx0:xs=[]:=List.eq_nil_of_length_eq_zero (by simpa using hown.1);subst hx0;obtain⟨v2,u2,hr2,h22,h23,_⟩:=Lib.run_append_own_string (P:=P) u u.heap.size T U ty e inf hu1 hU hi hz2 hs hby _ 0 [] (World.ownsRow_nil u u.heap.size e 1) s hml hb (Nat.le_refl _);rw[hr]at hr2
   injection hr2 with e1 e2
   subst e1;have:=(h22.lt b' hb').1;omega
  have hxl:xs.length=n:=by simpa using hown.1
  have hcs':cur.size=cap':=by simpa using hcs
  by_cases hroom:n+s.size≤cap'
  ·have hfit:n+s.size≤cur.size:=by omega
   have hr2:=Lib.run_append_room_string (P:=P) u T U ty e inf hu1 hU hi hs g n cap' cur hg s hroom hfit;rw[hr]at hr2
   injection hr2 with e1 e2
   subst e1;exact hv hb'
  have holds:∀j u',xs[j]? = some u'→u.cell? ((⟨g,0,none⟩:Addr).add j)=some u':=hown.cells (g:=g) rfl;have hr2:=Lib.run_append_grow_string (P:=P) u T U ty e inf (.int .u8 0) hu1 hU hi hz2 ⟨g,0,none⟩ n cap' xs (by rw[hs];simpa using hxl) holds s (by omega) (by omega) (by rw[hby];exact growslice_fits (by omega) (by omega));rw[hr]at hr2
  injection hr2 with e1 e2
  subst e1;simp[Value.ownBlock]at hb';omega
 exact⟨by omega,.inr (by omega)⟩
end
section
variable {P:Program} {ro:Option Nat} {n0:Nat} {w0:World} {ds:List Deferred} {ops:Array Oper} {Q:Exit→Act→World→Prop} {L:List SA}
 {rest:List Oper} {l:List Value} {C:World→Prop} {s:Nat}
theorem AZ.firstP {i:Nat} {oi:Oper} {v:Value} (hi:ops[i]? = some oi) (hcalm:Bf ops=true) (his:(i == s)=false):
  ∀(fuel:Nat) (listed:Array Bool) (a:Act) (w:World),
   (∀j oj,ops[j]? = some oj→j≠i→listed.getD j true=false→(∀e∈oj.after,Region.binds .any e=true→e.on≠i)→oi.apart ops oj=true)→
   i∈Region.ready .any ops listed→Yc P ops (fun _=>True) oi v a→
   AZ P ro ops (NP ops Q) C s fuel (listed.setIfInBounds i true) (a.put oi.dst v) w→AZ P ro ops (NP ops Q) C s (fuel+1) listed a w:=by
 have hci:=CG hcalm i oi hi;intro fuel
 induction fuel with
 |zero=>
  intro listed a w _ hr hy H u hu;have Hu:=H.ext hu;refine⟨fun h=>Hu.holds (by rw[getD_set_ne true (by simpa using his)];exact h),fun h=>(by rw[h]at hr;cases hr),fun j hj=>?_⟩
  by_cases hji:j=i
  ·subst hji;exact hy.opIn hi hci trivial fun u' hu'=>Hu.ext hu'
  have:=ready_mono hj hji;rw[(H u hu).2.1]at this;cases this
 |succ fuel ih=>
  intro listed a w hfree hr hy H u hu;have Hu:=H.ext hu;refine⟨fun h=>Hu.holds (by rw[getD_set_ne true (by simpa using his)];exact h),fun h=>(by rw[h]at hr;cases hr),fun j hj=>?_⟩
  by_cases hji:j=i
  ·subst hji;exact hy.opIn hi hci trivial fun u' hu'=>Hu.ext hu'
  have h1:=(H u hu).2.2 j (ready_mono hj hji);obtain⟨hjun,oj,hoj,hall⟩:=mem_ready.1 hj
  have hnot:∀e∈oj.after,Region.binds .any e=true→e.on≠i:=fun e he hb heq=>by
   have h1:=hall e he hb;have h0:=(mem_ready.1 hr).1;rw[heq]at h1;rcases Nat.lt_or_ge i listed.size with h'|h'
   ·simp[h']at h0 h1;rw[h0]at h1;cases h1
   simp[Array.getElem?_eq_none h']at h1
  have h2:=EH (GN hi) hoj (hfree j oj hoj hji hjun hnot) hcalm hci hy h1
  have hfree':∀k ok,ops[k]? = some ok→k≠i→(listed.setIfInBounds j true).getD k true=false→
    (∀e∈ok.after,Region.binds .any e=true→e.on≠i)→oi.apart ops ok=true:=fun k ok hk hki hun hno=>by
   refine hfree k ok hk hki ?_ hno
   by_cases hjk:j=k
   ·subst hjk;exact hjun
   rw[getD_set_ne true hjk]at hun;exact hun
  refine wpOpIn_mono (fun a' w' h3=>ih (listed.setIfInBounds j true) a' w' hfree' (ready_mono hr (Ne.symm hji)) h3.1 ?_) h2;rw[Array.setIfInBounds_comm _ _ hji];exact h3.2
theorem AT.takeP {bl bl':List Bool} {fuel:Nat} {l':List Value} (i:Nat) {oi:Oper} {d:Nat} {v:Value} (hi:ops[i]? = some oi) (hcalm:Bf ops=true) (his:(i == s)=false) (hf:Region.free .any ops bl.toArray i=true) (hr:(Region.ready .any ops bl.toArray).contains i=true)
  (hd:oi.dst=some d) (hg:oi.guard=none) (h:Det P (fun _=>True) oi l v) (hb:lset bl i true=some bl') (hl:lset l d v=some l') (k:AT P ro n0 w0 ds ops Q C s L fuel bl' l'):
  AT P ro n0 w0 ds ops Q C s L (fuel+1) bl l:=fun u hu=>by
 rw[←Ag hb,←Ag hl]at k;refine AZ.firstP hi hcalm his fuel _ _ u (Region.free_spec hi hf) (by simpa using hr) (v:=v) (.inl ⟨by simp[Region.wanted,hg],?_⟩) ?_
 ·intro w hw;rw[Bz];exact h w hw
 rw[hd,Ax];have:=k u hu
 simpa using this
end
section
variable {P:Program} {ro:Option Nat} {n0:Nat} {w0:World} {ds:List Deferred} {ops:Array Oper} {Q:Exit→Act→World→Prop} {L:List SA}
 {rest:List Oper} {l:List Value} {d:Option Tmp} {ty:TypeId} {ps:String} {af:Array Edge} {g:Option (Nat×Bool)}
theorem WS.callP {β:Type} {f:Operand} {args:List Operand} {ts:Array TypeId} {fn:FuncId} {cap:List Value} {vs:List Value} {v:β→Value} {L':β→List SA} {Lp:List SA} {p:β→Prop} {q:Prop} {ch:List PanicEntry} {d:Option Tmp} {l':β→List Value}
  (hf:evo l f=some (.func (.func fn) #[] cap.toArray)) (hv:evs l args=some vs) (he:Ent P fn)
  (hc:∀u,St n0 w0 L u→Calls P fn (vs++cap).toArray u (fun e u'=>(∃x,p x∧e = .returned (v x)∧St n0 w0 (L' x) u')∨(q∧e = .panicked ch∧St n0 w0 Lp u')))
  (hl:∀x,(match d with|some i=>lset l i (v x)|none=>some l)=some (l' x)) (hp:q→∀u,St n0 w0 Lp u→Q (.panic ch) ⟨l.toArray,ds⟩ u)
  (k:∀x,p x→WS P ro n0 w0 ds ops Q (L' x) rest (l' x)):
  WS P ro n0 w0 ds ops Q L (⟨d,.call ⟨.value f,args.toArray,ts⟩,ty,ps,af,none⟩::rest) l:=by
 intro u hu;unfold wpListIn;rw[if_pos (by simp[Region.wanted])];refine⟨fun _ _=>trivial,?_⟩;rw[Bk rfl,Bz]
 have hr:(execOp (ev l) ⟨d,.call ⟨.value f,args.toArray,ts⟩,ty,ps,af,none⟩).run P u = .ok (.enter fn (vs++cap).toArray) u:=by
  have h1:∀(args:Array Value) (w:World),Sem.run P (callFunc fn args) w = .ok (.enter fn args) w:=he;replace hf:=Am hf;replace hv:=F9 hv;subst hv;simp[execOp,hf,resolve,invoke,Deferred.ofValue,h1]
 rw[hr];refine⟨fun h=>by simp[FW]at h,CN ((hc u hu).mono ?_)⟩;rintro e u' (⟨x,hpx,rfl,hS⟩|⟨hq,rfl,hS⟩)
 ·show wpListIn (FW ro) 0 P ops Q rest ((Act.mk l.toArray ds).put d (v x)) u';have h2:=hl x;cases d with
  |some i=>
   rw[Ax,Ag h2];exact k x hpx u' hS
  |none=>
   rw[TH];have h3:=Option.some.inj h2;rw[h3];exact k x hpx u' hS
 exact hp hq u' hS
end
section
variable {P:Program} {ro:Option Nat} {n0:Nat} {w0:World} {ds:List Deferred} {ops:Array Oper} {Q:Exit→Act→World→Prop} {L:List SA} {l:List Value} {C C':World→Prop}
theorem AZ.le {s:Nat} (hC:∀u,C' u→C u):∀{fuel:Nat} {listed:Array Bool} {a:Act} {w:World},AZ P ro ops Q C' s fuel listed a w→AZ P ro ops Q C s fuel listed a w
 |0,_,_,_,h=>fun u hu=>⟨fun hs=>hC u ((h u hu).1 hs),(h u hu).2⟩
 |_+1,_,_,_,h=>fun u hu=>⟨fun hs=>hC u ((h u hu).1 hs),(h u hu).2.1,fun i hi=>wpOpIn_mono (fun _ _ h=>AZ.le hC h) ((h u hu).2.2 i hi)⟩
theorem AT.le {s:Nat} {fuel:Nat} {bl:List Bool} (C':World→Prop) (hC:∀u,C' u→C u) (k:AT P ro n0 w0 ds ops Q C' s L fuel bl l):AT P ro n0 w0 ds ops Q C s L fuel bl l:=fun u hu=>AZ.le hC (k u hu)
end
def RetX {β:Type} (w:World) (R:SA) (ch:List PanicEntry) (p:β→Prop) (q:Prop) (v:β→Value) (A:β→SA):Ending→World→Prop:=fun e u'=>
 (∃x,p x∧e = .returned (v x)∧St w.heap.size w [A x,R] u')∨(q∧e = .panicked ch∧St w.heap.size w [R] u')
theorem Calls.two {P:Program} {f:FuncId} {args:List Value} {n0:Nat} {w0 u:World} {L:List SA} {b:Bool} {ch:List PanicEntry} (hu:St n0 w0 L u)
  (ht:b=true→Calls P f args.toArray u fun e w'=>w'=u∧e = .returned (.tuple #[])) (hf:b=false→Calls P f args.toArray u fun e w'=>w'=u∧e = .panicked ch):
  Calls P f args.toArray u (fun e u'=>(∃x:Unit,b=true∧e = .returned (.tuple #[])∧St n0 w0 L u')∨(b=false∧e = .panicked ch∧St n0 w0 L u')):=by
 cases b with
 |true=>
  refine(ht rfl).mono ?_;rintro e w' ⟨rfl,rfl⟩;exact .inl ⟨(),rfl,rfl,hu⟩
 |false=>
  refine(hf rfl).mono ?_;rintro e w' ⟨rfl,rfl⟩;exact .inr ⟨rfl,rfl,hu⟩
def dfr (fn:FuncId) (cap:List Value):Deferred:={target:=.fn (.func fn) cap.toArray,args:=#[]}
section
variable {P:Program} {ro:Option Nat} {n0:Nat} {w0:World} {ds:List Deferred} {ops:Array Oper} {Q:Exit→Act→World→Prop} {L:List SA}
 {rest:List Oper} {l:List Value} {ty:TypeId} {ps:String} {af:Array Edge}
theorem WS.defer {f:Operand} {fn:FuncId} {cap:List Value} (hf:evo l f=some (.func (.func fn) #[] cap.toArray)) (k:WS P none n0 w0 (dfr fn cap::ds) ops Q L rest l):
  WS P none n0 w0 ds ops Q L (⟨none,.defer ⟨.value f,#[],#[]⟩,ty,ps,af,none⟩::rest) l:=by
 intro u hu;unfold wpListIn;rw[if_pos (by simp[Region.wanted])];refine⟨fun _ _=>trivial,?_⟩;rw[show(FW none).round=none from rfl,Oper.semAt_none,Bz]
 have hr:(execOp (ev l) ⟨none,.defer ⟨.value f,#[],#[]⟩,ty,ps,af,none⟩).run P u = .ok (.defer (dfr fn cap)) u:=by
  replace hf:=Am hf;simp[execOp,hf,resolve,Deferred.ofValue,dfr]
 rw[hr];exact k u hu
end
end Go.Proofs.YtmoojmgihdgceaaGreatDoor
