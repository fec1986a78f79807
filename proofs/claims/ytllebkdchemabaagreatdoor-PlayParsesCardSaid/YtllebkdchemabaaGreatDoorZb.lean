/- Merged texts of this proof. -/
import Derived.Test.YtllebkdchemabaaGreatDoorZa
import Derived.DefersIn
import Derived.Recover
import Derived.Lib.ItoaLen
import Derived.Lib.Join
import Derived.Lib.SplitLaws
import Derived.Lib.SlTrimSet
import Derived.Lib.Atoi
import Derived.Lib.AtoiErrMem
import Derived.Lib.SlicesS
import Derived.Laws.StructEq
import Derived.ChangeKeysEq
import Derived.WideLaws
import Derived.MapKept
namespace Go.Proofs.YtllebkdchemabaaGreatDoor
set_option linter.unusedVariables false
set_option linter.unusedSimpArgs false
open Go.RowKit Go.Proofs
structure Cel (α:Type) where
 k:Nat
 cells:α->List Value
 ok:World->α->Prop
 len:∀a,(cells a).length=k
 ext:∀(w u:World) (a:α),ok w a->Below w.heap.size w u->ok u a
 one:∀(w:World) (a:α),ok w a->∀v∈cells a,v.oneCell'=true
structure Sl (α:Type) where
 v:Value
 l:List α
instance {α:Type}:Inhabited (Sl α):=⟨⟨.slice none 0 0,[]⟩⟩
variable {i:Int}
variable {j:Nat} {v:Value}
section
variable {α:Type} (C:Cel α)
def A1 (l:List α):List Value:=(l.map C.cells).flatten
theorem BQ (l:List α):(A1 C l).length=l.length*C.k:=by
 unfold A1;rw[PI C.k _ (by intro x hx;obtain⟨a,_,rfl⟩:=List.mem_map.1 hx;exact C.len a),List.length_map]
theorem FP (l m:List α):A1 C (l++m)=A1 C l++A1 C m:=by simp[A1]
theorem Iv (a:α):A1 C [a]=C.cells a:=by simp[A1]
theorem BW [Inhabited α] {l:List α} (h0:0<=i) (h1:i<l.length) (j:Nat) (hj:j<C.k):(A1 C l)[i.toNat*C.k+j]? = (C.cells (nth l i))[j]?:=by
 have hc:i.toNat<l.length:=by omega
 unfold A1;rw[N2 C.k _ (by intro x hx;obtain⟨a,_,rfl⟩:=List.mem_map.1 hx;exact C.len a) _ _ hj];simp[nth,List.getD,hc]
theorem Rb {l:List α} (h:∀a∈l,∀v∈C.cells a,v.oneCell'=true):∀v∈A1 C l,v.oneCell'=true:=fun v hv=>by
 unfold A1 at hv;rw[List.mem_flatten]at hv;obtain⟨x,hx,hv⟩:=hv;obtain⟨a,ha,rfl⟩:=List.mem_map.1 hx;exact h a ha v hv
theorem TB {l:List α} {i:Nat} {a:α} (hi:i<l.length) (hj:j<C.k) (ha:C.cells a=(C.cells l[i]).set j v):(A1 C l).set (i*C.k+j) v=A1 C (l.set i a):=by
 induction l generalizing i with
 |nil=>simp at hi
 |cons b l ih=>
  cases i with
  |zero=>
   have hb:=C.len b;simp only[A1,List.map_cons,List.flatten_cons,List.set_cons_zero,Nat.zero_mul,Nat.zero_add]at ha⊢;rw[List.set_append_left _ _ (by omega)];congr 1;exact ha.symm
  |succ i=>
   have hb:=C.len b;have h1:=ih (i:=i) (by simpa using hi) (by simpa using ha);simp only[A1,List.map_cons,List.flatten_cons,List.set_cons_succ]at h1⊢;rw[<-h1,List.set_append_right _ _ (by rw[hb,Nat.succ_mul];omega)];congr 2;rw[hb,Nat.succ_mul];omega
structure SlT (w:World) (s:Sl α):Prop where
 sp:SlC w s.v s.l.length C.k (A1 C s.l)
 el:∀a∈s.l,C.ok w a
end
variable {α:Type}
theorem Qp (C:Cel α) (l:List α) (n:Nat):A1 C (l.take n)=(A1 C l).take (n*C.k):=by
 induction l generalizing n with
 |nil=>simp[A1]
 |cons a l ih=>
  cases n with
  |zero=>simp[A1]
  |succ n=>
   have h:=C.len a;have:=ih n;simp only[A1,List.map_cons,List.flatten_cons,List.take_succ_cons]at this⊢;rw[this,List.take_append,h,Nat.succ_mul,List.take_of_length_le (l:=C.cells a) (by omega)];congr 2;omega
theorem QZ (C:Cel α) (l:List α) (n:Nat):A1 C (l.drop n)=(A1 C l).drop (n*C.k):=by
 induction l generalizing n with
 |nil=>simp[A1]
 |cons a l ih=>
  cases n with
  |zero=>simp[A1]
  |succ n=>
   have h:=C.len a;have:=ih n;simp only[A1,List.map_cons,List.flatten_cons,List.drop_succ_cons]at this⊢;rw[this,List.drop_append,h,Nat.succ_mul,List.drop_of_length_le (l:=C.cells a) (by omega),List.nil_append];congr 1;omega
variable {w0:World} {L:List SA}
section
variable {α:Type} {C:Cel α} {w u:World} {s:Sl α}
theorem SlT.ext (h:SlT C w s) (hb:Below w.heap.size w u):SlT C u s:=⟨h.sp.ext hb,fun a ha=>C.ext _ _ a (h.el a ha) hb⟩
theorem SlT.st (h:SlT C w0 s) (hu:St w0.heap.size w0 L u):SlT C u s:=h.ext hu.below
theorem SlT.le (h:SlT C w s):s.l.length<=9223372036854775807:=h.sp.le
theorem SlT.one (h:SlT C w s):∀v∈A1 C s.l,v.oneCell'=true:=Rb C fun a ha=>C.one w a (h.el a ha)
theorem SlT.at [Inhabited α] (h:SlT C w s) (h0:0<=i) (h1:i<s.l.length):C.ok w (nth s.l i):=h.el _ (Ai h0 h1)
def Sl.cut {α:Type} (k:Nat) (s:Sl α) (lo hi:Nat):Sl α:=⟨sub2 k s.v lo hi,(s.l.drop lo).take (hi-lo)⟩
theorem SlT.cut (h:SlT C w s) {lo hi:Nat} (h0:lo<=hi) (h1:hi<=s.l.length):SlT C w (s.cut C.k lo hi):=by
 have h2:=h.sp.sub2 h0 h1;refine⟨?_,fun a ha=>h.el a (List.mem_of_mem_drop (List.mem_of_mem_take ha))⟩;unfold Sl.cut;simp only;rw[Qp,QZ]
 rwa [show((s.l.drop lo).take (hi-lo)).length=hi-lo by simp;omega]
theorem SlT.nil (C:Cel α) (w:World):SlT C w ⟨.slice none 0 0,[]⟩:=⟨⟨by simp[A1],none,0,rfl,⟨Nat.le_refl 0,by decide⟩,.inl rfl⟩,fun a ha=>by cases ha⟩
end
def cSl (C:Cel α):Cel (Sl α) where
 k:=1
 cells s:=[s.v]
 ok:=SlT C
 len _:=rfl
 ext _ _ _ h hb:=h.ext hb
 one w s h v hv:=by
  simp at hv;subst hv;obtain⟨_,p,cap,e,_⟩:=h.sp;rw[e];rfl
def cInt:Cel Int:=⟨1,fun x=>[.int .i64 x],fun _ _=>True,fun _=>rfl,fun _ _ _ _ _=>trivial,fun _ _ _ v hv=>by simp at hv;subst hv;rfl⟩
def BO:Cel Bool:=⟨1,fun x=>[.bool x],fun _ _=>True,fun _=>rfl,fun _ _ _ _ _=>trivial,fun _ _ _ v hv=>by simp at hv;subst hv;rfl⟩
def cStr:Cel ByteArray:=⟨1,fun x=>[.string x],fun _ _=>True,fun _=>rfl,fun _ _ _ _ _=>trivial,fun _ _ _ v hv=>by simp at hv;subst hv;rfl⟩
theorem K0 (xs:List Int):A1 cInt xs=xs.map (Value.int .i64):=by
 unfold A1
 induction xs with
 |nil=>rfl
 |cons x xs ih=>rw[List.map_cons,List.flatten_cons,ih];rfl
variable {w:World}
theorem SlT.ints {s:Sl Int} (h:SlT cInt w s):SlI w s.v s.l:=by
 have:=h.sp;rw[K0]at this;exact this
theorem SlI.tree {xs:List Int} (h:SlI w v xs):SlT cInt w ⟨v,xs⟩:=⟨by rw[K0];exact h,fun _ _=>trivial⟩
variable {T:TypeId} {by_ k:Nat} {y:Operand}
variable {cs:List Value}
variable {z:Nat}
section
variable {P:Program} {ro:Option Nat} {n0:Nat} {w0:World} {ds:List Deferred} {ops:Array Oper} {Q:Exit->Act->World->Prop} {L:List SA}
 {rest:List Oper} {l:List Value} {d:Option Tmp} {ty:TypeId} {ps:String} {af:Array Edge} {g:Option (Nat×Bool)} {D:World->Prop}
 {α:Type} {C:Cel α}
theorem D6 {e:TypeId} {x:Operand} {s:Sl α} (hT:sl P T=some (e,k,by_)) (hx:evo l x=some v) (hy:evo l y=some (.int .i64 i))
  (hv:s.v=v) (hk:C.k=k) (hs:SlT C w s) (h0:0<=i) (h1:i<s.l.length):Det P D ⟨d,.indexAddr T x y,ty,ps,af,g⟩ l (.pointer (some (sla v (i.toNat*k)))):=by
 subst hv;exact DO hT hx hy hs.sp h0 h1
theorem FL {e:TypeId} {x:Operand} {s:Sl α} (hT:sl P T=some (e,k,by_)) (hx:evo l x=some s.v) (hy:evo l y=some (.int .i64 i))
  (hs:SlT C w s) (hk:C.k=k) (h0:0<=i) (h1:i<s.l.length):Det P D ⟨d,.indexAddr T x y,ty,ps,af,g⟩ l (.pointer (some (sla s.v (i.toNat*k)))):=D6 hT hx hy rfl hk hs h0 h1
theorem W6 {e:TypeId} {a b:Nat} {x:Operand} {s:Sl α} (hT:sl P T=some (e,a,b)) (hx:evo l x=some s.v) (hs:SlT C w s):
  Det P D ⟨d,.call ⟨.builtin .len,#[x],#[T]⟩,ty,ps,af,g⟩ l (.int .i64 s.l.length):=Ds hT hx hs.sp
variable [Inhabited α]
theorem Jab {x:Operand} {s:Sl α} (hx:evo l x=some (.pointer (some (sla v (i.toNat*k))))) (hv:s.v=v) (hk:C.k=k) (hs:SlT C w0 s) (h:0<=i/\i<s.l.length)
  (hc:C.cells (nth s.l i)=cs) (hT:tk P T=some (true,k)):Det P (St w0.heap.size w0 L) ⟨d,.load T x,ty,ps,af,g⟩ l (.agg cs.toArray):=by
 subst hv;subst hk;subst hc;refine DX hx (fun _ hu=>hs.sp.st hu) (fun j y hy=>?_) (by rw[C.len];exact hT);have hj:j<C.k:=by have:=(List.getElem?_eq_some_iff.1 hy).1;rwa [C.len]at this
 rw[BW C h.1 h.2 j hj];exact hy
theorem F5 {x:Operand} {y:Value} {s:Sl α} (hx:evo l x=some (.pointer (some (sla v (i.toNat*k+j))))) (hv:s.v=v) (hk:C.k=k) (hs:SlT C w0 s) (h:0<=i/\i<s.l.length) (hj:j<k)
  (hc:(C.cells (nth s.l i))[j]? = some y) (hT:tk P T=some (false,z)):Det P (St w0.heap.size w0 L) ⟨d,.load T x,ty,ps,af,g⟩ l y:=by
 subst hv;subst hk;exact Do hx (fun _ hu=>hs.sp.st hu) (by rw[BW C h.1 h.2 j hj];exact hc) hT
theorem Ko {x:Operand} {y:Value} {s:Sl α} (hx:evo l x=some (.pointer (some (sla v (i.toNat*1))))) (hv:s.v=v) (hk:C.k=1) (hs:SlT C w0 s) (h:0<=i/\i<s.l.length)
  (hc:(C.cells (nth s.l i))[0]? = some y) (hT:tk P T=some (false,z)):Det P (St w0.heap.size w0 L) ⟨d,.load T x,ty,ps,af,g⟩ l y:=F5 (j:=0) hx hv hk hs h (by decide) hc hT
theorem ZM {x:Operand} {s:Sl α} (hx:evo l x=some (.pointer (some (sla s.v (i.toNat*k))))) (hs:SlT C w0 s) (hk:C.k=k) (h:0<=i/\i<s.l.length)
  (hc:C.cells (nth s.l i)=cs) (hT:tk P T=some (true,k)):Det P (St w0.heap.size w0 L) ⟨d,.load T x,ty,ps,af,g⟩ l (.agg cs.toArray):=Jab hx rfl hk hs h hc hT
theorem VW (k j:Nat) {x:Operand} {y:Value} {s:Sl α} (hx:evo l x=some (.pointer (some ⟨slb s.v,slo s.v+i.toNat*k+j,none⟩))) (hs:SlT C w0 s) (hk:C.k=k) (h:0<=i/\i<s.l.length) (hj:j<k)
  (hc:(C.cells (nth s.l i))[j]? = some y) (hT:tk P T=some (false,z)):Det P (St w0.heap.size w0 L) ⟨d,.load T x,ty,ps,af,g⟩ l y:=F5 (by rw[hx,sla,Nat.add_assoc]) rfl hk hs h hj hc hT
theorem HC {x:Operand} {y:Value} {s:Sl α} (hx:evo l x=some (.pointer (some (sla s.v (i.toNat*1))))) (hs:SlT C w0 s) (hk:C.k=1) (h:0<=i/\i<s.l.length)
  (hc:(C.cells (nth s.l i))[0]? = some y) (hT:tk P T=some (false,z)):Det P (St w0.heap.size w0 L) ⟨d,.load T x,ty,ps,af,g⟩ l y:=Ko hx rfl hk hs h hc hT
end
variable {P:Program} {d:Option Tmp} {ty:TypeId} {ps:String} {af:Array Edge} {g:Option (Nat×Bool)}
variable {u:World}
section
variable {n0:Nat} {w0:World} {L:List SA} {α:Type}
def roT (C:Cel α) (s:Sl α):SA:=roS fun u=>SlT C u s
theorem WW {l:List Value} [Inhabited α] {C:Cel α} {jj:Nat} {x:Operand} {y:Value} {s:Sl α}
  (hj':L[jj]? = some (roT C s)) (hx:evo l x=some (.pointer (some (sla v (i.toNat*k+j))))) (hv:s.v=v) (hk:C.k=k) (h:0<=i/\i<s.l.length) (hj:j<k)
  (hc:(C.cells (nth s.l i))[j]? = some y) (hT:tk P T=some (false,z)):Det P (St n0 w0 L) ⟨d,.load T x,ty,ps,af,g⟩ l y:=by
 subst hv;subst hk;exact Do hx (fun _ hu=>(St.ro hj' hu).sp) (by rw[BW C h.1 h.2 j hj];exact hc) hT
theorem O8 {l:List Value} [Inhabited α] {C:Cel α} {jj:Nat} {x:Operand} {y:Value} {s:Sl α}
  (hj':L[jj]? = some (roT C s)) (hx:evo l x=some (.pointer (some (sla v (i.toNat*1))))) (hv:s.v=v) (hk:C.k=1) (h:0<=i/\i<s.l.length)
  (hc:(C.cells (nth s.l i))[0]? = some y) (hT:tk P T=some (false,z)):Det P (St n0 w0 L) ⟨d,.load T x,ty,ps,af,g⟩ l y:=WW (j:=0) hj' hx hv hk h (by decide) hc hT
theorem On {l:List Value} [Inhabited α] {C:Cel α} {jj:Nat} {x:Operand} {s:Sl α}
  (hj':L[jj]? = some (roT C s)) (hx:evo l x=some (.pointer (some (sla s.v (i.toNat*k))))) (hk:C.k=k) (h:0<=i/\i<s.l.length)
  (hc:C.cells (nth s.l i)=cs) (hT:tk P T=some (true,k)):Det P (St n0 w0 L) ⟨d,.load T x,ty,ps,af,g⟩ l (.agg cs.toArray):=by
 subst hk;subst hc;refine DX hx (fun _ hu=>(St.ro hj' hu).sp) (fun j y hy=>?_) (by rw[C.len];exact hT);have hj:j<C.k:=by have:=(List.getElem?_eq_some_iff.1 hy).1;rwa [C.len]at this
 rw[BW C h.1 h.2 j hj];exact hy
theorem St.roAnd {p q:World->Prop} (h:St n0 w0 (roS p::roS q::L) u):St n0 w0 (roS (fun u=>p u/\q u)::L) u:=by
 obtain⟨h1,h2,T,h3,h4,T',h5,h6,h7⟩:=h;refine⟨h1,h2,fun k=>T k\/T' k,fun k hk=>hk.elim (h3 k) fun h=>(h5 k h).1,⟨fun u' hk=>⟨h4.1 u' fun k hS=>hk k (.inl hS),h6.1 u' fun k hS=>hk k (.inr hS)⟩,fun k hS=>hS.elim (h4.2 k) (h6.2 k)⟩,?_⟩;exact h7.sup fun k hk=>⟨hk.1.1,fun h=>h.elim hk.1.2 hk.2⟩
end
def seq (a b:ByteArray):Bool:=a.toList == b.toList
theorem CI (a:ByteArray):seq a a=true:=by simp[seq]
theorem CY (a b:ByteArray):seq a b=seq b a:=by unfold seq;exact BEq.comm
def byt (s:ByteArray) (i:Int):Int:=match s[i.toNat]? with|some b=>b.toNat|none=>0
variable {T':TypeId} {a:ByteArray}
section
variable {P:Program} {l:List Value} {d:Option Tmp} {ty:TypeId} {ps:String} {af:Array Edge} {g:Option (Nat×Bool)} {C:World->Prop}
theorem Ah {x:Operand} {b:ByteArray} (hx:evo l x=some (.string a)) (hy:evo l y=some (.string b)):
  Det P C ⟨d,.binOp .eql T x y T',ty,ps,af,g⟩ l (.bool (seq a b)):=fun u _=>by
 (replace hx:=Am hx;replace hy:=Am hy)
 simp[execOp,Ap,hx,hy,eqGuard,binOp,Op.stringOp,seq]
theorem A3 {x:Operand} {b:ByteArray} (hx:evo l x=some (.string a)) (hy:evo l y=some (.string b)):
  Det P C ⟨d,.binOp .neq T x y T',ty,ps,af,g⟩ l (.bool (!seq a b)):=fun u _=>by
 (replace hx:=Am hx;replace hy:=Am hy)
 simp[execOp,Ap,hx,hy,eqGuard,binOp,Op.stringOp,seq]
theorem Al {x:Operand} (hT:P.underlying T=some .string) (hx:evo l x=some (.string a)):
  Det P C ⟨d,.call ⟨.builtin .len,#[x],#[T]⟩,ty,ps,af,g⟩ l (.int .i64 a.size):=fun u _=>by
 (replace hx:=Am hx)
 simp[execOp,Ap,hx,resolve,invoke,builtin,Builtin.len_,run_underlying hT,goInt]
theorem An {x:Operand} (hT:P.underlying T=some .string) (hx:evo l x=some (.string a)) (hy:evo l y=some (.int .i64 i)) (h0:0<=i) (h1:i<a.size):
  Det P C ⟨d,.index T x y,ty,ps,af,g⟩ l (.int .u8 (byt a i)):=fun u _=>by
 (replace hx:=Am hx;replace hy:=Am hy)
 have hi:i.toNat<a.size:=by omega
 simp[execOp,Ap,hx,hy,Instr.index,asIntOf,run_underlying hT,h0,byt,hi]
end
structure Lit where
 t:Int
 s:Int
 nt:Bool
 deriving Inhabited,DecidableEq
structure Put where
 t:Int
 s:Int
 deriving Inhabited,DecidableEq
structure Thing where
 nm:ByteArray
 pl:Int
 st:Int
 sr:Int
 deriving Inhabited
structure Pro where
 nm:ByteArray
 pl:Int
 wh:Sl Lit
 deriving Inhabited
structure Way where
 a:Int
 b:Int
 wh:Sl Lit
 deriving Inhabited
structure Actn where
 nm:ByteArray
 pl:Int
 lk:Int
 us:Sl Int
 wh:Sl Lit
 se:Sl Put
 sp:Sl Int
 br:Sl Int
 deriving Inhabited
structure Auto where
 wh:Sl Lit
 t:Int
 s:Int
 deriving Inhabited
structure Room where
 pls:Sl ByteArray
 ths:Sl Thing
 prs:Sl Pro
 wys:Sl Way
 acs:Sl Actn
 aus:Sl Auto
 ply:Int
 gl:Sl Lit
 deriving Inhabited
abbrev rcl (r:Room):List Value:=[r.pls.v,r.ths.v,r.prs.v,r.wys.v,r.acs.v,r.aus.v,.int .i64 r.ply,r.gl.v ]
structure Move where
 p:Int
 k:Int
 n:Int
 deriving Inhabited,DecidableEq
structure Stt where
 ths:Sl Int
 prs:Sl Int
 pls:Sl Int
 deriving Inhabited
variable {C:Cel α} {s:Sl α}
theorem Sl.one (h:SlT C w s):s.v.oneCell'=true:=(cSl C).one w s h s.v (by simp[cSl])
def cLit:Cel Lit:=⟨3,fun a=>[.int .i64 a.t,.int .i64 a.s,.bool a.nt],fun _ _=>True,fun _=>rfl,fun _ _ _ _ _=>trivial,fun _ _ _ v hv=>by simp at hv;rcases hv with rfl|rfl|rfl<;>rfl⟩
def cPut:Cel Put:=⟨2,fun a=>[.int .i64 a.t,.int .i64 a.s],fun _ _=>True,fun _=>rfl,fun _ _ _ _ _=>trivial,fun _ _ _ v hv=>by simp at hv;rcases hv with rfl|rfl<;>rfl⟩
def cMove:Cel Move:=⟨3,fun a=>[.int .i64 a.p,.int .i64 a.k,.int .i64 a.n],fun _ _=>True,fun _=>rfl,fun _ _ _ _ _=>trivial,fun _ _ _ v hv=>by simp at hv;rcases hv with rfl|rfl|rfl<;>rfl⟩
def cThing:Cel Thing:=⟨4,fun a=>[.string a.nm,.int .i64 a.pl,.int .i64 a.st,.int .i64 a.sr],fun _ _=>True,fun _=>rfl,fun _ _ _ _ _=>trivial,fun _ _ _ v hv=>by simp at hv;rcases hv with rfl|rfl|rfl|rfl<;>rfl⟩
def cPro:Cel Pro:=⟨3,fun a=>[.string a.nm,.int .i64 a.pl,a.wh.v],fun w a=>SlT cLit w a.wh,fun _=>rfl,fun _ _ _ h hb=>h.ext hb,fun _ _ h v hv=>by
 simp at hv;rcases hv with rfl|rfl|rfl
 ·rfl
 ·rfl
 exact Sl.one h⟩
def cWay:Cel Way:=⟨3,fun a=>[.int .i64 a.a,.int .i64 a.b,a.wh.v],fun w a=>SlT cLit w a.wh,fun _=>rfl,fun _ _ _ h hb=>h.ext hb,fun _ _ h v hv=>by
 simp at hv;rcases hv with rfl|rfl|rfl
 ·rfl
 ·rfl
 exact Sl.one h⟩
def cAuto:Cel Auto:=⟨3,fun a=>[a.wh.v,.int .i64 a.t,.int .i64 a.s],fun w a=>SlT cLit w a.wh,fun _=>rfl,fun _ _ _ h hb=>h.ext hb,fun _ _ h v hv=>by
 simp at hv;rcases hv with rfl|rfl|rfl
 ·exact Sl.one h
 ·rfl
 rfl⟩
structure ActOk (w:World) (a:Actn):Prop where
 us:SlT cInt w a.us
 wh:SlT cLit w a.wh
 se:SlT cPut w a.se
 sp:SlT cInt w a.sp
 br:SlT cInt w a.br
def cAct:Cel Actn:=⟨8,fun a=>[.string a.nm,.int .i64 a.pl,.int .i64 a.lk,a.us.v,a.wh.v,a.se.v,a.sp.v,a.br.v],ActOk,fun _=>rfl,fun _ _ _ h hb=>⟨h.us.ext hb,h.wh.ext hb,h.se.ext hb,h.sp.ext hb,h.br.ext hb⟩,fun _ _ h v hv=>by
 simp at hv;rcases hv with rfl|rfl|rfl|rfl|rfl|rfl|rfl|rfl
 ·rfl
 ·rfl
 ·rfl
 ·exact Sl.one h.us
 ·exact Sl.one h.wh
 ·exact Sl.one h.se
 ·exact Sl.one h.sp
 exact Sl.one h.br⟩
structure RoomOk (w:World) (r:Room):Prop where
 pls:SlT cStr w r.pls
 ths:SlT cThing w r.ths
 prs:SlT cPro w r.prs
 wys:SlT cWay w r.wys
 acs:SlT cAct w r.acs
 aus:SlT cAuto w r.aus
 gl:SlT cLit w r.gl
variable {r:Room}
theorem RoomOk.ext (h:RoomOk w r) (hb:Below w.heap.size w u):RoomOk u r:=⟨h.pls.ext hb,h.ths.ext hb,h.prs.ext hb,h.wys.ext hb,h.acs.ext hb,h.aus.ext hb,h.gl.ext hb⟩
theorem RoomOk.st (h:RoomOk w r) (hu:St w.heap.size w L u):RoomOk u r:=h.ext hu.below
def Room.cells (r:Room):List Value:=(rcl r)
structure SttOk (w:World) (s:Stt):Prop where
 ths:SlT cInt w s.ths
 prs:SlT cInt w s.prs
 pls:SlT cInt w s.pls
theorem SttOk.ext {r:Stt} (h:SttOk w r) (hb:Below w.heap.size w u):SttOk u r:=⟨h.ths.ext hb,h.prs.ext hb,h.pls.ext hb⟩
theorem SttOk.st {r:Stt} (h:SttOk w r) (hu:St w.heap.size w L u):SttOk u r:=h.ext hu.below
def Stt.cells (s:Stt):List Value:=[s.ths.v,s.prs.v,s.pls.v]
variable {β:Type}
def Sl.e (f:α->β) (s:Sl α):Sl β:=⟨.slice none 0 0,s.l.map f⟩
def Pro.e (p:Pro):Pro:={p with wh:=p.wh.e id}
def Way.e (p:Way):Way:={p with wh:=p.wh.e id}
def Auto.e (p:Auto):Auto:={p with wh:=p.wh.e id}
def Actn.e (p:Actn):Actn:={p with us:=p.us.e id,wh:=p.wh.e id,se:=p.se.e id,sp:=p.sp.e id,br:=p.br.e id}
def Room.e (r:Room):Room:=⟨r.pls.e id,r.ths.e id,r.prs.e Pro.e,r.wys.e Way.e,r.acs.e Actn.e,r.aus.e Auto.e,r.ply,r.gl.e id⟩
def Stt.e (s:Stt):Stt:=⟨s.ths.e id,s.prs.e id,s.pls.e id⟩
def wordL:List ByteArray:=[⟨#[97,116]⟩,⟨#[115,116,97,116,101,115]⟩,⟨#[115,116,97,114,116]⟩,⟨#[103,111,110,101]⟩,⟨#[105,102]⟩,⟨#[108,111,99,107]⟩,⟨#[119,105,116,104]⟩,⟨#[115,101,116,115]⟩,⟨#[115,112,101,110,100,115]⟩,⟨#[98,114,105,110,103,115]⟩]
def lowB (t:ByteArray):Bool:=(List.range t.size).all fun i=>decide (97<=byt t i)&&decide (byt t i<=122)
def Au (t:ByteArray):Bool:=lowB t&&(!(wordL.any fun x=>seq x t)&&!seq t ⟨#[]⟩)
def AY (t:ByteArray):Bool:=decide ((t.size:Int)<=12)&&Au t
def putB (ths:List Thing) (a b:Int):Bool:=(decide (0<=a)&&decide (a<=ths.length-1))&&(decide (0<=b)&&decide (b<=IntKind.i64.wrap ((nth ths a).st-1)))
def FD (ths:List Thing) (c:List Lit):Bool:=c.all (fun x=>putB ths x.t x.s)&&decide ((c.length:Int)<=8)
def DT (ths:List Int) (c:List Lit):Bool:=c.all fun x=>!(decide (nth ths x.t=x.s) == x.nt)
variable {l:List α}
theorem Dx [Inhabited α] {p:α->Bool} {j:Int} (h0:0<=j) (h1:j<i) (h2:i<=l.length) (h:p (nth l j)=true):(l.take i.toNat).any p=true:=by
 refine List.any_eq_true.2 ⟨nth l j,?_,h⟩;have hj:j.toNat<l.length:=by omega
 rw[List.mem_take_iff_getElem];exact⟨j.toNat,by omega,by simp[nth,List.getD,hj]⟩
theorem D8 [Inhabited α] {p:α->Bool} (h:∀j:Int,0<=j->j<i->p (nth l j)=false):(l.take i.toNat).any p=false:=by
 rw[List.any_eq_false];intro x hx;obtain⟨k,hk,rfl⟩:=List.mem_take_iff_getElem.1 hx;have:=h k (by omega) (by omega);have hk2:k<l.length:=by omega
 simpa [nth,List.getD,hk2]using this
theorem HH {t:ByteArray} (h:∀j:Int,0<=j->j<t.size->97<=byt t j/\byt t j<=122):lowB t=true:=by
 unfold lowB;rw[List.all_eq_true];intro i hi;have:=h i (by omega) (by simp at hi;omega);simp;omega
theorem JW {t:ByteArray} (h0:0<=i) (h1:i<t.size) (h:¬(97<=byt t i/\byt t i<=122)):lowB t=false:=by
 unfold lowB;rw[List.all_eq_false];refine⟨i.toNat,by simp;omega,?_⟩;rw[show((i.toNat:Nat):Int)=i by omega];simp;omega
structure Fill (k:Nat) (s n i m:Int) (xs:List Int):Prop where
 lo: -1<=i
 hi:i<k
 pos:0<=m/\m<=n
 ex:∃T,xs=List.replicate (i+1).toNat 0++T/\digs k s n=digs (i+1).toNat s m++T
section
variable {k:Nat} {s n i m:Int} {xs:List Int}
theorem Fill.start {w:Int} (hk:(k:Int)=w) (hw:0<=w) (hn:0<=n):Fill k s n (w-1) n (List.replicate w.toNat 0):=by
 subst hk;refine⟨by omega,by omega,⟨hn,Int.le_refl _⟩,[],?_,?_⟩<;>simp
theorem Fill.len (h:Fill k s n i m xs):xs.length=k:=by
 obtain⟨T,h1,h2⟩:=h.ex;have:=congrArg List.length h2;simp[D5]at this;rw[h1];simp;omega
theorem Fill.step (h:Fill k s n i m xs) (h0:0<=i) (hs:2<=s):Fill k s n (i-1) (m/s) (xs.set i.toNat (m%s)):=by
 obtain⟨T,h1,h2⟩:=h.ex;have e:(i+1).toNat=i.toNat+1:=by omega
 have e2:(i-1+1).toNat=i.toNat:=by omega
 have hp:=h.pos;refine⟨by omega,by have:=h.hi;omega,⟨Int.ediv_nonneg hp.1 (by omega),Int.le_trans (Int.ediv_le_self s hp.1) hp.2⟩,m%s::T,?_,?_⟩
 ·rw[h1,e,e2,List.replicate_succ',List.append_assoc];exact M7 (by simp)
 rw[h2,e,e2,digs];simp
theorem Fill.end_ (h:Fill k s n i m xs) (hi:i<0):xs=digs k s n:=by
 obtain⟨T,h1,h2⟩:=h.ex;have e:(i+1).toNat=0:=by have:=h.lo;omega
 rw[h1,h2,e];simp[digs]
theorem Fill.bd (h:Fill k s n i m xs) (h0:0<=i):0<=i/\i<xs.length:=by
 have:=h.len;have:=h.hi;omega
end
variable {m:Int}
theorem Q3 {xs:List α} (h:(xs.length:Int)<=m):xs.take m.toNat=xs:=List.take_of_length_le (by omega)
theorem P0 [Inhabited α] {xs ys:List α} (hl:xs.length=ys.length) (h:∀i:Int,0<=i->i<xs.length->nth xs i=nth ys i):xs=ys:=by
 apply List.ext_getElem hl
 intro i h1 h2;have:=h i (by omega) (by omega)
 simpa [nth,List.getD,h1,h2]using this
def comN (y x:List Int):Int:=BI y x 10-Bw y x
def Jgt (L:List (List Int)) (x:List Int) (r c:Int):Int:=((L.filter fun y=>decide (Bw y x=r)&&decide (comN y x=c)).length:Int)
def maxL:List Int->Int
 |[]=>0
 |a::l=>max a (maxL l)
def cA (L:List (List Int)) (x y:List Int):Int:=Jgt L x (Bw y x) (comN y x)
def wN (L:List (List Int)) (x:List Int):Int:=maxL (L.map (cA L x))
def Hq (L:List (List Int)):Nat->Nat
 |0=>0
 |i+1=>if i=0 then 0 else if wN L (nth L i)<wN L (nth L (Hq L i))then i else Hq L i
theorem PC (L:List (List Int)):∀i,0<i->Hq L i<i
 |0,h=>by omega
 |i+1,_=>by
  simp only[Hq];split
  ·omega
  split
  ·omega
  have:=PC L i (by omega);omega
structure NextI (L:List (List Int)) (gs:List Value) (i:Int) (v:Value) (m:Int):Prop where
 lo:i=0->v = .slice none 0 0/\m=0
 hi:0<i->v=nth gs (Hq L i.toNat)/\m=wN L (nth L (Hq L i.toNat))
def nilB:Value->Bool
 | .slice none _ _=>true
 |_=>false
theorem Uw {xs:List Int} (h:SlI u v xs) (h0:0<xs.length):nilB v=false/\∃p n c,v = .slice p n c:=by
 obtain⟨_,p,cap,rfl,_,h2⟩:=h;rcases h2 with h2|⟨b,o,rfl,_⟩
 ·omega
 exact⟨rfl,_,_,_,rfl⟩
section
variable {L:List (List Int)} {gs:List Value} {i m:Int} {v:Value}
theorem NextI.start:NextI L gs 0 (.slice none 0 0) 0:=⟨fun _=>⟨rfl,rfl⟩,fun h=>by omega⟩
theorem NextI.nil {lv:Value} (h:NextI L gs i v m) (hs:SlL u lv L gs) (h0:0<=i) (h1:i<=L.length) (hp:∀j:Int,0<=j->j<L.length->0<(nth L j).length):nilB v=decide (i=0)/\∃p n c,v = .slice p n c:=by
 by_cases hi:i=0
 ·obtain⟨rfl,_⟩:=h.lo hi;exact⟨by simp[hi,nilB],_,_,_,rfl⟩
 obtain⟨rfl,_⟩:=h.hi (by omega);have hb:=PC L i.toNat (by omega);have:=Uw (hs.el (Hq L i.toNat) (by omega) (by omega)) (hp _ (by omega) (by omega));exact⟨by rw[this.1];simp[hi],this.2⟩
theorem NextI.take (h:NextI L gs i v m) (h0:0<=i) (hc:nilB v=true\/wN L (nth L i)<m) (hn:nilB v=decide (i=0)):NextI L gs (i+1) (nth gs i) (wN L (nth L i)):=by
 have e:(i+1).toNat=i.toNat+1:=by omega
 have e2:((i.toNat:Nat):Int)=i:=by omega
 refine⟨fun h=>by omega,fun _=>?_⟩
 have:Hq L (i+1).toNat=i.toNat:=by
  rw[e,Hq]
  by_cases hi:i.toNat=0
  ·rw[if_pos hi,hi]
  rw[if_neg hi,if_pos];have h2:=(h.hi (by omega)).2;rw[hn]at hc;rcases hc with hc|hc
  ·simp at hc;omega
  rw[e2,<-h2];exact hc
 rw[this,e2];exact⟨rfl,rfl⟩
theorem NextI.leave (h:NextI L gs i v m) (h0:0<=i) (hc:nilB v=false/\¬wN L (nth L i)<m) (hn:nilB v=decide (i=0)):NextI L gs (i+1) v m:=by
 have e:(i+1).toNat=i.toNat+1:=by omega
 have e2:((i.toNat:Nat):Int)=i:=by omega
 have hi:¬i.toNat=0:=by rw[hn]at hc;simp at hc;omega
 refine⟨fun h=>by omega,fun _=>?_⟩;have h2:=h.hi (by omega)
 have:Hq L (i+1).toNat=Hq L i.toNat:=by
  rw[e,Hq,if_neg hi,if_neg];rw[e2,<-h2.2];exact hc.2
 rw[this];exact h2
end
variable {n:Nat}
variable {zc:List Value} {l':Value->List Value}
variable {gs:List Value}
section
variable {P:Program} {ro:Option Nat} {n0:Nat} {w0:World} {ds:List Deferred} {ops:Array Oper} {Q:Exit->Act->World->Prop} {L:List SA}
 {rest:List Oper} {l:List Value} {d:Option Tmp} {ty:TypeId} {ps:String} {af:Array Edge} {g:Option (Nat×Bool)} {C:World->Prop} {u:World}
theorem St.closeRow {e:TypeId} {cap b:Nat} {cur xs:List Value} (h:St n0 w0 (YtllebkdchemabaaGreatDoor.blk b cur e::L) u) (hc:n<=cap) (hm:cap<=9223372036854775807) (hs:cur.length=cap*k) (hx:cur.take (n*k)=xs):
  St n0 w0 (osl e k (.slice (some ⟨b,0,none⟩) n cap) n xs::L) u:=by
 obtain⟨h1,h2,T,h3,⟨hS,hg⟩,h5⟩:=h;refine⟨h1,h2,T,h3,⟨fun k=>?_,?_,.inr ⟨b,cap,cur.toArray,rfl,Nat.zero_le _,hg,hc,hm,by simpa using hs,by simpa using hx⟩⟩,h5⟩
 ·rw[hS k];simp[Value.ownBlock,eq_comm]
 rw[<-hx,List.length_take,hs];exact Nat.min_eq_left (Nat.mul_le_mul_right _ hc)
theorem St.setRow {b:Nat} {c c':List Value} {e:TypeId} (h:St n0 w0 L u) (hj:L[j]? = some (YtllebkdchemabaaGreatDoor.blk b c e)):St n0 w0 (L.set j (YtllebkdchemabaaGreatDoor.blk b c' e)) (u.setRow b c'.toArray):=by
 obtain⟨S,hS,⟨hS1,hb⟩,hupd⟩:=h.upd hj;refine hupd _ _ (fun k=>k=b) ⟨rfl,rfl,rfl,by simp,fun k hk=>setRow_other u b k _ (fun e=>by have:=hS b ((hS1 b).2 rfl);omega)⟩ (fun k hk o' hcell=>?_) ⟨fun k=>Iff.rfl,?_⟩ (fun k hk=>by subst hk;exact⟨hS _ ((hS1 _).2 rfl),.inl ((hS1 _).2 rfl)⟩)
 ·rw[setRow_other u b k _ (fun e=>hk.2.2 ((hS1 k).2 e))];exact hcell
 exact setRow_heap u b c.toArray c'.toArray e _ hb
theorem WS.build0 {e:TypeId} {i:Nat} (hT:sl P T=some (e,k,by_)) (hz:zv P e=some zc)
   (hl:∀v,lset l i v=some (l' v)) (kk:∀v,WS P ro n0 w0 ds ops Q (osl e k v 0 []::L) rest (l' v)):
  WS P ro n0 w0 ds ops Q L (⟨some i,.buildSlice T 0 #[],ty,ps,af,none⟩::rest) l:=by
 refine WS.world rfl rfl fun u hu=>?_;obtain⟨inf,hu1,hi,hs,hby⟩:=BX hT;unfold zv at hz;rw[hi]at hz;cases hz2:inf.zero with
 |none=>simp[hz2]at hz
 |some zz=>
  refine⟨.slice (some ⟨u.heap.size,0,none⟩) 0 0,u.alloc (.cells #[] e),?_,?_⟩
  ·simp[execOp,Instr.buildSlice,run_underlying hu1,sizeOf,typeInfo,hi,hs,newRow,Instr.fill,zeroValue,hz2];congr 2
   apply Array.ext'
   simp
  rw[AL,Aq (hl _)];refine kk _ _ (hu.cons (T:=fun k=>k=u.heap.size) ((Below.refl _ u).alloc (Nat.le_refl _) _) ⟨?_,by simp,.inr ⟨u.heap.size,0,#[],rfl,Nat.zero_le _,World.alloc_heap_new u _,Nat.le_refl _,?_,?_,?_⟩⟩ (fun k hk=>by omega))
  ·intro k;simp[Value.ownBlock];exact eq_comm
  ·simp only[maxLen];omega
  ·simp
  simp
theorem ClS.one {cs:List Clue} (h:ClS w v cs gs):∀g∈gs,g.oneCell'=true:=by
 intro g hg;obtain⟨i,h0,h1,rfl⟩:=Bz hg;obtain⟨_,p,cap,h2,_⟩:=h.el i h0 (by have:=h.len;omega);rw[h2];rfl
theorem Qd {cs cs':List Clue} {gs':List Value} (h:gs.length=cs.length):B2 cs gs++B2 cs' gs'=B2 (cs++cs') (gs++gs'):=by
 unfold B2;rw[List.zipWith_append h.symm,List.flatten_append]
end
def Il [Inhabited α] (cs:List α) (ns:List Nat):List α:=ns.map fun k=>cs.getD k default
section
variable {α:Type} [Inhabited α] {cs:List α} {ns ms:List Nat}
theorem Mh:(Il cs ns).length=ns.length:=by simp[Il]
end
theorem ClS.pick {v':Value} {cs:List Clue} (h:ClS u v cs gs) {ns:List Nat} (hn:∀k∈ns,k<cs.length) (hs:SlC u v' (Il cs ns).length 7 (B2 (Il cs ns) (Il gs ns))):ClS u v' (Il cs ns) (Il gs ns):=by
 refine⟨hs,by simp[Mh],fun i h0 h1=>?_⟩;rw[Mh]at h1;have hlt:i.toNat<ns.length:=by omega
 have hk:=hn _ (List.getElem_mem hlt);have e1:nth (Il cs ns) i=nth cs ((ns[i.toNat]:Nat):Int):=by simp[nth,List.getD,Il,hlt]
 have e2:nth (Il gs ns) i=nth gs ((ns[i.toNat]:Nat):Int):=by simp[nth,List.getD,Il,hlt]
 rw[e1,e2];exact h.el _ (by omega) (by omega)
variable {args:List Operand} {ts:Array TypeId} {fn:FuncId} {cap vs:List Value} {L':β->List SA}
variable {b:Bool}
section
variable {P:Program} {ro:Option Nat} {n0:Nat} {w0:World} {ds:List Deferred} {ops:Array Oper} {Q:Exit->Act->World->Prop} {L:List SA}
 {rest:List Oper} {l:List Value} {d:Option Tmp} {ty:TypeId} {ps:String} {af:Array Edge} {g:Option (Nat×Bool)} {C:World->Prop}
theorem WS.callS {f:Operand} {v:β->Value} {p:β->Prop} {i:Nat} {l':β->List Value}
  (hf:evo l f=some (.func (.func fn) #[] cap.toArray)) (hv:evs l args=some vs) (he:Ent P fn)
  (hc:∀u,St n0 w0 L u->Calls P fn (vs++cap).toArray u (fun e u'=>∃x,p x/\e = .returned (v x)/\St n0 w0 (L' x) u'))
  (hl:∀x,lset l i (v x)=some (l' x)) (k:∀x,p x->WS P ro n0 w0 ds ops Q (L' x) rest (l' x)):
  WS P ro n0 w0 ds ops Q L (⟨some i,.call ⟨.value f,args.toArray,ts⟩,ty,ps,af,none⟩::rest) l:=by
 intro u hu;unfold wpListIn;rw[if_pos (by simp[Region.wanted])];refine⟨fun _ _=>trivial,?_⟩;rw[Bl rfl,BA]
 have hr:(execOp (ev l) ⟨some i,.call ⟨.value f,args.toArray,ts⟩,ty,ps,af,none⟩).run P u = .ok (.enter fn (vs++cap).toArray) u:=by
  have h1:∀(args:Array Value) (w:World),Sem.run P (callFunc fn args) w = .ok (.enter fn args) w:=he;replace hf:=Am hf;replace hv:=Fi hv;subst hv;simp[execOp,hf,resolve,invoke,Deferred.ofValue,h1]
 rw[hr];refine⟨fun h=>by simp[FW]at h,CE ((hc u hu).mono ?_)⟩;rintro e u' ⟨x,hp,rfl,hs⟩;show wpListIn (FW ro) 0 P ops Q rest ((Act.mk l.toArray ds).put (some i) (v x)) u';rw[AL,Aq (hl x)];exact k x hp u' hs
theorem Cg {x:Operand} {c:Bool} (hg:c=true) (h:evo l x=some (cond (c&&(b == true)) v undef)):evo l x=some (cond b v undef):=by subst hg;cases b<;>exact h
theorem KD {x:Operand} {c:Bool} (hg:c=true) (h:evo l x=some (cond (c&&(b == false)) v undef)):evo l x=some (cond (!b) v undef):=by subst hg;cases b<;>exact h
theorem MO (c:Clue) (g:Value):B2 [c] [g]=Aw c g:=by simp[B2]
theorem NA {cs:List Clue} (h:gs.length=cs.length) (c:Clue) (g:Value):B2 cs gs++Aw c g=B2 (cs++[c]) (gs++[g]):=by
 rw[<-MO,Qd h]
theorem WS.buildC1 {e:TypeId} {i:Nat} {x:Operand} {c:Clue} {gv:Value} (hT:sl P T=some (e,7,by_)) (hz:zv P e=some zc) (hx:evo l x=some (.agg (Aw c gv).toArray))
   (hl:∀v,lset l i v=some (l' v)) (kk:∀v,WS P ro n0 w0 ds ops Q (osl e 7 v 1 (Aw c gv)::L) rest (l' v)):
  WS P ro n0 w0 ds ops Q L (⟨some i,.buildSlice T 1 #[(0,x)],ty,ps,af,none⟩::rest) l:=by
 refine WS.buildSliceK (pl:=[(0,x)]) (rows:=[Aw c gv]) (k:=7) hT hz (by simp[Am hx]) rfl (by decide) (by decide) (by simp[Aw]) hl fun v=>?_;have:=kk v
 simpa using this
theorem WS.appendCl {e:TypeId} {i jz:Nat} {x:Operand} {z gv:Value} {c:Clue} {cs:List Clue} (hT:sl P T=some (e,7,by_)) (hz:zv P e=some zc) (hzl:zc.length=7)
  (hx:evo l x=some v) (hj:L[j]? = some (osl e 7 v cs.length (B2 cs gs))) (hg:gs.length=cs.length) (hy:evo l y=some z) (hjz:L[jz]? = some (osl e 7 z 1 (Aw c gv))) (h1:gv.oneCell'=true)
  (hm:cs.length+1<=9223372036854775807) (hb:(cs.length+1)*by_<=140737488355328)
   (hl:∀v,lset l i v=some (l' v)) {L':Value->List SA} (hL:∀v',lset L j (osl e 7 v' (cs++[c]).length (B2 (cs++[c]) (gs++[gv])))=some (L' v')) (k:∀v',v'.oneCell'=true->WS P ro n0 w0 ds ops Q (L' v') rest (l' v')):
  WS P ro n0 w0 ds ops Q L (⟨some i,.call ⟨.builtin .append,#[x,y],#[T,T]⟩,ty,ps,af,none⟩::rest) l:=by
 refine WS.append hT hz hzl (by decide) hx hj hy (m:=1) (fun u hu=>BZ hu hjz) (fun a ha=>?_) hm hb hl (L':=L') (fun v'=>?_) fun v'=>?_
 ·simp only[Aw,List.mem_cons,List.not_mem_nil,or_false]at ha;rcases ha with rfl|rfl|rfl|rfl|rfl|rfl|rfl<;>first|rfl|exact h1
 ·rw[<-hL v',NA hg];simp
 have hjl:=(List.getElem?_eq_some_iff.1 hj).1;have h2:=(Aq (hL v')).symm;refine WS.oc (j:=j) (v:=v') (e:=e) (k:=7) (n:=(cs++[c]).length) (xs:=B2 (cs++[c]) (gs++[gv])) (by rw[h2,List.getElem?_set_self hjl]) (k v')
theorem SlI.none (u:World):SlI u (.slice none 0 0) []:=⟨by simp,Option.none,0,rfl,by simp,Or.inl rfl⟩
end
def allI (n:Nat) (p:Int->Bool):Bool:=(List.range n).all fun i=>p i
theorem Ed {p:Int->Bool} (h:∀j:Int,0<=j->j<n->p j=true):allI n p=true:=by
 unfold allI;rw[List.all_eq_true];intro i hi;exact h i (by omega) (by have:=List.mem_range.1 hi;omega)
theorem Fp {p:Int->Bool} (h0:0<=i) (h1:i<n) (h:p i=false):allI n p=false:=by
 unfold allI;rw[List.all_eq_false];refine⟨i.toNat,List.mem_range.2 (by omega),?_⟩;rw[show((i.toNat:Nat):Int)=i by omega,h];simp
theorem Hx {p:Int->Bool} (h:allI n p=true) (h0:0<=i) (h1:i<n):p i=true:=by
 unfold allI at h;rw[List.all_eq_true]at h;have:=h i.toNat (List.mem_range.2 (by omega))
 rwa [show((i.toNat:Nat):Int)=i by omega]at this
theorem Iy [Inhabited α] {p:α->Bool}:l.all p=allI l.length fun i=>p (nth l i):=by
 cases h:allI l.length fun i=>p (nth l i)with
 |true=>
  rw[List.all_eq_true];intro x hx;obtain⟨i,h0,h1,rfl⟩:=Bz hx;exact Hx h h0 h1
 |false=>
  cases h2:l.all p with
  |false=>rfl
  |true=>
   rw[List.all_eq_true]at h2;rw[Ed (p:=fun i=>p (nth l i)) fun j h0 h1=>h2 _ (Ai h0 h1)]at h;exact h
def A7 (f:Int->Int):Nat->Int
 |0=>0
 |n+1=>if A7 f n=0 then f n else A7 f n
theorem Ay {f:Int->Int}:∀{n:Nat},(∀j:Int,0<=j->j<n->f j=0)->A7 f n=0
 |0,_=>rfl
 |n+1,h=>by
  have h1:=Ay (f:=f) (n:=n) fun j h0 h1=>h j h0 (by omega);simp[A7,h1,h n (by omega) (by omega)]
theorem Av {f:Int->Int} {i:Int}:∀{n:Nat},0<=i->i<n->(∀j:Int,0<=j->j<i->f j=0)->f i≠0->A7 f n=f i
 |0,h0,h1,_,_=>by omega
 |n+1,h0,h1,h,hi=>by
  by_cases hn:i=n
  ·subst hn;rw[A7,if_pos (Ay h)]
  have h2:=Av (f:=f) (n:=n) h0 (by omega) h hi;rw[A7,h2,if_neg hi]
theorem Bj {f:Int->Int}:∀{n:Nat},A7 f n=0->∀i:Int,0<=i->i<n->f i=0
 |0,_,i,h0,h1=>by omega
 |n+1,h,i,h0,h1=>by
  rw[A7]at h;split at h
  ·rename_i h2
   by_cases hn:i=n
   ·subst hn;exact h
   exact Bj h2 i h0 (by omega)
  rename_i h2;exact(h2 h).elim
def or0 (a b:Int):Int:=if a=0 then b else a
theorem Bx {a b:Int} (h:a=0):or0 a b=b:=by simp[or0,h]
theorem Bu {a b c:Int} (h:a=c) (hc:c≠0):or0 a b=c:=by subst h;simp[or0,hc]
theorem B1 {a b:Int} (h:or0 a b=0):a=0/\b=0:=by
 unfold or0 at h;split at h
 ·exact⟨by assumption,h⟩
 rename_i h2;exact(h2 h).elim
structure Near (r:Room):Prop where
 pls:r.pls.l.length<=12
 ths:r.ths.l.length<=15
 prs:r.prs.l.length<=14
 wys:r.wys.l.length<=20
 acs:r.acs.l.length<=30
 aus:r.aus.l.length<=15
 gl:r.gl.l.length<=20
 pl:∀x∈r.pls.l,x.size<=100
 th:∀x∈r.ths.l,x.nm.size<=100
 pr:∀x∈r.prs.l,x.nm.size<=100/\x.wh.l.length<=20
 wy:∀x∈r.wys.l,x.wh.l.length<=20
 ac:∀x∈r.acs.l,x.nm.size<=100/\x.wh.l.length<=20/\x.us.l.length<=20/\x.se.l.length<=20/\x.sp.l.length<=20/\x.br.l.length<=20
 au:∀x∈r.aus.l,x.wh.l.length<=20
structure NmB (r:Room):Prop where
 pl:∀x∈r.pls.l,x.size<=70000
 th:∀x∈r.ths.l,x.nm.size<=70000
 pr:∀x∈r.prs.l,x.nm.size<=70000
 ac:∀x∈r.acs.l,x.nm.size<=70000/\True
theorem Near.nm (h:Near r):NmB r:=
 ⟨fun x hx=>Nat.le_trans (h.pl x hx) (by decide),fun x hx=>Nat.le_trans (h.th x hx) (by decide),fun x hx=>Nat.le_trans (h.pr x hx).1 (by decide),fun x hx=>⟨Nat.le_trans (h.ac x hx).1 (by decide),trivial⟩⟩
def placeB (r:Room) (n:Int):Bool:=decide (0<=n)&&decide (n<=r.pls.l.length-1)
def ascB (n:Nat) (l:List Int):Bool:=allI l.length fun i=>(decide (0<=nth l i)&&decide (nth l i<=(n:Int)-1))&&(decide (i=0)||decide (nth l (i-1)<nth l i))
def newB [Inhabited α] (f:α->ByteArray) (l:List α) (i:Int):Bool:=!((l.take i.toNat).any fun x=>seq (f x) (f (nth l i)))
def act2 (r:Room) (a:Actn):Bool:=AY a.nm&&(placeB r a.pl&&((decide (-1<=a.lk)&&decide (a.lk<=7))&&(ascB r.prs.l.length a.us.l&&(ascB r.prs.l.length a.sp.l&&(ascB r.prs.l.length a.br.l&&decide ((a.se.l.length:Int)<=6))))))
def act3 (a:Actn):Bool:=allI a.sp.l.length fun k=>decide (nth a.sp.l k∈a.us.l)
def act4 (a:Actn):Bool:=allI a.br.l.length fun k=>!decide (nth a.br.l k∈a.us.l)
def act5 (r:Room) (a:Actn):Bool:=allI a.se.l.length fun k=>putB r.ths.l (nth a.se.l k).t (nth a.se.l k).s&&!((a.se.l.take k.toNat).any fun x=>decide (x.t=(nth a.se.l k).t))
def actB (r:Room) (i:Int):Bool:=newB Actn.nm r.acs.l i&&(act2 r (nth r.acs.l i)&&(act3 (nth r.acs.l i)&&(act4 (nth r.acs.l i)&&act5 r (nth r.acs.l i))))
def manyB (r:Room):Bool:=decide ((8:Int)<r.pls.l.length)||(decide ((12:Int)<r.ths.l.length)||(decide ((10:Int)<r.prs.l.length)||(decide ((16:Int)<r.wys.l.length)||(decide ((24:Int)<r.acs.l.length)||decide ((12:Int)<r.aus.l.length)))))
def plO (r:Room) (i:Int):Int:=if(AY (nth r.pls.l i)&&newB id r.pls.l i)=true then 0 else 22
def thB (r:Room) (x:Thing):Bool:=placeB r x.pl&&((decide (2<=x.st)&&decide (x.st<=6))&&(decide (0<=x.sr)&&decide (x.sr<=x.st-1)))
def thO (r:Room) (i:Int):Int:=if(AY (nth r.ths.l i).nm&&(newB Thing.nm r.ths.l i&&thB r (nth r.ths.l i)))=true then 0 else 21
def whO (r:Room) (c:List Lit):Int:=if FD r.ths.l c=true then 0 else 25
def prO (r:Room) (i:Int):Int:=or0 (if(AY (nth r.prs.l i).nm&&(newB Pro.nm r.prs.l i&&(decide ((nth r.prs.l i).pl = -1)||placeB r (nth r.prs.l i).pl)))=true then 0 else 24) (whO r (nth r.prs.l i).wh.l)
def wyO (r:Room) (i:Int):Int:=or0 (if(placeB r (nth r.wys.l i).a&&(placeB r (nth r.wys.l i).b&&!decide ((nth r.wys.l i).a=(nth r.wys.l i).b)))=true then 0 else 23) (whO r (nth r.wys.l i).wh.l)
def acO (r:Room) (i:Int):Int:=or0 (if actB r i=true then 0 else 26) (whO r (nth r.acs.l i).wh.l)
def auO (r:Room) (i:Int):Int:=or0 (if putB r.ths.l (nth r.aus.l i).t (nth r.aus.l i).s=true then 0 else 27) (whO r (nth r.aus.l i).wh.l)
def glO (r:Room):Int:=or0 (if(decide (1<=r.ply)&&decide (r.ply<=4))=true then 0 else 1) (whO r r.gl.l)
def Gi (r:Room):Int:=or0 (A7 (auO r) r.aus.l.length) (glO r)
def Gr (r:Room):Int:=or0 (A7 (acO r) r.acs.l.length) (Gi r)
def Gt (r:Room):Int:=or0 (A7 (wyO r) r.wys.l.length) (Gr r)
def Gf (r:Room):Int:=or0 (A7 (prO r) r.prs.l.length) (Gt r)
def IM (r:Room):Int:=or0 (A7 (thO r) r.ths.l.length) (Gf r)
def Gp (r:Room):Int:=or0 (A7 (plO r) r.pls.l.length) (IM r)
def checkE (r:Room):Int:=if manyB r=true then 2 else if r.pls.l.length=0 then 22 else Gp r
theorem Iq (h:checkE r=0):manyB r=false/\Gp r=0:=by
 unfold checkE at h;split at h
 ·exact absurd h (by decide)
 rename_i h1;split at h
 ·exact absurd h (by decide)
 exact⟨by simpa using h1,h⟩
theorem SU (h:checkE r=0):glO r=0:=(B1 (B1 (B1 (B1 (B1 (B1 (Iq h).2).2).2).2).2).2).2
theorem I9 (h:checkE r=0):1<=r.ply/\r.ply<=4:=by
 have h1:=(B1 (SU h)).1;simp at h1;omega
def I7 (r:Room) (l:List Int) (i:Int):Int:=if putB r.ths.l i (nth l i)=true then 0 else 28
def I3 (r:Room) (l:List Int) (i:Int):Int:=if(placeB r (nth l i)||(decide (nth l i = -1)||(decide (-2-r.ply+1<=nth l i)&&decide (nth l i<=-2))))=true then 0 else 28
def I1 (r:Room) (l:List Int) (i:Int):Int:=if placeB r (nth l i)=true then 0 else 28
def stE (r:Room) (ths prs pls:List Int):Int:=if(decide (ths.length=r.ths.l.length)&&(decide (prs.length=r.prs.l.length)&&decide ((pls.length:Int)=r.ply)))=true
 then or0 (A7 (I7 r ths) ths.length) (or0 (A7 (I3 r prs) prs.length) (A7 (I1 r pls) pls.length))else 28
def Hc (r:Room) (z:Stt):Int:=or0 (checkE r) (stE r z.ths.l z.prs.l z.pls.l)
def upd (vs:Nat->Value) (i:Nat) (v:Value):Nat->Value:=fun j=>if j=i then v else vs j
theorem PO {vs:Nat->Value} {i:Nat}:upd vs i v i=v:=by simp[upd]
theorem Sa {vs:Nat->Value} {i:Nat} (h:j≠i):upd vs i v j=vs j:=by simp[upd,h]
def P9 {α:Type} (l:List α) (d:Nat->Nat) (f:Nat->α):List Nat->Option (List α)
 |[]=>some l
 |i::is=>match P9 l d f is with
  |some r=>lset r (d i) (f i)
  |none=>none
theorem GQ {α:Type} {l:List α} {d:Nat->Nat} {f:Nat->α}:∀{is:List Nat} {r:List α},P9 l d f is=some r->is.Nodup->(∀i∈is,∀k∈is,d i=d k->i=k)->
  r.length=l.length/\(∀k,(∀i∈is,d i≠k)->r[k]? = l[k]?)/\∀i∈is,d i<l.length->r[d i]? = some (f i)
 |[],r,h,_,_=>by simp[P9]at h;subst h;exact⟨rfl,fun _ _=>rfl,fun i hi=>by simp at hi⟩
 |i::is,r,h,hn,hd=>by
  unfold P9 at h;split at h
  ·rename_i r1 h1;have h2:=Aq h;subst h2;rw[List.nodup_cons]at hn;obtain⟨e1,e2,e3⟩:=GQ h1 hn.2 fun a ha b hb e=>hd a (List.mem_cons_of_mem _ ha) b (List.mem_cons_of_mem _ hb) e;refine⟨by simpa using e1,fun k hk=>?_,fun j hj hlt=>?_⟩
   ·rw[List.getElem?_set_ne (hk i List.mem_cons_self)];exact e2 k fun a ha=>hk a (List.mem_cons_of_mem _ ha)
   by_cases hji:j=i
   ·subst hji;rw[List.getElem?_set_self (by omega)]
   rcases List.mem_cons.1 hj with hj'|hj'
   ·exact(hji hj').elim
   rw[List.getElem?_set_ne (fun e=>hji (hd i List.mem_cons_self j hj e).symm)];exact e3 j hj' hlt
  cases h
def live (is:List Nat) (R:Nat->Value->List SA) (vs:Nat->Value) (p:Nat->Bool):List SA:=is.flatMap fun j=>if p j=true then R j (vs j)else[]
variable {is:List Nat}
theorem CD {R:Nat->Value->List SA} {vs vs':Nat->Value} {p p':Nat->Bool} (h:∀j∈is,p j=p' j/\(p j=true->vs j=vs' j)):live is R vs p=live is R vs' p':=by
 induction is with
 |nil=>rfl
 |cons a is ih=>
  have h1:=h a List.mem_cons_self;have h2:=ih fun j hj=>h j (List.mem_cons_of_mem _ hj);simp only[live,List.flatMap_cons]at h2⊢;rw[h2,<-h1.1];congr 1;split
  ·rename_i hp;rw[h1.2 hp]
  rfl
theorem Jk (is:List Nat) (R:Nat->Value->List SA) (vs:Nat->Value) (p q:Nat->Bool):(live is R vs p).Perm (live is R vs (fun j=>p j&&q j)++live is R vs (fun j=>p j&&!q j)):=by
 induction is with
 |nil=>exact List.Perm.refl _
 |cons a is ih=>
  simp only[live,List.flatMap_cons]at ih⊢
  by_cases hp:p a=true
  ·by_cases hq:q a=true
   ·simpa [hp,hq,List.append_assoc]using List.Perm.append_left (R a (vs a)) ih
   simp only[hp,hq,if_true,Bool.and_false,Bool.false_eq_true,if_false,List.nil_append,Bool.true_and,Bool.not_false];refine(List.Perm.append_left _ ih).trans ?_;rw[<-List.append_assoc,<-List.append_assoc];exact List.Perm.append_right _ List.perm_append_comm
  simpa [hp]using ih
theorem KH {R:Nat->Value->List SA} {vs:Nat->Value}:∀{is:List Nat},live is R vs (fun _=>false)=[]
 |[]=>rfl
 |a::is=>by
  have:=KH (R:=R) (vs:=vs) (is:=is);simp only[live,List.flatMap_cons]at this⊢;rw[this];simp
theorem Kt {R:Nat->Value->List SA} {vs:Nat->Value} {c:Nat}:∀{is:List Nat},is.Nodup->c∈is->live is R vs (fun j=>decide (j=c))=R c (vs c)
 |[],_,h=>by simp at h
 |a::is,hn,h=>by
  rw[List.nodup_cons]at hn;simp only[live,List.flatMap_cons]
  by_cases hac:a=c
  ·subst hac;have:live is R vs (fun j=>decide (j=a))=live is R vs fun _=>false:=CD fun j hj=>⟨by simp;rintro rfl;exact hn.1 hj,fun _=>rfl⟩;simp only[live]at this;rw[this];simp
  have hc:c∈is:=by rcases List.mem_cons.1 h with e|e;exact(hac e.symm).elim;exact e
  have:=Kt (R:=R) (vs:=vs) hn.2 hc;simp only[live]at this;rw[this];simp[hac]
theorem Pt {p:Nat->Bool} {i:Nat}:∀{is:List Nat},is.Nodup->i∈is->p i=true->(is.filter p).length=(is.filter fun k=>p k&&!decide (k=i)).length+1
 |[],_,h,_=>by simp at h
 |a::is,hn,h,hp=>by
  rw[List.nodup_cons]at hn
  by_cases hai:a=i
  ·subst hai
   have:is.filter p=is.filter fun k=>p k&&!decide (k=a):=List.filter_congr fun k hk=>by
    have:k≠a:=by rintro rfl;exact hn.1 hk
    simp[this]
   simp[List.filter_cons,hp,this]
  have hi:i∈is:=by rcases List.mem_cons.1 h with e|e;exact(hai e.symm).elim;exact e
  have ih:=Pt hn.2 hi hp;simp only[List.filter_cons,hai,decide_false,Bool.not_false,Bool.and_true];cases hpa:p a with
  |true=>simp[ih]
  |false=>simpa using ih
def Mk (ops:Array Oper) (bl:List Bool) (is:List Nat) (d:Nat->Nat) (dep:Nat->List Nat) (cs:Nat->Option Nat) (n:Nat):Bool:=
 (is.all fun i=>bl[i]? == some false&&(match ops[i]? with
  |some o=>o.dst == some (d i)&&decide (d i<n)&&((dep i).all fun j=>is.contains j&&o.after.toList.any fun e=>Region.binds .any e&&e.on == j)&&
    (o.after.toList.all fun e=>!Region.binds .any e||(is.contains e.on&&decide (e.on<i))||bl[e.on]? == some true)
  |none=>false)&&(match cs i with|some c=>(dep i).contains c|none=>true)&&is.all fun k=>k == i||(!(d k == d i)&&!((cs i).isSome&&cs k == cs i)))&&
 (List.range bl.length).all fun k=>is.contains k||bl[k]? == some true||(match ops[k]? with
  |some o=>is.all fun i=>o.after.toList.any fun e=>Region.binds .any e&&e.on == i
  |none=>false)
structure ManyAt (ops:Array Oper) (bl:List Bool) (is:List Nat) (d:Nat->Nat) (dep:Nat->List Nat) (cs:Nat->Option Nat) (n i:Nat) (o:Oper):Prop where
 op:ops[i]? = some o
 un:bl[i]? = some false
 dst:o.dst=some (d i)
 lt:d i<n
 deps:∀j∈dep i,j∈is/\∃e∈o.after,Region.binds .any e=true/\e.on=j
 aft:∀e∈o.after,Region.binds .any e=true->(e.on∈is/\e.on<i)\/bl[e.on]? = some true
 csd:∀c,cs i=some c->c∈dep i
 inj:∀k∈is,k≠i->d k≠d i/\(∀c,cs i=some c->cs k≠some c)
variable {ops:Array Oper} {dep:Nat->List Nat}
theorem B5 {bl:List Bool} {d:Nat->Nat} {cs:Nat->Option Nat} (h:Mk ops bl is d dep cs n=true) {i:Nat} (hi:i∈is):∃o,ManyAt ops bl is d dep cs n i o:=by
 unfold Mk at h;rw[Bool.and_eq_true,List.all_eq_true]at h;have h1:=h.1 i hi;cases ho:ops[i]? with
 |none=>simp[ho]at h1
 |some o=>
  simp only[ho,Bool.and_eq_true,List.all_eq_true,beq_iff_eq,decide_eq_true_eq,List.contains_iff_mem,List.any_eq_true,Bool.or_eq_true,Bool.not_eq_true']at h1;obtain⟨⟨⟨h1,⟨⟨h2,h3⟩,h4⟩,h5⟩,h6⟩,h7⟩:=h1;refine⟨o,ho,h1,h2,h3,fun j hj=>?_,fun e he hb=>?_,fun c hc=>?_,fun k hk hki=>?_⟩
  ·obtain⟨a,e,he,hb,hj⟩:=h4 j hj;exact⟨a,e,by simpa using he,hb,hj⟩
  ·rcases h5 e (by simpa using he)with(h|h)|h
   ·rw[hb]at h;cases h
   ·exact .inl h
   exact .inr h
  ·rw[hc]at h6;simpa using h6
  rcases h7 k hk with h|h
  ·exact(hki h).elim
  refine⟨by simpa using h.1,fun c hc hck=>?_⟩;have:=h.2;rw[hc,hck]at this;simp at this
theorem QY {bl:List Bool} {d:Nat->Nat} {cs:Nat->Option Nat} (h:Mk ops bl is d dep cs n=true) (hk:k∉is) (hb:bl[k]? = some false) {o:Oper} (ho:ops[k]? = some o) {i:Nat} (hi:i∈is):
  ∃e∈o.after,Region.binds .any e=true/\e.on=i:=by
 unfold Mk at h;rw[Bool.and_eq_true,List.all_eq_true,List.all_eq_true]at h;have hlt:k<bl.length:=(List.getElem?_eq_some_iff.1 hb).1;have h1:=h.2 k (List.mem_range.2 hlt);simp only[ho,Bool.or_eq_true,List.contains_iff_mem,hk,hb,false_or,List.all_eq_true,List.any_eq_true,Bool.and_eq_true,beq_iff_eq]at h1;rcases h1 with h1|h1
 ·cases h1
 obtain⟨e,he,hb,hj⟩:=h1 i hi;exact⟨e,by simpa using he,hb,hj⟩
variable {fuel:Nat}
section
variable {P:Program} {ro:Option Nat} {n0:Nat} {w0:World} {ds:List Deferred} {ops:Array Oper} {Q:Exit->Act->World->Prop} {L:List SA} {l:List Value} {C:World->Prop}
theorem St.sel0 (A:List SA) (h:St n0 w0 (A++L) u):St n0 w0 L u:=St.sub (List.sublist_append_right _ _) h
def HR (is:List Nat) (cs:Nat->Option Nat) (b:Nat->Bool) (j:Nat):Bool:=b j&&!(is.any fun i=>b i&&decide (cs i=some j))
structure ManyInv (n0:Nat) (w0:World) (L:List SA) (l:List Value) (bl:List Bool) (is:List Nat) (d:Nat->Nat) (dep:Nat->List Nat) (cs:Nat->Option Nat) (R:Nat->Value->List SA) (V:Nat->(Nat->Value)->Prop)
  (bl':List Bool) (l':List Value) (vs:Nat->Value) (u:World):Prop where
 bn:bl'.length=bl.length
 bo:∀k,k∉is->bl'[k]? = bl[k]?
 bi:∀k∈is,bl'[k]? = some true\/bl'[k]? = some false
 ln:l'.length=l.length
 lo:∀k,(∀j∈is,d j≠k)->l'[k]? = l[k]?
 li:∀j∈is,bl'[j]? = some true->l'[d j]? = some (vs j)/\V j vs/\∀k∈dep j,bl'[k]? = some true
 st:St n0 w0 (live is R vs (HR is cs fun j=>decide (bl'[j]? = some true))++L) u
def VV (P:Program) (ro:Option Nat) (n0:Nat) (w0:World) (ds:List Deferred) (ops:Array Oper) (L:List SA) (l:List Value) (is:List Nat) (d:Nat->Nat) (dep:Nat->List Nat) (cs:Nat->Option Nat) (R:Nat->Value->List SA) (V:Nat->(Nat->Value)->Prop) (i:Nat) (o:Oper):Prop:=
 ∀(Q:Exit->Act->World->Prop) (vs:Nat->Value) (l':List Value) (M:List SA),l'.length=l.length->(∀j∈dep i,l'[d j]? = some (vs j)/\V j vs)->(∀k,(∀j∈is,d j≠k)->l'[k]? = l[k]?)->
  (∀v,V i (upd vs i v)->QS n0 w0 ds Q .normal (R i v++M) (l'.set (d i) v))->WS P ro n0 w0 ds ops Q ((match cs i with|some c=>R c (vs c)|none=>[])++M) [o] l'
theorem AS.many {bl be:List Bool} {nn:Nat} {le:(Nat->Value)->List Value} {L':(Nat->Value)->List SA} (is:List Nat) (d:Nat->Nat) (dep:Nat->List Nat) (cs:Nat->Option Nat) (R:Nat->Value->List SA) (V:Nat->(Nat->Value)->Prop)
  (hok:Mk ops bl is d dep cs l.length=true) (hnd:is.Nodup) (hnn:is.length=nn) (hbe:P9 bl id (fun _=>true) is=some be) (hC:∀u,St n0 w0 L u->C u)
  (hV:∀i∈is,∀vs vs',(∀j∈i::dep i,vs j=vs' j)->V i vs->V i vs')
  (hle:∀vs,P9 l d vs is=some (le vs)) (hL':∀vs,live is R vs (fun j=>!(is.any fun i=>decide (cs i=some j)))++L=L' vs)
  (step:∀i∈is,∀o,ops[i]? = some o->VV P ro n0 w0 ds ops L l is d dep cs R V i o)
  (fin:∀vs,(∀i∈is,V i vs)->AS P ro n0 w0 ds ops Q C (L' vs) fuel be (le vs)):
  AS P ro n0 w0 ds ops Q C L (fuel+nn) bl l:=by
 subst hnn
 have hdj:∀i∈is,∀k∈is,d i=d k->i=k:=fun i hi k hk e=>by
  by_cases hki:k=i
  ·exact hki.symm
  obtain⟨o,ho⟩:=B5 hok hi;exact((ho.inj k hk hki).1 e.symm).elim
 have main:∀(n:Nat) (bl':List Bool) (l':List Value) (vs:Nat->Value) (u:World),ManyInv n0 w0 L l bl is d dep cs R V bl' l' vs u->(is.filter fun k=>decide (bl'[k]? = some false)).length=n->
   AH P ro ops (NP ops Q) C (fuel+n) bl'.toArray ⟨l'.toArray,ds⟩ u:=by
  intro n
  induction n with
  |zero=>
   intro bl' l' vs u hI hn
   have hall:∀k∈is,bl'[k]? = some true:=fun k hk=>by
    rcases hI.bi k hk with h|h
    ·exact h
    have:=List.filter_eq_nil_iff.1 (List.length_eq_zero_iff.1 hn) k hk;simp[h]at this
   have e1:bl'=be:=by
    obtain⟨q1,q2,q3⟩:=GQ hbe hnd fun a _ b _ e=>e
    apply List.ext_getElem?
    intro k
    by_cases hk:k∈is
    ·have hlt:k<bl.length:=by
      have:=(List.getElem?_eq_some_iff.1 (hall k hk)).1;rw[hI.bn]at this;exact this
     rw[hall k hk];exact(q3 k hk hlt).symm
    rw[hI.bo k hk,q2 k fun i hi e=>hk (by simp at e;rw[<-e];exact hi)]
   have e2:l'=le vs:=by
    obtain⟨q1,q2,q3⟩:=GQ (hle vs) hnd hdj
    apply List.ext_getElem?
    intro k
    by_cases hk:∃j∈is,d j=k
    ·obtain⟨j,hj,rfl⟩:=hk;obtain⟨o,ho⟩:=B5 hok hj;rw[(hI.li j hj (hall j hj)).1,q3 j hj ho.lt]
    have hk':∀j∈is,d j≠k:=fun j hj e=>hk ⟨j,hj,e⟩;rw[hI.lo k hk',q2 k hk']
   subst e1 e2;refine fin vs (fun i hi=>(hI.li i hi (hall i hi)).2.1) u ?_;rw[<-hL' vs]
   have:live is R vs (HR is cs fun j=>decide (bl'[j]? = some true))=live is R vs (fun j=>!(is.any fun i=>decide (cs i=some j))):=CD fun j hj=>by
    refine⟨?_,fun _=>rfl⟩;simp only[HR];rw[decide_eq_true (hall j hj),Bool.true_and];congr 1
    have:∀(ks:List Nat),(∀k∈ks,k∈is)->(ks.any fun i=>decide (bl'[i]? = some true)&&decide (cs i=some j))=ks.any fun i=>decide (cs i=some j):=fun ks=>by
     induction ks with
     |nil=>intro _;rfl
     |cons a ks ih=>intro h;simp only[List.any_cons];rw[ih fun k hk=>h k (List.mem_cons_of_mem _ hk),decide_eq_true (hall a (h a List.mem_cons_self)),Bool.true_and]
    exact this is fun _ h=>h
   rw[<-this];exact hI.st
  |succ n ih=>
   intro bl' l' vs u hI hn u' hu';have hI':ManyInv n0 w0 L l bl is d dep cs R V bl' l' vs u':={hI with st:=hI.st.ext hu'}
   have hex:∃k,k∈is/\bl'[k]? = some false:=by
    cases hf:is.filter fun k=>decide (bl'[k]? = some false)with
    |nil=>rw[hf]at hn;simp at hn
    |cons a r=>
     have:a∈is.filter fun k=>decide (bl'[k]? = some false):=by rw[hf];exact List.mem_cons_self
     rw[List.mem_filter]at this;exact⟨a,this.1,by simpa using this.2⟩
   obtain⟨m,⟨hm,hmf⟩,hmin⟩:=Zy hex
   have hgd:∀k,bl'.toArray.getD k true=false↔bl'[k]? = some false:=fun k=>by
    cases h:bl'[k]? with
    |none=>simp[Array.getD_eq_getD_getElem?,h]
    |some x=>simp[Array.getD_eq_getD_getElem?,h]
   have hgt:∀k,bl'.toArray.getD k false=true↔bl'[k]? = some true:=fun k=>by
    cases h:bl'[k]? with
    |none=>simp[Array.getD_eq_getD_getElem?,h]
    |some x=>simp[Array.getD_eq_getD_getElem?,h]
   have hnin:∀{k:Nat},bl[k]? = some true->bl'[k]? = some true:=fun{k} hk=>by
    by_cases hki:k∈is
    ·obtain⟨o,ho⟩:=B5 hok hki;rw[ho.un]at hk;cases hk
    rw[hI.bo k hki];exact hk
   refine⟨hC _ (hI'.st.sel0 _),fun h0=>?_,fun i hi=>?_⟩
   ·exfalso;obtain⟨o,ho⟩:=B5 hok hm
    have:m∈Region.ready .any ops bl'.toArray:=mem_ready.2 ⟨(hgd m).2 hmf,o,ho.op,fun e he hb=>(hgt _).2 (by
     rcases ho.aft e he hb with⟨h1,h2⟩|h1
     ·rcases hI.bi _ h1 with h|h
      ·exact h
      have:=hmin _ ⟨h1,h⟩;omega
     exact hnin h1)⟩
    rw[h0]at this;cases this
   obtain⟨hun,o,ho,hall⟩:=mem_ready.1 hi;have hif:bl'[i]? = some false:=(hgd i).1 hun
   have hin:i∈is:=by
    by_cases hin:i∈is
    ·exact hin
    exfalso;obtain⟨e,he,hb,hj⟩:=QY hok hin (by rw[<-hI.bo i hin];exact hif) ho hm;have:=(hgt _).1 (hall e he hb);rw[hj,hmf]at this;cases this
   obtain⟨o',hM⟩:=B5 hok hin;obtain rfl:o=o':=by have:=hM.op;rw[ho]at this;exact Option.some.inj this
   have hdep:∀j∈dep i,j∈is/\bl'[j]? = some true:=fun j hj=>by
    obtain⟨h1,e,he,hb,hj'⟩:=hM.deps j hj;exact⟨h1,by rw[<-hj'];exact(hgt _).1 (hall e he hb)⟩
   let p:Nat->Bool:=HR is cs fun j=>decide (bl'[j]? = some true)
   have hno:∀k∈is,bl'[k]? = some true->i∉dep k:=fun k hk hkt hik=>by
    have:=(hI.li k hk hkt).2.2 i hik;rw[hif]at this;cases this
   have hpi:p i=false:=by simp[p,HR,hif]
   let q:Nat->Bool:=fun j=>decide (cs i=some j)
   have hpc:∀c,cs i=some c->p c=true:=fun c hc=>by
    have hcd:=hdep c (hM.csd c hc);simp only[p,HR,hcd.2,decide_true,Bool.true_and,Bool.not_eq_true',List.any_eq_false,Bool.and_eq_true,decide_eq_true_eq,not_and];intro k hk hkt hck
    by_cases hki:k=i
    ·subst hki;rw[hif]at hkt;cases hkt
    exact(hM.inj k hk hki).2 c hc hck
   have e1:live is R vs (fun j=>p j&&q j)=(match cs i with|some c=>R c (vs c)|none=>[]):=by
    cases hc:cs i with
    |none=>
     have:live is R vs (fun j=>p j&&q j)=live is R vs fun _=>false:=CD fun j _=>⟨by simp[q,hc],fun _=>rfl⟩;rw[this,KH]
    |some c=>
     have:live is R vs (fun j=>p j&&q j)=live is R vs fun j=>decide (j=c):=CD fun j _=>⟨by
      by_cases hjc:j=c
      ·subst hjc;simp[q,hc,hpc j hc]
      simp[q,hc,hjc,Ne.symm hjc],fun _=>rfl⟩
     rw[this,Kt hnd (hdep c (hM.csd c hc)).1]
   have hst1:St n0 w0 ((match cs i with|some c=>R c (vs c)|none=>[])++(live is R vs (fun j=>p j&&!q j)++L)) u':=by
    rw[<-e1,<-List.append_assoc];exact hI'.st.perm (List.Perm.append_right _ (Jk is R vs p q))
   have hW:=step i hin o ho (Exit.then (AH P ro ops (NP ops Q) C (fuel+n) (bl'.set i true).toArray) (NP ops Q)) vs l' (live is R vs (fun j=>p j&&!q j)++L) hI.ln (fun j hj=>by
     have:=hI.li j (hdep j hj).1 (hdep j hj).2
     exact⟨this.1,this.2.1⟩) hI.lo (fun v hv=>by
    intro u2 hu2;refine ih (bl'.set i true) (l'.set (d i) v) (upd vs i v) u2 ?_ ?_
    ·have hilt:i<bl'.length:=(List.getElem?_eq_some_iff.1 hif).1
     have hbs:∀k,(bl'.set i true)[k]? = some true↔(k=i\/bl'[k]? = some true):=fun k=>by
      by_cases hk:k=i
      ·subst hk;simp[hilt]
      rw[List.getElem?_set_ne (Ne.symm hk)];simp[hk]
     refine⟨by simpa using hI.bn,fun k hk=>?_,fun k hk=>?_,by simpa using hI.ln,fun k hk=>?_,fun j hj hjt=>?_,?_⟩
     ·rw[List.getElem?_set_ne (by rintro rfl;exact hk hin)];exact hI.bo k hk
     ·by_cases hki:k=i
      ·subst hki;exact .inl ((hbs k).2 (.inl rfl))
      rw[List.getElem?_set_ne (Ne.symm hki)];exact hI.bi k hk
     ·rw[List.getElem?_set_ne (hk i hin)];exact hI.lo k hk
     ·by_cases hji:j=i
      ·subst hji;refine⟨by rw[List.getElem?_set_self (by rw[hI.ln];exact hM.lt),PO],hv,fun k hk=>(hbs k).2 (.inr (hdep k hk).2)⟩
      have hjt':bl'[j]? = some true:=by rcases(hbs j).1 hjt with h|h;exact(hji h).elim;exact h
      obtain⟨a1,a2,a3⟩:=hI.li j hj hjt';refine⟨by rw[List.getElem?_set_ne (Ne.symm (hM.inj j hj hji).1),Sa hji];exact a1,?_,fun k hk=>(hbs k).2 (.inr (a3 k hk))⟩;refine hV j hj vs _ (fun k hk=>?_) a2;rw[Sa];rintro rfl;rcases List.mem_cons.1 hk with h|h
      ·exact hji h.symm
      exact hno j hj hjt' h
     let p':Nat->Bool:=HR is cs fun j=>decide ((bl'.set i true)[j]? = some true)
     have hp'i:p' i=true:=by
      simp only[p',HR,(hbs i).2 (.inl rfl),decide_true,Bool.true_and,Bool.not_eq_true',List.any_eq_false,Bool.and_eq_true,decide_eq_true_eq,not_and];intro k hk hkt hck;obtain⟨ok,hok'⟩:=B5 hok hk;have hid:=hok'.csd i hck;rcases(hbs k).1 hkt with h|h
      ·subst h;have:=(hdep k hid).2;rw[hif]at this;cases this
      exact hno k hk h hid
     have e2:live is R (upd vs i v) (fun j=>p' j&&decide (j=i))=R i v:=by
      have:live is R (upd vs i v) (fun j=>p' j&&decide (j=i))=live is R (upd vs i v) fun j=>decide (j=i):=CD fun j _=>⟨by
       by_cases hj:j=i
       ·subst hj;simp[hp'i]
       simp[hj],fun _=>rfl⟩
      rw[this,Kt hnd hin,PO]
     have e3:live is R (upd vs i v) (fun j=>p' j&&!decide (j=i))=live is R vs (fun j=>p j&&!q j):=CD fun j hj=>by
      by_cases hji:j=i
      ·subst hji;simp[hpi]
      refine⟨?_,fun _=>Sa hji⟩
      have h1:decide ((bl'.set i true)[j]? = some true)=decide (bl'[j]? = some true):=by
       rw[List.getElem?_set_ne (Ne.symm hji)]
      have h2:(is.any fun k=>decide ((bl'.set i true)[k]? = some true)&&decide (cs k=some j))=((is.any fun k=>decide (bl'[k]? = some true)&&decide (cs k=some j))||decide (cs i=some j)):=by
       rw[Bool.eq_iff_iff];simp only[List.any_eq_true,Bool.and_eq_true,Bool.or_eq_true,decide_eq_true_eq];constructor
       ·rintro⟨k,hk,hkt,hck⟩;rcases(hbs k).1 hkt with h|h
        ·subst h;exact .inr hck
        exact .inl ⟨k,hk,h,hck⟩
       rintro(⟨k,hk,hkt,hck⟩|h)
       ·exact⟨k,hk,(hbs k).2 (.inr hkt),hck⟩
       exact⟨i,hin,(hbs i).2 (.inl rfl),h⟩
      simp only[p',p,q,HR,h1,h2,hji,decide_false,Bool.not_false,Bool.and_true,Bool.not_or,Bool.and_assoc]
     have hp:=List.Perm.append_right L (Jk is R (upd vs i v) p' fun j=>decide (j=i));rw[e2,e3,List.append_assoc]at hp;exact hu2.perm hp.symm
    have hf:(is.filter fun k=>decide (bl'[k]? = some false)).length=(is.filter fun k=>decide (bl'[k]? = some false)&&!decide (k=i)).length+1:=Pt hnd hin (by simp[hif])
    have:(is.filter fun k=>decide ((bl'.set i true)[k]? = some false))=is.filter fun k=>decide (bl'[k]? = some false)&&!decide (k=i):=List.filter_congr fun k _=>by
     by_cases hki:k=i
     ·subst hki;have hilt:k<bl'.length:=(List.getElem?_eq_some_iff.1 hif).1;simp[hilt]
     rw[List.getElem?_set_ne (Ne.symm hki)];simp[hki]
    rw[this]
    omega)
   have h3:=BH ho (hW u' hst1)
   simpa using h3
 intro u hu
 have hfl:is.filter (fun k=>decide (bl[k]? = some false))=is:=List.filter_eq_self.2 fun k hk=>by
  obtain⟨o,ho⟩:=B5 hok hk;simp[ho.un]
 refine main is.length bl l (fun _=>undef) u ⟨rfl,fun _ _=>rfl,fun k hk=>?_,rfl,fun _ _=>rfl,fun j hj hjt=>?_,?_⟩ (by rw[hfl])
 ·obtain⟨o,ho⟩:=B5 hok hk;exact .inr ho.un
 ·obtain⟨o,ho⟩:=B5 hok hj;rw[ho.un]at hjt;cases hjt
 have:live is R (fun _=>undef) (HR is cs fun j=>decide (bl[j]? = some true))=live is R (fun _=>undef) fun _=>false:=CD fun j hj=>by
  obtain⟨o,ho⟩:=B5 hok hj;exact⟨by simp[HR,ho.un],fun _=>rfl⟩
 rw[this,KH];exact hu
end
section
variable {P:Program} {ro:Option Nat} {n0:Nat} {w0:World} {ds:List Deferred} {ops:Array Oper} {Q:Exit->Act->World->Prop} {L:List SA} {rest:List Oper} {l:List Value} {ty:TypeId} {ps:String} {af:Array Edge}
theorem WS.append0 {e:TypeId} {size i m:Nat} {x:Operand} {z:Value} {news:List Value} (hT:sl P T=some (e,size,by_)) (hz:zv P e=some zc) (hzl:zc.length=size) (hs0:0<size)
  (hx:evo l x=some (v)) (hj:L[j]? = some (osl e size v 0 [])) (hy:evo l y=some (z)) (hnews:∀u,St n0 w0 L u->SlC u z m size news) (h1:∀a∈news,a.oneCell'=true)
  (hm:m<=9223372036854775807) (hb:m*by_<=140737488355328)
   (hl:∀v,lset l i v=some (l' v)) {L':Value->List SA} (hL:∀v',lset L j (osl e size v' m news)=some (L' v')) (k:∀v',WS P ro n0 w0 ds ops Q (L' v') rest (l' v')):
  WS P ro n0 w0 ds ops Q L (⟨some i,.call ⟨.builtin .append,#[x,y],#[T,T]⟩,ty,ps,af,none⟩::rest) l:=
 WS.append (xs:=[]) hT hz hzl hs0 hx hj hy hnews h1 (by rw[Nat.zero_add];exact hm) (by rw[Nat.zero_add];exact hb) hl (fun v'=>by rw[Nat.zero_add,List.nil_append];exact hL v') k
end
variable {R:Ending->World->Prop}
section
variable {P:Program} {n0:Nat} {w0:World} {L:List SA} {l:List Value} {fn:Func}
theorem outR (hr:Res P fn l L n0 w0 v) (hR:∀u,St n0 w0 L u->R (.returned v) u):QS n0 w0 [] (bodyPost P fn R) .ret L l:=fun u hu=>⟨rfl,_,hr u hu,hR u hu⟩
theorem Ag {b t:Nat} {e:TypeId} {c:List Value} (ht:l[t]? = some (.pointer (some ⟨b,0,none⟩))) (hj:L[j]? = some (blk b c e)) (hT:tk P ty=some (true,c.length)):
  Rv P n0 w0 L l b t ty (.agg c.toArray):=⟨ht,fun u hu=>by
 have:=run_loadCells_list (P:=P) u ⟨b,0,none⟩ c fun j v h=>by rw[BJ,BT (hu.blk hj).2];simpa using h
 simp[loadVar,(CV hT u).1,(CV hT u).2,this]⟩
theorem B9 {b t t2 t3:Nat} {v2 v3:Value} (h:fn.results = #[.cell t ty,.tmp t2,.tmp t3]) (h1:Rv P n0 w0 L l b t ty v) (h2:l[t2]? = some v2) (h3:l[t3]? = some v3):Res P fn l L n0 w0 (.tuple #[v,v2,v3]):=fun u hu=>by
 obtain⟨a1,a2⟩:=T8 h1 hu;simp only[results,h];simp[Sem.run_bind,Result.andThen,a1,a2,h2,h3]
end
section
variable {P:Program} {ro:Option Nat} {n0:Nat} {w0:World} {ds:List Deferred} {ops:Array Oper} {Q:Exit->Act->World->Prop} {L:List SA}
 {rest:List Oper} {l:List Value} {C:World->Prop} {s:Nat}
theorem AZ.firstP {i:Nat} {oi:Oper} (hi:ops[i]? = some oi) (hcalm:Bh ops=true) (his:(i == s)=false):
  ∀(fuel:Nat) (listed:Array Bool) (a:Act) (w:World),
   (∀j oj,ops[j]? = some oj->j≠i->listed.getD j true=false->(∀e∈oj.after,Region.binds .any e=true->e.on≠i)->oi.apart ops oj=true)->
   i∈Region.ready .any ops listed->Yc P ops (fun _=>True) oi v a->
   AZ P ro ops (NP ops Q) C s fuel (listed.setIfInBounds i true) (a.put oi.dst v) w->AZ P ro ops (NP ops Q) C s (fuel+1) listed a w:=by
 have hci:=CP hcalm i oi hi;intro fuel
 induction fuel with
 |zero=>
  intro listed a w _ hr hy H u hu;have Hu:=H.ext hu;refine⟨fun h=>Hu.holds (by rw[getD_set_ne true (by simpa using his)];exact h),fun h=>(by rw[h]at hr;cases hr),fun j hj=>?_⟩
  by_cases hji:j=i
  ·subst hji;exact hy.opIn hi hci trivial fun u' hu'=>Hu.ext hu'
  have:=ready_mono hj hji;rw[(H u hu).2.1]at this;cases this
 |succ fuel ih=>
  intro listed a w hfree hr hy H u hu;have Hu:=H.ext hu;refine⟨fun h=>Hu.holds (by rw[getD_set_ne true (by simpa using his)];exact h),fun h=>(by rw[h]at hr;cases hr),fun j hj=>?_⟩
  by_cases hji:j=i
  ·subst hji;exact hy.opIn hi hci trivial fun u' hu'=>Hu.ext hu'
  have h1:=(H u hu).2.2 j (ready_mono hj hji);obtain⟨hjun,oj,hoj,hall⟩:=mem_ready.1 hj
  have hnot:∀e∈oj.after,Region.binds .any e=true->e.on≠i:=fun e he hb heq=>by
   have h1:=hall e he hb;have h0:=(mem_ready.1 hr).1;rw[heq]at h1;rcases Nat.lt_or_ge i listed.size with h'|h'
   ·simp[h']at h0 h1;rw[h0]at h1;cases h1
   simp[Array.getElem?_eq_none h']at h1
  have h2:=FI (Ij hi) hoj (hfree j oj hoj hji hjun hnot) hcalm hci hy h1
  have hfree':∀k ok,ops[k]? = some ok->k≠i->(listed.setIfInBounds j true).getD k true=false->
    (∀e∈ok.after,Region.binds .any e=true->e.on≠i)->oi.apart ops ok=true:=fun k ok hk hki hun hno=>by
   refine hfree k ok hk hki ?_ hno
   by_cases hjk:j=k
   ·subst hjk;exact hjun
   rw[getD_set_ne true hjk]at hun;exact hun
  refine wpOpIn_mono (fun a' w' h3=>ih (listed.setIfInBounds j true) a' w' hfree' (ready_mono hr (Ne.symm hji)) h3.1 ?_) h2;rw[Array.setIfInBounds_comm _ _ hji];exact h3.2
theorem AT.takeP {bl bl':List Bool} {l':List Value} (i:Nat) {oi:Oper} {d:Nat} (hi:ops[i]? = some oi) (hcalm:Bh ops=true) (his:(i == s)=false) (hf:Region.free .any ops bl.toArray i=true) (hr:(Region.ready .any ops bl.toArray).contains i=true)
  (hd:oi.dst=some d) (hg:oi.guard=none) (h:Det P (fun _=>True) oi l v) (hb:lset bl i true=some bl') (hl:lset l d v=some l') (k:AT P ro n0 w0 ds ops Q C s L fuel bl' l'):
  AT P ro n0 w0 ds ops Q C s L (fuel+1) bl l:=fun u hu=>by
 rw[<-Aq hb,<-Aq hl]at k;refine AZ.firstP hi hcalm his fuel _ _ u (Region.free_spec hi hf) (by simpa using hr) (v:=v) (.inl ⟨by simp[Region.wanted,hg],?_⟩) ?_
 ·intro w hw;rw[BA];exact h w hw
 rw[hd,AL];have:=k u hu
 simpa using this
end
variable {q:Prop} {ch:List PanicEntry}
variable {want:Bool}
section
variable {P:Program} {ro:Option Nat} {n0:Nat} {w0:World} {ds:List Deferred} {ops:Array Oper} {Q:Exit->Act->World->Prop} {L:List SA}
 {rest:List Oper} {l:List Value} {d:Option Tmp} {ty:TypeId} {ps:String} {af:Array Edge} {g:Option (Nat×Bool)}
theorem WS.callP {f:Operand} {v:β->Value} {Lp:List SA} {p:β->Prop} {d:Option Tmp} {l':β->List Value}
  (hf:evo l f=some (.func (.func fn) #[] cap.toArray)) (hv:evs l args=some vs) (he:Ent P fn)
  (hc:∀u,St n0 w0 L u->Calls P fn (vs++cap).toArray u (fun e u'=>(∃x,p x/\e = .returned (v x)/\St n0 w0 (L' x) u')\/(q/\e = .panicked ch/\St n0 w0 Lp u')))
  (hl:∀x,(match d with|some i=>lset l i (v x)|none=>some l)=some (l' x)) (hp:q->∀u,St n0 w0 Lp u->Q (.panic ch) ⟨l.toArray,ds⟩ u)
  (k:∀x,p x->WS P ro n0 w0 ds ops Q (L' x) rest (l' x)):
  WS P ro n0 w0 ds ops Q L (⟨d,.call ⟨.value f,args.toArray,ts⟩,ty,ps,af,none⟩::rest) l:=by
 intro u hu;unfold wpListIn;rw[if_pos (by simp[Region.wanted])];refine⟨fun _ _=>trivial,?_⟩;rw[Bl rfl,BA]
 have hr:(execOp (ev l) ⟨d,.call ⟨.value f,args.toArray,ts⟩,ty,ps,af,none⟩).run P u = .ok (.enter fn (vs++cap).toArray) u:=by
  have h1:∀(args:Array Value) (w:World),Sem.run P (callFunc fn args) w = .ok (.enter fn args) w:=he;replace hf:=Am hf;replace hv:=Fi hv;subst hv;simp[execOp,hf,resolve,invoke,Deferred.ofValue,h1]
 rw[hr];refine⟨fun h=>by simp[FW]at h,CE ((hc u hu).mono ?_)⟩;rintro e u' (⟨x,hpx,rfl,hS⟩|⟨hq,rfl,hS⟩)
 ·show wpListIn (FW ro) 0 P ops Q rest ((Act.mk l.toArray ds).put d (v x)) u';have h2:=hl x;cases d with
  |some i=>
   rw[AL,Aq h2];exact k x hpx u' hS
  |none=>
   rw[VS];have h3:=Option.some.inj h2;rw[h3];exact k x hpx u' hS
 exact hp hq u' hS
theorem WS.callPg {f:Operand} {v:β->Value} {Lp:List SA} {p:β->Prop} {i:Nat} {l':β->List Value}
  (hw:yielded ops l.toArray j=some want)
  (hf:evo l f=some (.func (.func fn) #[] cap.toArray)) (hv:evs l args=some vs) (he:Ent P fn)
  (hc:∀u,St n0 w0 L u->Calls P fn (vs++cap).toArray u (fun e u'=>(∃x,p x/\e = .returned (v x)/\St n0 w0 (L' x) u')\/(q/\e = .panicked ch/\St n0 w0 Lp u')))
  (hl:∀x,lset l i (v x)=some (l' x)) (hp:q->∀u,St n0 w0 Lp u->Q (.panic ch) ⟨l.toArray,ds⟩ u)
  (k:∀x,p x->WS P ro n0 w0 ds ops Q (L' x) rest (l' x)):
  WS P ro n0 w0 ds ops Q L (⟨some i,.call ⟨.value f,args.toArray,ts⟩,ty,ps,af,some (j,want)⟩::rest) l:=by
 intro u hu;unfold wpListIn;rw[if_pos (by simp[Region.wanted,hw])];refine⟨fun _ _=>trivial,?_⟩;rw[Bl rfl,BA]
 have hr:(execOp (ev l) ⟨some i,.call ⟨.value f,args.toArray,ts⟩,ty,ps,af,some (j,want)⟩).run P u = .ok (.enter fn (vs++cap).toArray) u:=by
  have h1:∀(args:Array Value) (w:World),Sem.run P (callFunc fn args) w = .ok (.enter fn args) w:=he;replace hf:=Am hf;replace hv:=Fi hv;subst hv;simp[execOp,hf,resolve,invoke,Deferred.ofValue,h1]
 rw[hr];refine⟨fun h=>by simp[FW]at h,CE ((hc u hu).mono ?_)⟩;rintro e u' (⟨x,hpx,rfl,hS⟩|⟨hq,rfl,hS⟩)
 ·show wpListIn (FW ro) 0 P ops Q rest ((Act.mk l.toArray ds).put (some i) (v x)) u';rw[AL,Aq (hl x)];exact k x hpx u' hS
 exact hp hq u' hS
end
variable {os:List Oper}
section
variable {P:Program} {ro:Option Nat} {n0:Nat} {w0:World} {ds:List Deferred} {ops:Array Oper} {Q:Exit->Act->World->Prop} {L:List SA} {l:List Value} {C C':World->Prop}
theorem CS.drawnTillC (s:Nat) (C:World->Prop) {id:Nat} {bl:List Bool} (hm:P.follows .mixedOrders=true) (hk:os.length=k) (hb:List.replicate k false=bl) (h:AT P ro n0 w0 ds os.toArray Q C s L k bl l):
  CS P ro n0 w0 ds (.region id os.toArray true) Q L l:=by subst hb;exact CS.drawnZ s C hm hk h
theorem AZ.le {s:Nat} (hC:∀u,C' u->C u):∀{fuel:Nat} {listed:Array Bool} {a:Act} {w:World},AZ P ro ops Q C' s fuel listed a w->AZ P ro ops Q C s fuel listed a w
 |0,_,_,_,h=>fun u hu=>⟨fun hs=>hC u ((h u hu).1 hs),(h u hu).2⟩
 |_+1,_,_,_,h=>fun u hu=>⟨fun hs=>hC u ((h u hu).1 hs),(h u hu).2.1,fun i hi=>wpOpIn_mono (fun _ _ h=>AZ.le hC h) ((h u hu).2.2 i hi)⟩
theorem AT.le {s:Nat} {bl:List Bool} (C':World->Prop) (hC:∀u,C' u->C u) (k:AT P ro n0 w0 ds ops Q C' s L fuel bl l):AT P ro n0 w0 ds ops Q C s L fuel bl l:=fun u hu=>AZ.le hC (k u hu)
theorem DD {p:β->Prop} {Lf:β->List SA} {o:Oper} (h:∀b,p b->Det P (St n0 w0 (Lf b)) o l v):Det P (fun u=>∃b,p b/\St n0 w0 (Lf b) u) o l v:=fun u ⟨b,hb,hu⟩=>h b hb u hu
theorem C5 {x:Operand} (hT:P.underlying T=some .string) (hx:evo l x=some (.string a)) (hy:evo l y=some (.int .i64 i))
  (h:0<=i/\i<=a.size):Det P C ⟨d,.slice T x none (some y) none,ty,ps,af,g⟩ l (.string (a.extract 0 i.toNat)):=fun u _=>by
 (replace hx:=Am hx;replace hy:=Am hy)
 have e2:0<=max i 0:=by omega
 simp[execOp,Ap,hx,hy,Instr.sliceAt,Instr.slice,Instr.sliceBounds,Instr.sliceBound,asIntOf,run_underlying hT,h.1,h.2,e2]
end
def RetX (w:World) (R:SA) (ch:List PanicEntry) (p:β->Prop) (q:Prop) (v:β->Value) (A:β->SA):Ending->World->Prop:=fun e u'=>
 (∃x,p x/\e = .returned (v x)/\St w.heap.size w [A x,R] u')\/(q/\e = .panicked ch/\St w.heap.size w [R] u')
variable {n0:Nat}
theorem Calls.two {f:FuncId} {args:List Value} (hu:St n0 w0 L u)
  (ht:b=true->Calls P f args.toArray u fun e w'=>w'=u/\e = .returned (.tuple #[])) (hf:b=false->Calls P f args.toArray u fun e w'=>w'=u/\e = .panicked ch):
  Calls P f args.toArray u (fun e u'=>(∃x:Unit,b=true/\e = .returned (.tuple #[])/\St n0 w0 L u')\/(b=false/\e = .panicked ch/\St n0 w0 L u')):=by
 cases b with
 |true=>
  refine(ht rfl).mono ?_;rintro e w' ⟨rfl,rfl⟩;exact .inl ⟨(),rfl,rfl,hu⟩
 |false=>
  refine(hf rfl).mono ?_;rintro e w' ⟨rfl,rfl⟩;exact .inr ⟨rfl,rfl,hu⟩
def dfr (fn:FuncId) (cap:List Value):Deferred:={target:=.fn (.func fn) cap.toArray,args:=#[]}
theorem RH {fn:Func} {f:FuncId} {tmps:Array Value} {m:FrameMode} (hm:m≠.run) (he:Ent P f)
  (h:CallsD P f cap.toArray m w fun e u' w'=>∃v,e = .returned v/\settle u' = .returning/\∃x,(results fn tmps).run P w' = .ok x w'/\R (.returned x) w'):Leaves P fn tmps R [dfr f cap] m w:=by
 refine leaves_cons hm (f:=f) (args:=cap.toArray) ?_ (h.mono ?_)
 ·have:=he cap.toArray w
  simpa [invoke]using this
 rintro e u' w' ⟨v,rfl,h2,x,h3,h4⟩;show Leaves P fn tmps R [] (settle u') w';rw[h2];exact⟨x,h3,h4⟩
section
variable {P:Program} {ro:Option Nat} {n0:Nat} {w0:World} {ds:List Deferred} {ops:Array Oper} {Q:Exit->Act->World->Prop} {L:List SA}
 {rest:List Oper} {l:List Value} {ty:TypeId} {ps:String} {af:Array Edge}
theorem Jas {f:FuncId} {fn:Func} {c:Code} {args:List Value} (hu:St n0 w0 L u) (hf:P.funcs[f]? = some fn) (hb:fn.body=some c)
  (hl:frame args fn.ntmps=some l) (hn:args.length<=fn.ntmps) (h:CS P none n0 w0 [] c (bodyPostD P fn R) L l):Calls P f args.toArray u R:=by
 refine calls_of_wp_defers hf hb ((wpIn_wide (n:=0)).1 ?_);have:=h u hu;rw[<-Gm hl hn,M2]at this;exact this
theorem WS.defer {f:Operand} (hf:evo l f=some (.func (.func fn) #[] cap.toArray)) (k:WS P none n0 w0 (dfr fn cap::ds) ops Q L rest l):
  WS P none n0 w0 ds ops Q L (⟨none,.defer ⟨.value f,#[],#[]⟩,ty,ps,af,none⟩::rest) l:=by
 intro u hu;unfold wpListIn;rw[if_pos (by simp[Region.wanted])];refine⟨fun _ _=>trivial,?_⟩;rw[show(FW none).round=none from rfl,Oper.semAt_none,BA]
 have hr:(execOp (ev l) ⟨none,.defer ⟨.value f,#[],#[]⟩,ty,ps,af,none⟩).run P u = .ok (.defer (dfr fn cap)) u:=by
  replace hf:=Am hf;simp[execOp,hf,resolve,Deferred.ofValue,dfr]
 rw[hr];exact k u hu
theorem outD {fn:Func} {f:FuncId} (he:Ent P f) (hc:∀u,CallsD P f cap.toArray .returning u fun e u' w'=>e = .returned (.tuple #[])/\u' = .returning/\w'=u)
  (hr:Res P fn l L n0 w0 v) (hR:∀u,St n0 w0 L u->R (.returned v) u):QS n0 w0 [dfr f cap] (bodyPostD P fn R) .ret L l:=fun u hu=>by
 refine RH (by simp) he ((hc u).mono ?_);rintro e u' w' ⟨rfl,rfl,rfl⟩;exact⟨_,rfl,rfl,v,hr _ hu,hR _ hu⟩
theorem panD {fn:Func} {f:FuncId} {t b:Nat} {Tb e4:TypeId} {x:Value} {e1:TypeId} {chr:List PanicEntry} {a:Act} (ha:a.defers=[dfr f [.pointer (some ⟨b,0,none⟩)]])
  (ht:a.tmps[t]? = some (.pointer (some ⟨b,0,none⟩))) (he:Ent P f) (hs:settle (.panicking chr) = .returning)
  (hc:∀w:World,(w.alloc (.cells #[] e1)).cell? ⟨b,0,none⟩=some x->(w.alloc (.cells #[] e1)).frozen? ⟨b,0,none⟩=false->CallsD P f #[.pointer (some ⟨b,0,none⟩)] (.panicking ch) w fun e u' w'=>e = .returned (.tuple #[])/\u' = .panicking chr/\w'=(w.alloc (.cells #[] e1)).setCell ⟨b,0,none⟩ v)
  (hr:fn.results = #[.cell t Tb]) (hT:tk P Tb=some (false,k)) (hu:St n0 w0 (blk b [x] e4::L) u) (hR:∀u,St n0 w0 L u->R (.returned v) u):bodyPostD P fn R (.panic ch) a u:=by
 have h1:St n0 w0 (blk b [x] e4::L) (u.alloc (.cells #[] e1)):=hu.ext ((Below.refl _ u).alloc (Nat.le_refl _) _);have hb1:=(h1.blk (j:=0) rfl).2;have h2:St n0 w0 (blk b [v] e4::L) ((u.alloc (.cells #[] e1)).setCell ⟨b,0,none⟩ v):=h1.store (j:=0) rfl 0 v;show Leaves P fn a.tmps R a.defers (.panicking ch) u;rw[ha];refine RH (by simp) he ((hc u (BT hb1 0) ?_).mono ?_)
 ·simp[World.frozen?,hb1]
 rintro e u' w' ⟨rfl,rfl,rfl⟩;refine⟨_,rfl,hs,v,?_,hR _ (h2.erase 0)⟩;have h3:((u.alloc (.cells #[] e1)).setCell ⟨b,0,none⟩ v).cell? ⟨b,0,none⟩=some v:=BT (h2.blk (j:=0) rfl).2 0;simp only[results,hr];simp[Sem.run_bind,Result.andThen,ht,asAddr,loadVar,(CV hT _).1,h3]
end
abbrev P3:=List Int×List Int×List Int
def Stt.x (z:Stt):P3:=(z.ths.l,z.prs.l,z.pls.l)
def no3:P3:=([],[],[])
def RetS (w:World) (x:P3) (f:Value->Value):Ending->World->Prop:=fun e w'=>∃z:Stt,(z.x=x/\∃u0,SttOk u0 z)/\RetF w (f (.agg #[z.ths.v,z.prs.v,z.pls.v])) (roS fun u=>SttOk u z) e w'
def E8 (n:Nat) (c:List Lit):Prop:=∀x∈c,0<=x.t/\x.t<n
def autoI (aus:List Auto) (ths:List Int):Int:=idxF (fun a=>DT ths a.wh.l&&!decide (nth ths a.t=a.s)) aus
def settleN (aus:List Auto):Nat->List Int->Option (List Int)
 |0,_=>none
 |n+1,ths=>if autoI aus ths<0 then some ths else settleN aus n (ths.set (nth aus (autoI aus ths)).t.toNat (nth aus (autoI aus ths)).s)
def GM (aus:List Auto) (n:Nat):Prop:=∀a∈aus,(0<=a.t/\a.t<n)/\E8 n a.wh.l
theorem PE {aus:List Auto} {ths:List Int} (h:¬autoI aus ths<0):0<=autoI aus ths/\autoI aus ths<aus.length:=by
 refine⟨by omega,?_⟩;unfold autoI idxF at*;split at h
 ·rename_i i hi;have:=(List.findIdx?_eq_some_iff_findIdx_eq.1 hi).1;omega
 omega
def settleV (r:Room) (x:P3):Option P3:=(settleN r.aus.l 101 x.1).map fun t=>(t,x.2.1,x.2.2)
structure ActIn (r:Room) (a:Actn):Prop where
 wh:E8 r.ths.l.length a.wh.l
 pl:0<=a.pl/\a.pl<r.pls.l.length
 us:∀x∈a.us.l,0<=x/\x<r.prs.l.length
 sp:∀x∈a.sp.l,0<=x/\x<r.prs.l.length
 br:∀x∈a.br.l,0<=x/\x<r.prs.l.length
 se:∀x∈a.se.l,putB r.ths.l x.t x.s=true
 lus:a.us.l.length<=r.prs.l.length
 lsp:a.sp.l.length<=r.prs.l.length
 lbr:a.br.l.length<=r.prs.l.length
 lse:a.se.l.length<=6
structure Ready (r:Room):Prop where
 ply:1<=r.ply/\r.ply<=4
 lens:1<=r.pls.l.length/\r.pls.l.length<=8/\r.ths.l.length<=12/\r.prs.l.length<=10/\r.wys.l.length<=16/\r.acs.l.length<=24/\r.aus.l.length<=12
 ths:∀x∈r.ths.l,thB r x=true
 aus:GM r.aus.l r.ths.l.length
 aut:∀a∈r.aus.l,putB r.ths.l a.t a.s=true
 prs:∀p∈r.prs.l,E8 r.ths.l.length p.wh.l/\(p.pl = -1\/placeB r p.pl=true)
 wys:∀x∈r.wys.l,E8 r.ths.l.length x.wh.l/\(0<=x.a/\x.a<r.pls.l.length)/\(0<=x.b/\x.b<r.pls.l.length)
 acs:∀a∈r.acs.l,ActIn r a
 gl:E8 r.ths.l.length r.gl.l
variable {ths:List Thing}
theorem K2 {a b:Int} (h:putB ths a b=true):0<=a/\a<ths.length:=by
 simp only[putB,Bool.and_eq_true,decide_eq_true_eq]at h;omega
theorem Ht {n:Int} (h:placeB r n=true):0<=n/\n<r.pls.l.length:=by
 simp only[placeB,Bool.and_eq_true,decide_eq_true_eq]at h;omega
theorem Ft {c:List Lit} (h:FD ths c=true):E8 ths.length c:=fun x hx=>by
 simp only[FD,Bool.and_eq_true,List.all_eq_true]at h;exact K2 (h.1 x hx)
theorem Q4 {c:List Lit} (h:whO r c=0):FD r.ths.l c=true:=by
 unfold whO at h;split at h
 ·assumption
 cases h
theorem ite0 {k:Int} (hk:k≠0) (h:(if b=true then(0:Int)else k)=0):b=true:=by
 split at h
 ·assumption
 exact(hk h).elim
theorem F4 {l:List Int} (h:ascB n l=true):∀x∈l,0<=x/\x<n:=fun x hx=>by
 obtain⟨i,h0,h1,rfl⟩:=Bz hx;have:=Hx h h0 h1;simp only[Bool.and_eq_true,decide_eq_true_eq]at this;omega
theorem R8 {n:Nat} {l:List Int} (h:ascB n l=true):∀k:Nat,k<l.length->(k:Int)<=nth l k
 |0,hk=>(F4 h _ (Ai (by omega) (by omega))).1
 |k+1,hk=>by
  have h1:=R8 h k (by omega);have h2:=Hx h (i:=((k+1:Nat):Int)) (by omega) (by omega);simp only[Bool.and_eq_true,Bool.or_eq_true,decide_eq_true_eq]at h2;rw[show((k+1:Nat):Int)-1=(k:Int) by omega]at h2;omega
theorem Kd {l:List Int} (h:ascB n l=true):l.length<=n:=by
 by_cases hl:l.length=0
 ·omega
 have h1:=R8 h (l.length-1) (by omega);have h2:=(F4 h _ (Ai (xs:=l) (i:=((l.length-1:Nat):Int)) (by omega) (by omega))).2;omega
theorem D0 (h:checkE r=0):Ready r:=by
 obtain⟨hm,h2⟩:=Iq h;obtain⟨hpl,h3⟩:=B1 h2;obtain⟨hth,h4⟩:=B1 h3;obtain⟨hpr,h5⟩:=B1 h4;obtain⟨hwy,h6⟩:=B1 h5;obtain⟨hac,h7⟩:=B1 h6;obtain⟨hau,hgl⟩:=B1 h7
 have hl:¬r.pls.l.length=0:=fun h0=>by
  unfold checkE at h;rw[hm,if_neg (by decide),if_pos h0]at h;cases h
 refine⟨I9 h,?_,fun x hx=>?_,fun a ha=>?_,fun a ha=>?_,fun p hp=>?_,fun x hx=>?_,fun a ha=>?_,Ft (Q4 (B1 hgl).2)⟩
 ·simp only[manyB,Bool.or_eq_false_iff,decide_eq_false_iff_not]at hm;omega
 ·obtain⟨i,h0,h1,rfl⟩:=Bz hx;have:=ite0 (by decide) (Bj hth i h0 h1);simp only[Bool.and_eq_true]at this;exact this.2.2
 ·obtain⟨i,h0,h1,rfl⟩:=Bz ha;have:=B1 (Bj hau i h0 h1);exact⟨K2 (ite0 (by decide) this.1),Ft (Q4 this.2)⟩
 ·obtain⟨i,h0,h1,rfl⟩:=Bz ha;have:=B1 (Bj hau i h0 h1);exact ite0 (by decide) this.1
 ·obtain⟨i,h0,h1,rfl⟩:=Bz hp;have:=B1 (Bj hpr i h0 h1);refine⟨Ft (Q4 this.2),?_⟩;have:=ite0 (by decide) this.1;simp only[Bool.and_eq_true,Bool.or_eq_true,decide_eq_true_eq]at this;exact this.2.2
 ·obtain⟨i,h0,h1,rfl⟩:=Bz hx;have:=B1 (Bj hwy i h0 h1);have h8:=ite0 (by decide) this.1;simp only[Bool.and_eq_true]at h8;exact⟨Ft (Q4 this.2),Ht h8.1,Ht h8.2.1⟩
 obtain⟨i,h0,h1,rfl⟩:=Bz ha;have:=B1 (Bj hac i h0 h1);have h8:=ite0 (by decide) this.1;simp only[actB,act2,Bool.and_eq_true,decide_eq_true_eq]at h8;obtain⟨_,⟨_,hp,_,hu,hs,hb,hse⟩,_,_,h5⟩:=h8;refine⟨Ft (Q4 this.2),Ht hp,F4 hu,F4 hs,F4 hb,fun x hx=>?_,Kd hu,Kd hs,Kd hb,by omega⟩;obtain⟨k,a0,a1,rfl⟩:=Bz hx;have:=Hx h5 a0 a1;simp only[Bool.and_eq_true]at this;exact this.1
structure StIn (r:Room) (x:P3):Prop where
 lt:x.1.length=r.ths.l.length
 lp:x.2.1.length=r.prs.l.length
 ll:(x.2.2.length:Int)=r.ply
 th:∀i:Int,0<=i->i<x.1.length->putB r.ths.l i (nth x.1 i)=true
 pr:∀i:Int,0<=i->i<x.2.1.length->(placeB r (nth x.2.1 i)||(decide (nth x.2.1 i = -1)||(decide (-2-r.ply+1<=nth x.2.1 i)&&decide (nth x.2.1 i<=-2))))=true
 pl:∀i:Int,0<=i->i<x.2.2.length->placeB r (nth x.2.2 i)=true
def stL (r:Room) (x:P3):Int:=or0 (checkE r) (stE r x.1 x.2.1 x.2.2)
theorem Jbn {x:P3}:stE r x.1 x.2.1 x.2.2=0↔StIn r x:=by
 constructor
 ·intro h;unfold stE at h;split at h
  ·rename_i hl;simp only[Bool.and_eq_true,decide_eq_true_eq]at hl;obtain⟨h1,h2⟩:=B1 h;obtain⟨h2,h3⟩:=B1 h2;exact⟨hl.1,hl.2.1,hl.2.2,fun i h0 hi=>ite0 (by decide) (Bj h1 i h0 hi),fun i h0 hi=>ite0 (by decide) (Bj h2 i h0 hi),fun i h0 hi=>ite0 (by decide) (Bj h3 i h0 hi)⟩
  cases h
 intro h;unfold stE;have e1:A7 (I7 r x.1) x.1.length=0:=Ay fun i a b=>if_pos (h.th i a b);have e2:A7 (I3 r x.2.1) x.2.1.length=0:=Ay fun i a b=>if_pos (h.pr i a b);have e3:A7 (I1 r x.2.2) x.2.2.length=0:=Ay fun i a b=>if_pos (h.pl i a b);rw[if_pos (by simp only[Bool.and_eq_true,decide_eq_true_eq];exact⟨h.lt,h.lp,h.ll⟩),e1,Bx rfl,e2,Bx rfl,e3]
theorem E4 {x:P3}:stL r x=0↔checkE r=0/\StIn r x:=by
 rw[<-Jbn];constructor
 ·exact B1
 rintro⟨h1,h2⟩;unfold stL;rw[Bx h1,h2]
theorem StIn.small {x:P3} (h:StIn r x) (hr:Ready r):x.1.length<=1000000/\x.2.1.length<=1000000/\x.2.2.length<=1000000:=by
 have:=h.lt;have:=h.lp;have:=h.ll;have:=hr.lens;have:=hr.ply;omega
theorem StIn.autos {x:P3} (h:StIn r x) (hr:Ready r):GM r.aus.l x.1.length:=by rw[h.lt];exact hr.aus
def ansS (r:Room) (o:Option P3):Int×P3:=match o with|some y=>(0,y)|none=>(27,no3)
def SettleV (r:Room) (x:P3):Int×P3:=if stL r x=0 then ansS r (settleV r x)else(stL r x,no3)
def HoldsV (r:Room) (x:P3) (c:List Lit):Int×Bool:=if stL r x=0 then if FD r.ths.l c=true then(0,DT x.1 c)else(25,false)else(stL r x,false)
def CX (r:Room):P3:=(r.ths.l.map Thing.sr,r.prs.l.map Pro.pl,List.replicate r.ply.toNat 0)
def BeginV (r:Room):Int×P3:=if checkE r=0 then SettleV r (CX r)else(checkE r,no3)
theorem SttOk.ones {z:Stt} (h:SttOk w z):z.ths.v.oneCell'=true/\z.prs.v.oneCell'=true/\z.pls.v.oneCell'=true:=⟨Sl.one h.ths,Sl.one h.prs,Sl.one h.pls⟩
theorem Es [Inhabited α] {xs:List α} {s:Int} (h0:0<=s) (h1:s<xs.length):xs.take (s+1).toNat=xs.take s.toNat++[nth xs s]:=by
 have h2:s.toNat<xs.length:=by omega
 rw[show(s+1).toNat=s.toNat+1 by omega,List.take_succ_eq_append_getElem h2];have:nth xs s=xs[s.toNat]:=by simp[nth,List.getD,h2]
 rw[this]
theorem MB {xs:List Int} {v s:Int} (h0:0<=s) (h1:s<xs.length):cnt (xs.take (s+1).toNat) v=cnt (xs.take s.toNat) v+(if nth xs s=v then 1 else 0):=by
 rw[Es h0 h1,D9]
def goB (r:Room) (x:P3) (m:Move):Bool:=((decide (0<=m.n)&&decide (m.n<=r.wys.l.length-1))&&(decide ((nth r.wys.l m.n).a=nth x.2.2 m.p)||decide ((nth r.wys.l m.n).b=nth x.2.2 m.p)))&&DT x.1 (nth r.wys.l m.n).wh.l
def Q7 (r:Room) (x:P3) (m:Move):Bool:=(((decide (0<=m.n)&&decide (m.n<=r.prs.l.length-1))&&decide (nth x.2.1 m.n=nth x.2.2 m.p))&&DT x.1 (nth r.prs.l m.n).wh.l)&&decide (cnt x.2.1 (-2-m.p)<3)
def QF (r:Room) (x:P3) (m:Move):Bool:=(decide (0<=m.n)&&decide (m.n<=r.prs.l.length-1))&&decide (nth x.2.1 m.n = -2-m.p)
def Vz (x:P3) (a:Actn) (m:Move):Bool:=allI a.us.l.length fun k=>decide (nth x.2.1 (nth a.us.l k) = -2-m.p)
def TU (x:P3) (a:Actn):Bool:=allI a.br.l.length fun k=>decide (nth x.2.1 (nth a.br.l k) = -1)
def RZ (x:P3) (a:Actn) (m:Move):Bool:=(decide (a.pl=nth x.2.2 m.p)&&DT x.1 a.wh.l)&&decide (cnt x.2.1 (-2-m.p)-a.sp.l.length+a.br.l.length<=3)
def doB (r:Room) (x:P3) (m:Move):Bool:=(decide (0<=m.n)&&decide (m.n<=r.acs.l.length-1))&&(Vz x (nth r.acs.l m.n) m&&(TU x (nth r.acs.l m.n)&&RZ x (nth r.acs.l m.n) m))
def legalB (r:Room) (x:P3) (m:Move):Bool:=
 if(decide (0<=m.p)&&decide (m.p<=r.ply-1))=true then
  if m.k=1 then goB r x m else if m.k=2 then Q7 r x m else if m.k=3 then QF r x m else if m.k=4 then doB r x m else false
 else false
def CJ (v:Int) (l:List Int) (ps:List Int):List Int:=ps.foldl (fun l p=>l.set p.toNat v) l
def Fb (l:List Int) (ss:List Put):List Int:=ss.foldl (fun l s=>l.set s.t.toNat s.s) l
theorem DN {v:Int}:∀{ps l:List Int},(CJ v l ps).length=l.length
 |[],_=>rfl
 |p::ps,l=>by
  have:=DN (v:=v) (ps:=ps) (l:=l.set p.toNat v)
  simpa [CJ]using this
theorem GG:∀{ss:List Put} {l:List Int},(Fb l ss).length=l.length
 |[],_=>rfl
 |p::ps,l=>by
  have:=GG (ss:=ps) (l:=l.set p.t.toNat p.s)
  simpa [Fb]using this
theorem Iw {v:Int} {l ps:List Int} {s:Int} (h0:0<=s) (h1:s<ps.length):CJ v l (ps.take (s+1).toNat)=(CJ v l (ps.take s.toNat)).set (nth ps s).toNat v:=by
 rw[Es h0 h1,CJ,List.foldl_append];rfl
theorem Nk {l:List Int} {ps:List Put} {s:Int} (h0:0<=s) (h1:s<ps.length):Fb l (ps.take (s+1).toNat)=(Fb l (ps.take s.toNat)).set (nth ps s).t.toNat (nth ps s).s:=by
 rw[Es h0 h1,Fb,List.foldl_append];rfl
def moveX (r:Room) (x:P3) (m:Move):P3:=
 if m.k=1 then(x.1,x.2.1,x.2.2.set m.p.toNat ((nth r.wys.l m.n).a+(nth r.wys.l m.n).b-nth x.2.2 m.p))
 else if m.k=2 then(x.1,x.2.1.set m.n.toNat (-2-m.p),x.2.2)
 else if m.k=3 then(x.1,x.2.1.set m.n.toNat (nth x.2.2 m.p),x.2.2)
 else if m.k=4 then(Fb x.1 (nth r.acs.l m.n).se.l,CJ (-2-m.p) (CJ (-1) x.2.1 (nth r.acs.l m.n).sp.l) (nth r.acs.l m.n).br.l,x.2.2)
 else x
theorem HX {x:P3} {m:Move}:(moveX r x m).1.length=x.1.length/\(moveX r x m).2.1.length=x.2.1.length/\(moveX r x m).2.2.length=x.2.2.length:=by
 unfold moveX;split
 ·simp
 split
 ·simp
 split
 ·simp
 split
 ·simp[GG,DN]
 simp
def StepV (r:Room) (x:P3) (m:Move):Int×P3:=if stL r x=0 then if legalB r x m=true then ansS r (settleV r (moveX r x m))else(29,no3)else(stL r x,no3)
structure MoveIn (r:Room) (x:P3) (m:Move):Prop where
 p:0<=m.p/\m.p<x.2.2.length/\m.p<=3
 go:m.k=1->0<=m.n/\m.n<r.wys.l.length
 pr:m.k=2\/m.k=3->0<=m.n/\m.n<x.2.1.length
 ac:m.k=4->0<=m.n/\m.n<r.acs.l.length
theorem ND {x:P3} {m:Move} (hR:Ready r) (hI:StIn r x) (h:legalB r x m=true):MoveIn r x m:=by
 have hl:=hI.ll;have hp:=hI.lp;have hy:=hR.ply;unfold legalB at h;split at h
 ·rename_i h1;simp only[Bool.and_eq_true,decide_eq_true_eq]at h1;refine⟨by omega,fun hk=>?_,fun hk=>?_,fun hk=>?_⟩
  ·rw[if_pos hk]at h;simp only[goB,Bool.and_eq_true,decide_eq_true_eq]at h;omega
  ·rcases hk with hk|hk
   ·rw[if_neg (by omega),if_pos hk]at h;simp only[Q7,Bool.and_eq_true,decide_eq_true_eq]at h;omega
   rw[if_neg (by omega),if_neg (by omega),if_pos hk]at h;simp only[QF,Bool.and_eq_true,decide_eq_true_eq]at h;omega
  rw[if_neg (by omega),if_neg (by omega),if_neg (by omega),if_pos hk]at h;simp only[doB,Bool.and_eq_true,decide_eq_true_eq]at h;omega
 cases h
theorem StIn.at {x:P3} (hI:StIn r x) (h0:0<=i) (h1:i<x.2.2.length):0<=nth x.2.2 i/\nth x.2.2 i<r.pls.l.length:=Ht (hI.pl i h0 h1)
def oT (C:Cel α) (e:TypeId) (v:Value) (l:List α):SA:=osl e C.k v l.length (A1 C l)
section
variable {P:Program} {ro:Option Nat} {n0:Nat} {w0:World} {ds:List Deferred} {ops:Array Oper} {Q:Exit->Act->World->Prop} {L:List SA} {rest:List Oper} {l:List Value} {ty:TypeId} {ps:String} {af:Array Edge}
 {α:Type} {C:Cel α}
theorem WS.buildT1 (C:Cel α) {e:TypeId} {i:Nat} {x:Operand} {a:α} (hT:sl P T=some (e,C.k,by_)) (hz:zv P e=some zc) (hx:evo l x=some (.agg (C.cells a).toArray)) (hk:0<C.k/\C.k<=1000)
   (hl:∀v,lset l i v=some (l' v)) (kk:∀v,WS P ro n0 w0 ds ops Q (oT C e v [a]::L) rest (l' v)):
  WS P ro n0 w0 ds ops Q L (⟨some i,.buildSlice T 1 #[(0,x)],ty,ps,af,none⟩::rest) l:=by
 refine WS.buildSliceK (pl:=[(0,x)]) (rows:=[C.cells a]) (k:=C.k) hT hz (by simp[Am hx]) rfl (by omega) (by omega) (by simp[C.len]) hl fun v=>?_;exact kk v
theorem WS.appendT1 {e:TypeId} {i jz:Nat} {x:Operand} {z:Value} {a:α} {xs:List α} (hT:sl P T=some (e,C.k,by_)) (hz:zv P e=some zc) (hzl:zc.length=C.k) (hk:0<C.k)
  (hx:evo l x=some v) (hj:L[j]? = some (oT C e v xs)) (hy:evo l y=some z) (hjz:L[jz]? = some (oT C e z [a])) (h1:C.ok w a)
  (hm:xs.length+1<=9223372036854775807) (hb:(xs.length+1)*by_<=140737488355328)
   (hl:∀v,lset l i v=some (l' v)) {L':Value->List SA} (hL:∀v',lset L j (oT C e v' (xs++[a]))=some (L' v')) (k:∀v',v'.oneCell'=true->WS P ro n0 w0 ds ops Q (L' v') rest (l' v')):
  WS P ro n0 w0 ds ops Q L (⟨some i,.call ⟨.builtin .append,#[x,y],#[T,T]⟩,ty,ps,af,none⟩::rest) l:=by
 refine WS.append hT hz hzl hk hx hj hy (m:=1) (fun u hu=>BZ hu hjz) (fun b hb'=>?_) hm hb hl (L':=L') (fun v'=>?_) fun v'=>?_
 ·rw[Iv]at hb';exact C.one w a h1 b hb'
 ·rw[<-hL v',oT,FP];simp
 have hjl:=(List.getElem?_eq_some_iff.1 hj).1;have h2:=(Aq (hL v')).symm;refine WS.oc (j:=j) (v:=v') (e:=e) (k:=C.k) (n:=(xs++[a]).length) (xs:=A1 C (xs++[a])) (by rw[h2,List.getElem?_set_self hjl];rfl) (k v')
theorem Bk {e:TypeId} {xs:List α} (hu:St n0 w0 L u) (hj:L[j]? = some (oT C e v xs)) (hk:∀a∈xs,C.ok u a):SlT C u ⟨v,xs⟩:=⟨BZ hu hj,hk⟩
end
def Dm (p k:Int) (n:Nat):List Move:=(List.range n).map fun i:Nat=>(⟨p,k,(i:Int)⟩:Move)
def QI (p:Int):Nat->List Move
 |0=>[]
 |j+1=>QI p j++Dm p ((j:Int)+1) 24
def NF:Nat->List Move
 |0=>[]
 |q+1=>NF q++QI q 4
theorem L3 (p k:Int) (n:Nat):(Dm p k n).length=n:=by simp[Dm]
theorem Mb (p:Int):∀j,(QI p j).length=j*24
 |0=>rfl
 |j+1=>by simp[QI,Mb p j,L3];omega
theorem L4:∀q,(NF q).length=q*96
 |0=>rfl
 |q+1=>by simp[NF,L4 q,Mb];omega
theorem QD (p k:Int) {n:Int} (h0:0<=n):Dm p k (n+1).toNat=Dm p k n.toNat++[⟨p,k,n⟩]:=by
 rw[show(n+1).toNat=n.toNat+1 by omega];simp[Dm,List.range_succ];omega
def Bt (r:Room) (x:P3):List Move:=(NF r.ply.toNat).filter (legalB r x)
def LegalV (r:Room) (x:P3):Int×List Move:=if stL r x=0 then(0,Bt r x)else(stL r x,[])
def RetM (w:World) (x:List Move) (f:Value->Value):Ending->World->Prop:=fun e w'=>∃v:Value,(∃u0,SlT cMove u0 ⟨v,x⟩)/\RetF w (f v) (roT cMove ⟨v,x⟩) e w'
theorem retM {e:TypeId} {xs:List Move} {f:Value->Value} (hj:L[j]? = some (oT cMove e v xs)) (hu:St w0.heap.size w0 L u):RetM w0 xs f (.returned (f v)) u:=
 ⟨v,⟨u,Bk hu hj fun _ _=>trivial⟩,retR (fun S u h=>⟨Star.osl hj h,fun _ _=>trivial⟩) u hu⟩
theorem Jco {f:Value->Value} (hu:St w0.heap.size w0 L u):RetM w0 [] f (.returned (f (.slice none 0 0))) u:=
 ⟨_,⟨u,SlT.nil cMove u⟩,retR (fun S u h=>SlT.nil cMove u) u hu⟩
theorem RetF.toRo {A:SA} {p:World->Prop} (hp:∀S u,A.h S u->p u) {e:Ending} (h:RetF w v A e u):RetF w v (roS p) e u:=by
 obtain⟨h1,h2,T,h3,h4⟩:=h;exact⟨h1,h2,T,⟨fun u' hk=>hp T u' (A.loc T u u' h3 hk),fun k hS=>A.dom T u k h3 hS⟩,h4⟩
theorem RetF.now {p:World->Prop} {e:Ending} (h:RetF w v (roS p) e u):p u:=by
 obtain⟨_,_,T,h3,_⟩:=h;exact roS.now h3
theorem Pn [Inhabited α] (f:α->β) {s:Int} (h0:0<=s) (h1:s<l.length):(l.take s.toNat).map f++[f (nth l s)]=(l.take (s+1).toNat).map f:=by
 rw[Es h0 h1];simp
def Et (n:Nat):List Int:=(List.range n).map fun i:Nat=>(i:Int)
theorem LG {n:Int} (h0:0<=n):Et (n+1).toNat=Et n.toNat++[n]:=by
 rw[show(n+1).toNat=n.toNat+1 by omega];simp[Et,List.range_succ];omega
def filI (n:Int) (p:Int->Bool):List Int:=(Et n.toNat).filter p
theorem Xe {n:Int} {p:Int->Bool} (h0:0<=n) (h:p n=true):filI n p++[n]=filI (n+1) p:=by
 unfold filI;rw[LG h0,List.filter_append];simp[h]
theorem ZJ {n:Int} {p:Int->Bool} (h0:0<=n) (h:p n=false):filI n p=filI (n+1) p:=by
 unfold filI;rw[LG h0,List.filter_append];simp[h]
theorem PM {n:Int} {p:Int->Bool} (h:0<=n):((filI n p).length:Int)<=n:=by
 have:=List.length_filter_le p (Et n.toNat);unfold filI;simp[Et]at this⊢;omega
theorem StIn.held {x:P3} (hI:StIn r x) (h0:0<=i) (h1:i<x.2.1.length) (h2:nth x.2.1 i<=-2):0<=-2-nth x.2.1 i/\-2-nth x.2.1 i<x.2.2.length:=by
 have:=hI.pr i h0 h1;have h3:=hI.ll;simp only[placeB,Bool.or_eq_true,Bool.and_eq_true,decide_eq_true_eq]at this;omega
theorem VK (cur vs:List α) {m N:Nat} (h:m+vs.length<=N) (hN:N<=cur.length):(cur.take m++vs++cur.drop (m+vs.length)).take N=(cur.take N).take m++vs++(cur.take N).drop (m+vs.length):=by
 rw[List.take_take,Nat.min_eq_left (by omega),List.take_append,List.take_of_length_le (l:=cur.take m++vs) (by simp;omega)];congr 1;rw[List.length_append,List.length_take,Nat.min_eq_left (by omega),List.drop_take]
section
variable {P:Program} {ro:Option Nat} {n0:Nat} {w0:World} {ds:List Deferred} {ops:Array Oper} {Q:Exit->Act->World->Prop} {L:List SA} {rest:List Oper} {l:List Value} {d:Option Tmp} {ty:TypeId} {ps:String} {af:Array Edge} {g:Option (Nat×Bool)}
theorem WS.storeOC {e:TypeId} {x:Operand} {z:Value} {m:Nat} {q:Bool} {xs xs':List Value} (hx:evo l x=some (.pointer (some (sla v m)))) (hj:L[j]? = some (osl e k v n xs)) (hm:m+vs.length<=xs.length) (h0:0<vs.length)
  (hy:evo l y=some z) (hz:z.cells=vs.toArray) (h1:∀a∈vs,a.oneCell'=true) (hT:tk P T=some (q,vs.length)) (hxs:xs.take m++vs++xs.drop (m+vs.length)=xs')
  {L':List SA} (hL:lset L j (osl e k v n xs')=some L') (kk:WS P ro n0 w0 ds ops Q L' rest l):
  WS P ro n0 w0 ds ops Q L (⟨none,.store T x y,ty,ps,af,none⟩::rest) l:=by
 rw[<-Aq hL]at kk;subst hxs
 (replace hx:=Am hx;replace hy:=Am hy)
 refine WS.world_skip rfl rfl rfl fun u hu=>?_;obtain⟨S,hS,⟨hS1,hl,h2⟩,hupd⟩:=hu.upd hj;rcases h2 with⟨rfl,rfl⟩|⟨b,cap,cur,rfl,hb,hg,hn,hcap,hcur,htake⟩
 ·simp at hl;subst hl;simp at hm;rw[hm.2]at h0;simp at h0
 have es:sla (.slice (some ⟨b,0,none⟩) n cap) m=⟨b,m,none⟩:=by simp[sla,slb,slo]
 rw[es]at hx
 have hcn:n*k<=cur.toList.length:=by
  rw[Array.length_toList,hcur];exact Nat.mul_le_mul_right _ hn
 have hlen:xs.length=n*k:=by rw[<-htake,List.length_take];omega
 have hst:=run_storeCells_at P b m e vs 0 cur u hg (by simp at hcn;omega) h1;simp only[Nat.add_zero]at hst;have hb':=hS b ((hS1 b).2 rfl);refine⟨u.setRow b (cur.toList.take m++vs++cur.toList.drop (m+vs.length)).toArray,?_,?_⟩
 ·simp[execOp,hx,hy,Instr.storeAt,Instr.sureAddr,storeVar,(CV hT u).2,hz,hst]
 refine kk _ (hupd _ _ (fun k=>k=b) ⟨rfl,rfl,rfl,by simp,fun k hk=>setRow_other u b k _ (fun e=>by omega)⟩ (fun k hk o' hcell=>?_) ⟨fun k=>?_,by simp;omega,.inr ⟨b,cap,_,rfl,hb,setRow_heap u b cur _ e _ hg,hn,hcap,by simp at hcn⊢;omega,?_⟩⟩
  (fun k hk=>by subst hk;exact⟨hb',.inl ((hS1 _).2 rfl)⟩))
 ·rw[setRow_other u b k _ (fun e=>hk.2.2 ((hS1 k).2 (by rw[e];rfl)))];exact hcell
 ·exact⟨fun h=>by rw[h];rfl,fun h=>by simpa [Value.ownBlock,eq_comm]using h⟩
 rw[<-htake];exact VK cur.toList vs (by omega) hcn
end
section
variable {α:Type} (C:Cel α)
theorem MD {l:List α} {i f:Nat} {a:α} {z:Value} [Inhabited α] (hi:i<l.length) (hf:f<C.k) (ha:C.cells a=(C.cells (nth l i)).set f z):(A1 C l).take (i*C.k+f)++[z]++(A1 C l).drop (i*C.k+f+[z].length)=A1 C (l.set i a):=by
 have h2:nth l (i:Int)=l[i]:=by simp[nth,List.getD,hi]
 rw[h2]at ha
 rw[<-TB C hi hf ha,List.set_eq_take_append_cons_drop,if_pos (by rw[BQ];calc i*C.k+f<i*C.k+C.k:=by omega
  _=(i+1)*C.k:=by rw[Nat.succ_mul]
  _<=l.length*C.k:=Nat.mul_le_mul_right _ hi)]
 simp
end
section
variable {P:Program} {ro:Option Nat} {n0:Nat} {w0:World} {ds:List Deferred} {ops:Array Oper} {Q:Exit->Act->World->Prop} {L:List SA} {rest:List Oper} {l:List Value} {d:Option Tmp} {ty:TypeId} {ps:String} {af:Array Edge} {g:Option (Nat×Bool)}
 {α:Type} {C:Cel α}
theorem B7 {e e':TypeId} {a b:Nat} {x:Operand} {xs:List α} (hT:sl P T=some (e,a,b)) (hx:evo l x=some v) (hj:L[j]? = some (oT C e' v xs)):
  Det P (St n0 w0 L) ⟨d,.call ⟨.builtin .len,#[x],#[T]⟩,ty,ps,af,g⟩ l (.int .i64 xs.length):=JR hT hx hj
theorem DM {e e':TypeId} {x:Operand} {xs:List α} (hT:sl P T=some (e,k,by_)) (hx:evo l x=some v) (hy:evo l y=some (.int .i64 i))
  (hj:L[j]? = some (oT C e' v xs)) (hk:C.k=k) (h0:0<=i) (h1:i<xs.length):Det P (St n0 w0 L) ⟨d,.indexAddr T x y,ty,ps,af,g⟩ l (.pointer (some (sla v (i.toNat*k)))):=by
 subst hk;exact Kj hT hx hy (show L[j]? = some (osl e' C.k v xs.length (A1 C xs))from hj) h0 h1
variable [Inhabited α]
theorem Gq {e:TypeId} (k f:Nat) {x:Operand} {y:Value} {xs:List α} (hj:L[j]? = some (oT C e v xs)) (hx:evo l x=some (.pointer (some ⟨slb v,slo v+i.toNat*k+f,none⟩))) (hk:C.k=k) (h:0<=i/\i<xs.length) (hf:f<k)
  (hc:(C.cells (nth xs i))[f]? = some y) (hT:tk P T=some (false,z)):Det P (St n0 w0 L) ⟨d,.load T x,ty,ps,af,g⟩ l y:=by
 subst hk;exact M8 (by rw[hx,sla,Nat.add_assoc]) hj (by rw[BW C h.1 h.2 f hf];exact hc) hT
theorem WS.storeTc {e:TypeId} (k f:Nat) {x:Operand} {z:Value} {q:Bool} {xs:List α} (a:α) (hj:L[j]? = some (oT C e v xs)) (hx:evo l x=some (.pointer (some ⟨slb v,slo v+i.toNat*k+f,none⟩))) (hk:C.k=k) (h:0<=i/\i<xs.length) (hf:f<k)
  (hy:evo l y=some z) (h1:z.oneCell'=true) (hT:tk P T=some (q,1)) (ha:C.cells a=(C.cells (nth xs i)).set f z)
  {L':List SA} (hL:lset L j (oT C e v (xs.set i.toNat a))=some L') (kk:WS P ro n0 w0 ds ops Q L' rest l):
  WS P ro n0 w0 ds ops Q L (⟨none,.store T x y,ty,ps,af,none⟩::rest) l:=by
 subst hk;have hi:i.toNat<xs.length:=by omega
 have e0:((i.toNat:Nat):Int)=i:=by omega
 refine WS.storeOC (vs:=[z]) (m:=i.toNat*C.k+f) (by rw[hx,sla,Nat.add_assoc]) hj ?_ (by simp) hy (by cases z<;>simp_all [Value.cells,Value.oneCell']) (by simpa using h1) hT (MD C hi hf (by rw[e0];exact ha)) (by rw[<-hL,oT,List.length_set]) kk;rw[BQ]
 calc i.toNat*C.k+f+1<=i.toNat*C.k+C.k:=by omega
  _=(i.toNat+1)*C.k:=by rw[Nat.succ_mul]
  _<=xs.length*C.k:=Nat.mul_le_mul_right _ hi
end
theorem GF [Inhabited α] {a:α} (h0:0<=i) (h1:i<l.length):nth (l.set i.toNat a) i=a:=by
 have h2:i.toNat<l.length:=by omega
 simp[nth,List.getD,h2]
theorem DJ [Inhabited α] {j:Int} {a:α} (h0:0<=i) (h1:0<=j) (h:j≠i):nth (l.set i.toNat a) j=nth l j:=by
 have:i.toNat≠j.toNat:=by omega
 simp[nth,List.getD,List.getElem?_set_ne this]
section
variable {n0:Nat} {w0 u:World} {L:List SA}
theorem St.roTrue (h:St n0 w0 L u) {p:World->Prop} (hp:∀u,p u):St n0 w0 (roS p::L) u:=
 ⟨h.le,h.below,fun _=>False,fun _ h=>h.elim,⟨fun u' _=>hp u',fun _ h=>h.elim⟩,h.star.sup fun _ h=>⟨h,fun h=>h⟩⟩
theorem St.roMap {p q:World->Prop} (hp:∀u,p u->q u) (h:St n0 w0 (roS p::L) u):St n0 w0 (roS q::L) u:=St.toRo (fun S u h=>hp u (roS.now h)) h
end
def Je5 (w:World) (r:Room):Ending->World->Prop:=fun e w'=>∃c:Room,(c.e=r.e/\∃u0,RoomOk u0 c)/\RetF w (.agg (rcl c).toArray) (roS fun u=>RoomOk u c) e w'
theorem KB {f:α->β} {l':List α} (h:l.map f=l'.map f):l.length=l'.length:=by
 have:=congrArg List.length h
 simpa using this
variable {pl:List (Nat×Operand)} {pls:List (Nat×Nat)}
section
variable {P:Program} {l:List Value} {d:Option Tmp} {ty:TypeId} {ps:String} {af:Array Edge} {g:Option (Nat×Bool)} {C:World->Prop}
theorem Js {z:List Value} {parts:List (Nat×Value)} (hp:plc P T=some pls) (hz:zv P T=some z) (hv:evp l pl=some parts)
  (hf:Instr.fill (pls.toArray[·]?) z.toArray parts=some cs.toArray):Det P C ⟨d,.build T pl.toArray,ty,ps,af,g⟩ l (.agg cs.toArray):=fun u _=>by
 replace hv:=Ud hv;subst hv;unfold plc at hp;split at hp
 ·rename_i fs hu;unfold zv at hz;cases hi:P.info? T with
  |none=>simp[hi]at hz
  |some inf=>
   cases hz2:inf.zero with
   |none=>simp[hi,hz2]at hz
   |some zz=>
    simp[hi,hz2]at hz;have hm:=KF (P:=P) (w:=u) fs.toList pls hp
    have hm2:(fs.mapM fun f=>do pure (f.offset,<-sizeOf f.type):Sem (Array (Nat×Nat))).run P u = .ok pls.toArray u:=by
     rw[Array.mapM_eq_mapM_toList];simp at hm;simp[hm]
    have hzc:zz.cells=z.toArray:=by rw[<-hz]
    simp[execOp,Ap,Instr.build,zeroValue,typeInfo,hi,hz2,run_underlying hu];simp at hm2;simp[hm2,hzc];simp at hf;simp[hf]
 simp at hp
end
theorem Jg0 {a:List (Nat×Nat)} {z:List Value} {p q:List Value} (ha:a=[(0,8),(8,3)]) (hz:z.length=11) (hp:p.length=8) (hq:q.length=3):
  Instr.fill (a.toArray[·]?) z.toArray [(0,.agg p.toArray),(1,.agg q.toArray)]=some (p++q).toArray:=by
 subst ha
 match z,hz with
 |[z0,z1,z2,z3,z4,z5,z6,z7,z8,z9,z10],_=>
  match p,hp with
  |[p0,p1,p2,p3,p4,p5,p6,p7],_=>
   match q,hq with
   |[q0,q1,q2],_=>simp[Instr.fill,Value.cells]
section
variable {P:Program} {ro:Option Nat} {n0:Nat} {w0:World} {ds:List Deferred} {ops:Array Oper} {Q:Exit->Act->World->Prop} {L:List SA} {rest:List Oper} {l:List Value} {ty:TypeId} {ps:String} {af:Array Edge}
theorem WS.callFg {f:Operand} {v:β->Value} {A:β->SA} {p:β->Prop} {i:Nat} {l':β->List Value}
  (hw:yielded ops l.toArray j=some want)
  (hf:evo l f=some (.func (.func fn) #[] cap.toArray)) (hv:evs l args=some vs) (he:Ent P fn)
  (hc:∀u,St n0 w0 L u->Calls P fn (vs++cap).toArray u (fun e u'=>∃x,p x/\RetF u (v x) (A x) e u'))
  (hl:∀x,lset l i (v x)=some (l' x)) (k:∀x,p x->WS P ro n0 w0 ds ops Q (A x::L) rest (l' x)):
  WS P ro n0 w0 ds ops Q L (⟨some i,.call ⟨.value f,args.toArray,ts⟩,ty,ps,af,some (j,want)⟩::rest) l:=by
 intro u hu;unfold wpListIn;rw[if_pos (by simp[Region.wanted,hw])];refine⟨fun _ _=>trivial,?_⟩;rw[Bl rfl,BA]
 have hr:(execOp (ev l) ⟨some i,.call ⟨.value f,args.toArray,ts⟩,ty,ps,af,some (j,want)⟩).run P u = .ok (.enter fn (vs++cap).toArray) u:=by
  have h1:∀(args:Array Value) (w:World),Sem.run P (callFunc fn args) w = .ok (.enter fn args) w:=he;replace hf:=Am hf;replace hv:=Fi hv;subst hv;simp[execOp,hf,resolve,invoke,Deferred.ofValue,h1]
 rw[hr];refine⟨fun h=>by simp[FW]at h,CE ((hc u hu).mono ?_)⟩;rintro e u' ⟨x,hp,rfl,hb,T,hA,hT⟩;show wpListIn (FW ro) 0 P ops Q rest ((Act.mk l.toArray ds).put (some i) (v x)) u';rw[AL,Aq (hl x)];exact k x hp u' (hu.cons hb hA hT)
end
section
variable {P:Program} {ro:Option Nat} {n0:Nat} {w0:World} {ds:List Deferred} {ops:Array Oper} {Q:Exit->Act->World->Prop} {L:List SA} {rest:List Oper} {l:List Value} {ty:TypeId} {ps:String} {af:Array Edge}
theorem WS.buildHole {e:TypeId} {i:Nat} {x1 x2 x3 x4:Operand} {a b c d:Int} (hT:sl P T=some (e,1,by_)) (hz:zv P e=some [.int .i64 0])
  (h1:evo l x1=some (.int .i64 a)) (h2:evo l x2=some (.int .i64 b)) (h3:evo l x3=some (.int .i64 c)) (h4:evo l x4=some (.int .i64 d))
   (hl:∀v,lset l i v=some (l' v)) (k:∀v,WS P ro n0 w0 ds ops Q (oints e v [0,a,b,c,d]::L) rest (l' v)):
  WS P ro n0 w0 ds ops Q L (⟨some i,.buildSlice T 5 #[(1,x1),(2,x2),(3,x3),(4,x4)],ty,ps,af,none⟩::rest) l:=by
 (replace h1:=Am h1;replace h2:=Am h2;replace h3:=Am h3;replace h4:=Am h4)
 refine WS.world rfl rfl fun u hu=>?_;obtain⟨inf,hu1,hi,hs,hby⟩:=BX hT;unfold zv at hz;rw[hi]at hz;cases hz2:inf.zero with
 |none=>simp[hz2]at hz
 |some zz=>
  simp[hz2]at hz
  have hzc:zz.cells = #[.int .i64 0]:=by
   apply Array.ext';simpa using hz
  refine⟨.slice (some ⟨u.heap.size,0,none⟩) 5 5,u.alloc (.cells #[.int .i64 0,.int .i64 a,.int .i64 b,.int .i64 c,.int .i64 d] e),?_,?_⟩
  ·have hic:∀n,(Value.int .i64 n).cells = #[.int .i64 n]:=fun _=>rfl;have e5:Array.range 5 = #[0,1,2,3,4]:=by decide
   simp[execOp,Instr.buildSlice,run_underlying hu1,sizeOf,typeInfo,hi,hs,newRow,zeroValue,hz2,hzc,h1,h2,h3,h4,Instr.fill,hic,e5]
  rw[AL,Aq (hl _)];refine k _ _ (hu.cons (T:=fun k=>k=u.heap.size) ((Below.refl _ u).alloc (Nat.le_refl _) _) ⟨?_,by simp[ints],.inr ⟨u.heap.size,5,_,rfl,Nat.zero_le _,World.alloc_heap_new u _,Nat.le_refl _,?_,?_,?_⟩⟩ (fun k hk=>by omega))
  ·intro k;simp[Value.ownBlock];exact eq_comm
  ·decide
  ·simp
  simp[ints]
end
def cntM (r:Room):Nat->Nat
 |1=>r.wys.l.length
 |2=>r.prs.l.length
 |3=>r.prs.l.length
 |4=>r.acs.l.length
 |_=>0
def kinM (r:Room) (p:Int):Nat->List Move
 |0=>[]
 |j+1=>kinM r p j++Dm p j (cntM r j)
def allM (r:Room):Nat->List Move
 |0=>[]
 |q+1=>allM r q++kinM r q 5
def cntL (r:Room):List Int:=[0,r.wys.l.length,r.prs.l.length,r.prs.l.length,r.acs.l.length]
theorem Sb (r:Room) {j:Int} (h0:0<=j) (h1:j<5):nth (cntL r) j=cntM r j.toNat:=by
 rcases(show j=0\/j=1\/j=2\/j=3\/j=4 by omega)with h|h|h|h|h<;>subst h<;>rfl
theorem SY (p k:Int) {m:Nat} (h:n<=m):Dm p k n <+:Dm p k m:=by
 refine⟨(Dm p k m).drop n,?_⟩;have:Dm p k n=(Dm p k m).take n:=by simp[Dm,List.take_range,Nat.min_eq_left h,<-List.map_take]
 rw[this,List.take_append_drop]
theorem OT (r:Room) (p:Int) {j:Nat}:∀{m:Nat},j<=m->kinM r p j <+:kinM r p m
 |0,h=>by
  have:j=0:=by omega
  subst this;exact List.prefix_refl _
 |m+1,h=>by
  by_cases hj:j=m+1
  ·subst hj;exact List.prefix_refl _
  exact(OT r p (show j<=m by omega)).trans ⟨_,rfl⟩
theorem Oc (r:Room) {j:Nat}:∀{m:Nat},j<=m->allM r j <+:allM r m
 |0,h=>by
  have:j=0:=by omega
  subst this;exact List.prefix_refl _
 |m+1,h=>by
  by_cases hj:j=m+1
  ·subst hj;exact List.prefix_refl _
  exact(Oc r (show j<=m by omega)).trans ⟨_,rfl⟩
def upM (r:Room) (p j n:Int):List Move:=allM r p.toNat++(kinM r p j.toNat++Dm p j n.toNat)
theorem O6 {p j n:Int} (h:0<=n):upM r p j n++[⟨p,j,n⟩]=upM r p j (n+1):=by
 unfold upM;rw[QD _ _ h];simp[List.append_assoc]
theorem Jhx {p j:Int} (h0:0<=j):upM r p j (cntM r j.toNat)=upM r p (j+1) 0:=by
 unfold upM;rw[show(j+1).toNat=j.toNat+1 by omega,kinM,show((j.toNat:Nat):Int)=j by omega];simp[Dm]
theorem Jif {p:Int} (h0:0<=p):upM r p 5 0=upM r (p+1) 0 0:=by
 unfold upM;rw[show(p+1).toNat=p.toNat+1 by omega,allM,show((p.toNat:Nat):Int)=p by omega];simp[Dm,kinM]
theorem Zj (r:Room) {p:Int} (hp:p=r.ply):upM r p 0 0=allM r r.ply.toNat:=by subst hp;simp[upM,kinM,Dm]
theorem Ty {p j n:Int} (h0:0<=p/\p<r.ply) (h1:0<=j/\j<5) (h2:0<=n/\n<cntM r j.toNat):∃post,allM r r.ply.toNat=upM r p j n++⟨p,j,n⟩::post:=by
 have e1:upM r p j n++[⟨p,j,n⟩] <+:allM r r.ply.toNat:=by
  rw[O6 h2.1];refine List.IsPrefix.trans ?_ (Oc r (show p.toNat+1<=r.ply.toNat by omega));rw[allM,show((p.toNat:Nat):Int)=p by omega];unfold upM;rw[List.prefix_append_right_inj];refine List.IsPrefix.trans ?_ (OT r p (show j.toNat+1<=5 by omega));rw[kinM,show((j.toNat:Nat):Int)=j by omega,List.prefix_append_right_inj];exact SY p j (by omega)
 obtain⟨t,ht⟩:=e1;exact⟨t,by rw[<-ht];simp⟩
variable {lb:List Value} {l0:Value->List Value}
variable {zs:List Value}
section
variable {P:Program} {ro:Option Nat} {w0:World} {ds:List Deferred} {Q:Exit->Act->World->Prop} {L:List SA} {l:List Value}
theorem Je6 {a b c f:SA} {M G:List SA}:(a::b::(M++(G++[c,f]))).Perm ([a,b,f]++(G++c::M)):=by
 refine List.Perm.cons _ (List.Perm.cons _ ?_);show(M++(G++[c,f])).Perm (f::(G++c::M));refine List.perm_append_comm.trans ?_;rw[List.append_assoc];refine List.Perm.trans (List.Perm.append_left G (List.Perm.swap f c M)) ?_;exact List.perm_middle
theorem Jfg {F c:SA} {M G:List SA}:(F::(G++c::M)).Perm (G++c::(M++[F])):=by
 refine List.perm_middle.symm.trans ?_;refine List.Perm.append_left G ?_;exact(List.Perm.swap _ _ _).trans (List.Perm.cons c (List.perm_append_comm (l₁:=[F]) (l₂:=M)))
theorem CS.rangeFuncG {X:Type} {gf:FuncId} {A:List SA} {lend:Value->X->SA} {all:List X} {g:Operand} {t:Tmp} {assign body:Code} (G:X->β->List SA)
  (hg:evo l g=some (.func (.func gf) #[] lb.toArray)) (he:Ent P gf) (hi:Iter P w0 gf lb A lend all)
  (M:List X->List SA) (Mx:Code->List X->List SA) {l1:Value->β->List Value} (h0:∀v,lset l t v=some (l0 v))
  (ha:∀(v:Value) (x:X) (lr:Nat) (L':List SA) (Q':Exit->Act->World->Prop),(∀b,QS w0.heap.size w0 [] Q' .normal (G x b++lend v x::L') (l1 v b))->CS P (some lr) w0.heap.size w0 [] assign Q' (lend v x::L') (l0 v))
  (hbody:∀(lr:Nat) (pre:List X) (x:X) (post:List X) (v:Value) (b:β) (F:SA),all=pre++x::post->
   CS P (some lr) w0.heap.size w0 [] body (FK w0.heap.size w0 M Mx (lend v x) (pre++[x]) F) (G x b++lend v x::(M pre++[F])) (l1 v b))
  (hdone:∀D,QS w0.heap.size w0 (mark D::ds) Q .normal (recd D (.deferred (some []))::(M all++A)) l)
  (hstop:∀D c pre x post,all=pre++x::post->CS P none w0.heap.size w0 (mark D::ds) c Q (recd D (.deferred (some []))::(Mx c (pre++[x])++A)) l):
  CS P none w0.heap.size w0 ds (.rangeFunc g #[t] assign body) Q (M []++A) l:=by
 intro u hu;refine wpIn_rangeFunc ?_;intro fn hfn;have hu1:=(hu.allocRec (.deferred (some []))).allocRec (.loop (lrec fn l.toArray t assign body u.heap.size .ready none));rw[World.size_alloc]at hu1;obtain⟨W1,hW1⟩:∃W1,(u.alloc (.deferred (some []))).alloc (.loop (lrec fn l.toArray t assign body u.heap.size .ready none))=W1:=⟨_,rfl⟩;have hent:=run_enterLoop_outer (P:=P) (w:=u) fn l.toArray #[t] assign body;rw[show({state:=.ready,pending:=none,fn,tmps:=l.toArray,params:=#[t],assign,body,defers:=u.heap.size}:Loop)=lrec fn l.toArray t assign body u.heap.size .ready none from rfl,hW1]at hent;rw[hW1]at hu1
 generalize u.heap.size=D at hent hu1
 clear hW1 hu
 refine⟨D+1,[mark D],W1,{target:=.fn (.func gf) lb.toArray,args:=#[.func (.yield (D+1)) #[] #[]]},W1,gf,
  #[.func (.yield (D+1)) #[] #[]]++lb.toArray,W1,hent,?_,fun _ _=>trivial,?_,fun h=>by simp[FW]at h,?_⟩
 ·have hg':(Act.mk l.toArray ds).eval g = .func (.func gf) #[] lb.toArray:=by rw[BA];exact Am hg
  simp only[resolve,hg'];simp[go_sem]
 ·have h1:∀(args:Array Value) (w:World),Sem.run P (callFunc gf args) w = .ok (.enter gf args) w:=he;simp[invoke,go_sem,h1]
 have hcall:=hi (D+1) (fun pre=>star ([recd (D+1) (.loop (lrec fn l.toArray t assign body D .ready none)),recd D (.deferred (some []))]++M pre))
  (fun pre=>exS fun c:Code=>star ([recd (D+1) (.loop (lrec fn l.toArray t assign body D .done (some c))),recd D (.deferred (some []))]++Mx c pre)) ?_ W1
  (St.pack (L1:=[recd (D+1) (.loop (lrec fn l.toArray t assign body D .ready none)),recd D (.deferred (some []))]++M []) hu1)
 ·have e:(Value.func (.yield (D+1)) #[] #[]::lb).toArray = #[Value.func (.yield (D+1)) #[] #[]]++lb.toArray:=by apply Array.ext';simp
  rw[e]at hcall;have hcall':=(callsIn_wide (n:=0)).2 hcall;refine CallsIn.mono hcall' ?_;rintro e u' ⟨⟨v,rfl⟩,hs|⟨pre,x,post,hall,hs⟩⟩
  ·have hs2:=hs.unpack;obtain⟨_,hl⟩:=St.rec_ (j:=0) rfl hs2;exact⟨none,_,run_endLoop hl (by simp[lrec]),hdone D _ (hs2.putRec (j:=0) rfl _).tail⟩
  obtain⟨c,hs1⟩:=hs.ex;have hs2:=hs1.unpack;obtain⟨_,hl⟩:=St.rec_ (j:=0) rfl hs2;exact⟨some c,_,run_endLoop hl (by simp[lrec]),hstop D c pre x post hall _ (hs2.putRec (j:=0) rfl _).tail⟩
 intro pre x post hall F v u1 hs;have hs1:=St.unpack hs;obtain⟨_,hl⟩:=St.rec_ (j:=0) rfl hs1;have hy:=run_yield (P:=P) (args:=#[v]) hl (by simp[lrec])
 have et:((lrec fn l.toArray t assign body D .ready none).params.zip #[v]).foldl (fun tmps (t,a)=>tmps.setIfInBounds t a) (lrec fn l.toArray t assign body D .ready none).tmps=(l0 v).toArray:=by
  have:=Aq (h0 v);simp[lrec,<-this]
 rw[et]at hy;refine⟨fn,_,assign,body,hy,roundIn_of_wpIn (F:=FW none) trivial ?_⟩;refine ha v x (D+1) _ _ ?_ u1 (hs.perm (List.Perm.swap _ _ _));intro b u2 hs2
 have hs2':St w0.heap.size w0 (star ([recd (D+1) (.loop (lrec fn l.toArray t assign body D .ready none)),recd D (.deferred (some []))]++M pre)::(G x b++[lend v x,F])) u2:=hs2.perm (by
  refine List.Perm.trans ?_ List.perm_middle
  exact List.Perm.append_left _ (List.Perm.swap _ _ _))
 have hs3:=St.unpack hs2';obtain⟨_,hl2⟩:=St.rec_ (j:=0) rfl hs3;refine⟨_,run_beginRound hl2 rfl,?_⟩;have hs4:=(hs3.putRec (j:=0) rfl (.loop (lrec fn l.toArray t assign body D .busy none)));have hs5:=(((hs4.perm Je6).pack).perm Jfg);refine wpIn_mono (hbody (D+1) pre x post v b _ hall _ hs5) ?_
 have back:∀{M':List SA} {u4:World},St w0.heap.size w0 (lend v x::(M'++[star [recd (D+1) (.loop (lrec fn l.toArray t assign body D .busy none)),recd D (.deferred (some [])),F]])) u4->
   St w0.heap.size w0 (recd (D+1) (.loop (lrec fn l.toArray t assign body D .busy none))::recd D (.deferred (some []))::(M'++[lend v x,F])) u4:=fun h=>((h.perm perm6.symm).unpack).perm perm5.symm
 rintro e a u4 hq;cases e with
 |normal=>
  have h4:=back hq;obtain⟨_,hl4⟩:=St.rec_ (j:=0) rfl h4;exact⟨_,_,run_endRound none hl4,.inl ⟨rfl,St.pack (L1:=_::_::M (pre++[x])) (h4.putRec (j:=0) rfl (.loop (lrec fn l.toArray t assign body D .ready none)))⟩⟩
 |ret=>
  have h4:=back hq;obtain⟨_,hl4⟩:=St.rec_ (j:=0) rfl h4;exact⟨_,_,run_endRound (some .ret) hl4,.inr ⟨rfl,St.exI .ret (St.pack (L1:=_::_::Mx .ret (pre++[x])) (h4.putRec (j:=0) rfl (.loop (lrec fn l.toArray t assign body D .done (some .ret)))))⟩⟩
 |exit i=>
  have h4:=back hq;obtain⟨_,hl4⟩:=St.rec_ (j:=0) rfl h4;exact⟨_,_,run_endRound (some (.exit i)) hl4,.inr ⟨rfl,St.exI (.exit i) (St.pack (L1:=_::_::Mx (.exit i) (pre++[x])) (h4.putRec (j:=0) rfl (.loop (lrec fn l.toArray t assign body D .done (some (.exit i))))))⟩⟩
 |goto i=>exact hq.elim
 |panic c=>exact hq.elim
 |outgrown=>exact hq.elim
theorem CS.rangeB {X:Type} {gf:FuncId} {A:List SA} {all:List X} {x:Operand} {t t2 id:Tmp} {body:Code} {n ty1 ty2:TypeId} {ps1 ps2:String} {af1 af2:Array Edge} {V:X->Value} (cs:X->List Value) (hV:∀x,V x = .agg (cs x).toArray) (hcl:∀x,(cs x).length=n) (hc1:∀x,∀v∈cs x,v.oneCell'=true)
  (hz:zv P T=some zs) (hzl:zs.length=n) (hT:tk P T=some (true,n)) (hne:t≠t2)
  (hg:evo l x=some (.func (.func gf) #[] lb.toArray)) (he:Ent P gf) (hi:Iter P w0 gf lb A (fun v x=>fact (v=V x)) all)
  (M:List X->List SA) (Mx:Code->List X->List SA) {l1:Value->Nat->List Value} (h0:∀v,lset l t v=some (l0 v)) (ht:t<l.length) (h1:∀v b,lset (l0 v) t2 (.pointer (some ⟨b,0,none⟩))=some (l1 v b)) (ht2:∀v,t2<(l0 v).length)
  (hbody:∀(lr:Nat) (pre:List X) (x:X) (post:List X) (v:Value) (b:Nat) (F:SA),all=pre++x::post->
   CS P (some lr) w0.heap.size w0 [] body (FK w0.heap.size w0 M Mx (fact (v=V x)) (pre++[x]) F) (blk b (cs x) T::fact (v=V x)::(M pre++[F])) (l1 v b))
  (hdone:∀D,QS w0.heap.size w0 (mark D::ds) Q .normal (recd D (.deferred (some []))::(M all++A)) l)
  (hstop:∀D c pre x post,all=pre++x::post->CS P none w0.heap.size w0 (mark D::ds) c Q (recd D (.deferred (some []))::(Mx c (pre++[x])++A)) l):
  CS P none w0.heap.size w0 ds (.rangeFunc x #[t] (.region id #[⟨some t2,.alloc T,ty1,ps1,af1,none⟩,⟨none,.store T (.tmp t2) (.tmp t),ty2,ps2,af2,none⟩] false) body) Q (M []++A) l:=
 CS.rangeFuncG (β:=Nat) (l0:=l0) (l1:=l1) (fun x b=>[blk b (cs x) T]) hg he hi M Mx h0 (fun v x lr L' Q' k=>CS.factE (j:=0) rfl fun hv=>CS.region (os:=[_,_]) (WS.alloc hz (h1 v) fun b _=>by
  have e1:(l1 v b)[t2]? = some (.pointer (some ⟨b,0,none⟩)):=Kx (h1 v b) (ht2 v)
  have e2:(l1 v b)[t]? = some (V x):=by
   have h2:=Aq (h1 v b);have h3:=Kx (h0 v) ht;rw[<-h2,List.getElem?_set_ne (Ne.symm hne),h3,hv]
  refine WS.storeW (j:=0) (b:=b) (c:=zs) (vs:=cs x) (e:=T) (n:=n) (by simpa [evo]using e1) rfl (by rw[<-hV x];simpa [evo]using e2) (by rw[hcl,hzl]) (hc1 x) hT (hcl x) rfl ?_
  exact WS.done (k b))) hbody hdone hstop
end
theorem GS {q:Int->Int->Prop} {l:List Int} {n v:Int} (h0:0<=n) (h:∀i:Int,0<=i->i<l.length->q i (nth l i)) (hv:q n v):∀i:Int,0<=i->i<(l.set n.toNat v).length->q i (nth (l.set n.toNat v) i):=fun i a b=>by
 rw[List.length_set]at b
 by_cases hi:i=n
 ·subst hi;rw[GF a b];exact hv
 rw[DJ h0 a hi];exact h i a b
theorem GJ {q:Int->Int->Prop} {v:Int}:∀{ps l:List Int},(∀p∈ps,0<=p/\q p v)->(∀i:Int,0<=i->i<l.length->q i (nth l i))->∀i:Int,0<=i->i<(CJ v l ps).length->q i (nth (CJ v l ps) i)
 |[],l,_,h=>h
 |p::ps,l,hp,h=>GJ (ps:=ps) (l:=l.set p.toNat v) (fun x hx=>hp x (by simp[hx])) (GS (hp p (by simp)).1 h (hp p (by simp)).2)
theorem Jv {q:Int->Int->Prop}:∀{ps:List Put} {l:List Int},(∀p∈ps,0<=p.t/\q p.t p.s)->(∀i:Int,0<=i->i<l.length->q i (nth l i))->∀i:Int,0<=i->i<(Fb l ps).length->q i (nth (Fb l ps) i)
 |[],l,_,h=>h
 |p::ps,l,hp,h=>Jv (ps:=ps) (l:=l.set p.t.toNat p.s) (fun x hx=>hp x (by simp[hx])) (GS (hp p (by simp)).1 h (hp p (by simp)).2)
theorem Ir {n:Int} (h:0<=n/\n<r.pls.l.length):placeB r n=true:=by
 simp only[placeB,Bool.and_eq_true,decide_eq_true_eq];omega
theorem IA {r:Room} (hR:Ready r) {x:P3}:∀{n:Nat} {ths:List Int} {o:List Int},StIn r (ths,x.2.1,x.2.2)->settleN r.aus.l n ths=some o->StIn r (o,x.2.1,x.2.2)
 |0,_,_,_,h=>by cases h
 |n+1,ths,o,hI,h=>by
  rw[settleN]at h;split at h
  ·cases h;exact hI
  rename_i hn;have hl:=PE hn;have ha:=hR.aut _ (Ai hl.1 hl.2);have hp:=K2 ha;refine IA hR (n:=n) (ths:=ths.set (nth r.aus.l (autoI r.aus.l ths)).t.toNat (nth r.aus.l (autoI r.aus.l ths)).s) ⟨?_,hI.lp,hI.ll,?_,hI.pr,hI.pl⟩ h
  ·have:=hI.lt;simpa using this
  exact GS (q:=fun i v=>putB r.ths.l i v=true) (l:=ths) hp.1 hI.th ha
theorem GY (hR:Ready r) {x y:P3} (hI:StIn r x) (h:settleV r x=some y):StIn r y:=by
 unfold settleV at h;obtain⟨o,ho,rfl⟩:=Option.map_eq_some_iff.1 h;exact IA hR (ths:=x.1) hI ho
theorem R6 (hR:Ready r) {x:P3} (hI:StIn r x) {m:Move} (hL:legalB r x m=true):StIn r (moveX r x m):=by
 have hM:=ND hR hI hL;have hl:=hI.ll;have hln:=HX (r:=r) (x:=x) (m:=m);have hat:=hI.at hM.p.1 hM.p.2.1;refine⟨hln.1.trans hI.lt,hln.2.1.trans hI.lp,by rw[hln.2.2];exact hl,?_,?_,?_⟩
 ·unfold moveX;split
  ·exact hI.th
  split
  ·exact hI.th
  split
  ·exact hI.th
  split
  ·rename_i h4;have hn:=hM.ac h4;have ha:=hR.acs _ (Ai hn.1 hn.2);exact Jv (q:=fun i v=>putB r.ths.l i v=true) (fun p hp=>⟨(K2 (ha.se p hp)).1,ha.se p hp⟩) hI.th
  exact hI.th
 ·have hq:(decide (-2-r.ply+1<=-2-m.p)&&decide (-2-m.p<=-2))=true:=by
   have:=hM.p;simp only[Bool.and_eq_true,decide_eq_true_eq];omega
  unfold moveX;split
  ·exact hI.pr
  split
  ·rename_i h2;exact GS (q:=fun i v=>(placeB r v||(decide (v = -1)||(decide (-2-r.ply+1<=v)&&decide (v<=-2))))=true) (hM.pr (.inl h2)).1 hI.pr (by rw[hq];simp)
  split
  ·rename_i h3;exact GS (q:=fun i v=>(placeB r v||(decide (v = -1)||(decide (-2-r.ply+1<=v)&&decide (v<=-2))))=true) (hM.pr (.inr h3)).1 hI.pr (by rw[Ir hat];simp)
  split
  ·rename_i h4;have hn:=hM.ac h4;have ha:=hR.acs _ (Ai hn.1 hn.2)
   exact GJ (q:=fun i v=>(placeB r v||(decide (v = -1)||(decide (-2-r.ply+1<=v)&&decide (v<=-2))))=true) (fun p hp=>⟨(ha.br p hp).1,by rw[hq];simp⟩)
    (GJ (q:=fun i v=>(placeB r v||(decide (v = -1)||(decide (-2-r.ply+1<=v)&&decide (v<=-2))))=true) (fun p hp=>⟨(ha.sp p hp).1,by simp⟩) hI.pr)
  exact hI.pr
 unfold moveX;split
 ·rename_i h1;have hn:=hM.go h1;have hw:=hR.wys _ (Ai hn.1 hn.2);refine GS (q:=fun i v=>placeB r v=true) hM.p.1 hI.pl ?_
  have hg:(nth r.wys.l m.n).a=nth x.2.2 m.p\/(nth r.wys.l m.n).b=nth x.2.2 m.p:=by
   unfold legalB at hL;split at hL
   ·simp only[goB,Bool.and_eq_true,Bool.or_eq_true,decide_eq_true_eq]at hL;exact hL.1.2
   cases hL
  rcases hg with h|h
  ·exact Ir (by have:=hw.2.2;omega)
  exact Ir (by have:=hw.2.1;omega)
 split
 ·exact hI.pl
 split
 ·exact hI.pl
 split
 ·exact hI.pl
 exact hI.pl
theorem Lc {f:Move->Bool} {p k:Int} {c m:Nat} (hc:c<=m) (h:∀n:Int,(c:Int)<=n->f ⟨p,k,n⟩=false):(Dm p k m).filter f=(Dm p k c).filter f:=by
 obtain⟨d,rfl⟩:∃d,m=c+d:=⟨m-c,by omega⟩
 have e:Dm p k (c+d)=Dm p k c++(List.range d).map fun i:Nat=>(⟨p,k,((c+i:Nat):Int)⟩:Move):=by
  simp[Dm,List.range_add]
 have e2:(List.filter f ((List.range d).map fun i:Nat=>(⟨p,k,((c+i:Nat):Int)⟩:Move)))=[]:=by
  rw[List.filter_eq_nil_iff];intro x hx;obtain⟨i,_,rfl⟩:=List.mem_map.1 hx;rw[h _ (by omega)];simp
 rw[e,List.filter_append,e2,List.append_nil]
theorem Re {x:P3} {p k n:Int} (hk:1<=k/\k<=4) (hn:(cntM r k.toNat:Int)<=n):legalB r x ⟨p,k,n⟩=false:=by
 unfold legalB;split
 ·rcases(show k=1\/k=2\/k=3\/k=4 by omega)with h|h|h|h<;>subst h
  ·rw[if_pos rfl];have hn:(r.wys.l.length:Int)<=n:=hn;unfold goB;simp only[Bool.and_eq_false_iff,decide_eq_false_iff_not];exact .inl (.inl (.inr (by omega)))
  ·rw[if_neg (show¬(2:Int)=1 by decide),if_pos rfl];have hn:(r.prs.l.length:Int)<=n:=hn;unfold Q7;simp only[Bool.and_eq_false_iff,decide_eq_false_iff_not];exact .inl (.inl (.inl (.inr (by omega))))
  ·rw[if_neg (show¬(3:Int)=1 by decide),if_neg (show¬(3:Int)=2 by decide),if_pos rfl];have hn:(r.prs.l.length:Int)<=n:=hn;unfold QF;simp only[Bool.and_eq_false_iff,decide_eq_false_iff_not];exact .inl (.inr (by omega))
  rw[if_neg (show¬(4:Int)=1 by decide),if_neg (show¬(4:Int)=2 by decide),if_neg (show¬(4:Int)=3 by decide),if_pos rfl];have hn:(r.acs.l.length:Int)<=n:=hn;unfold doB;simp only[Bool.and_eq_false_iff,decide_eq_false_iff_not];exact .inl (.inr (by omega))
 rfl
theorem TX (hR:Ready r) (k:Nat):cntM r k<=24:=by
 have:=hR.lens;unfold cntM;split<;>omega
theorem NC (hR:Ready r) (x:P3) (p:Int):(kinM r p 5).filter (legalB r x)=(QI p 4).filter (legalB r x):=by
 have h:=fun(k:Nat) (hk:1<=k/\k<=4)=>Lc (f:=legalB r x) (p:=p) (k:=(k:Int)) (c:=cntM r k) (m:=24) (TX hR k) (fun n hn=>Re (by omega) (by simpa using hn));have h1:=h 1 (by omega);have h2:=h 2 (by omega);have h3:=h 3 (by omega);have h4:=h 4 (by omega);simp only[kinM,QI,List.filter_append];have h0:Dm p (0:Nat) (cntM r 0)=[]:=rfl;rw[h0,List.filter_nil];rw[show((0:Nat):Int)+1=((1:Nat):Int)from rfl,show((1:Nat):Int)+1=((2:Nat):Int)from rfl,show((2:Nat):Int)+1=((3:Nat):Int)from rfl,show((3:Nat):Int)+1=((4:Nat):Int)from rfl,h1,h2,h3,h4,List.nil_append]
theorem H4 {r:Room} (hR:Ready r) (x:P3):∀q,(allM r q).filter (legalB r x)=(NF q).filter (legalB r x)
 |0=>rfl
 |q+1=>by rw[allM,NF,List.filter_append,List.filter_append,H4 hR x q,NC hR]
theorem Ok {r:Room} (hR:Ready r) (p:Int):∀j,(kinM r p j).length<=j*24
 |0=>by simp[kinM]
 |j+1=>by
  have:=Ok hR p j;have:=TX hR j;simp only[kinM,List.length_append,L3];omega
theorem OQ {r:Room} (hR:Ready r):∀q,(allM r q).length<=q*120
 |0=>by simp[allM]
 |q+1=>by
  have:=OQ hR q;have:=Ok hR q 5;simp only[allM,List.length_append];omega
theorem FO [Inhabited α] [Inhabited β] (f:α->β) (hd:f default=default) (l:List α) (i:Int):nth (l.map f) i=f (nth l i):=by
 unfold nth;simp only[List.getD_eq_getElem?_getD,List.getElem?_map];cases h:l[i.toNat]? with
 |none=>simp[hd]
 |some a=>simp
structure Alike (c r:Room):Prop where
 pls:c.pls.l=r.pls.l
 ths:c.ths.l=r.ths.l
 lprs:c.prs.l.length=r.prs.l.length
 prs:c.prs.l.map Pro.e=r.prs.l.map Pro.e
 pr:∀i,(nth c.prs.l i).nm=(nth r.prs.l i).nm/\(nth c.prs.l i).pl=(nth r.prs.l i).pl/\(nth c.prs.l i).wh.l=(nth r.prs.l i).wh.l
 lwys:c.wys.l.length=r.wys.l.length
 wy:∀i,(nth c.wys.l i).a=(nth r.wys.l i).a/\(nth c.wys.l i).b=(nth r.wys.l i).b/\(nth c.wys.l i).wh.l=(nth r.wys.l i).wh.l
 lacs:c.acs.l.length=r.acs.l.length
 acs:c.acs.l.map Actn.e=r.acs.l.map Actn.e
 ac:∀i,(nth c.acs.l i).e=(nth r.acs.l i).e
 laus:c.aus.l.length=r.aus.l.length
 aus:c.aus.l.map Auto.e=r.aus.l.map Auto.e
 au:∀i,(nth c.aus.l i).t=(nth r.aus.l i).t/\(nth c.aus.l i).s=(nth r.aus.l i).s/\(nth c.aus.l i).wh.l=(nth r.aus.l i).wh.l
 ply:c.ply=r.ply
 gl:c.gl.l=r.gl.l
theorem IH {a b:Sl α} (h:a.e (id:α->α)=b.e id):a.l=b.l:=by
 have:=congrArg Sl.l h
 simpa [Sl.e]using this
theorem EF {f:α->β} {a b:Sl α} (h:a.e f=b.e f):a.l.map f=b.l.map f:=congrArg Sl.l h
theorem Vp [Inhabited α] [Inhabited β] {f:α->β} (hd:f default=default) {m:List α} (h:l.map f=m.map f) (i:Int):f (nth l i)=f (nth m i):=by
 rw[<-FO f hd,<-FO f hd,h]
variable {c:Room}
theorem E1 (h:c.e=r.e):Alike c r:=by
 have h1:c.pls.e id=r.pls.e id:=congrArg Room.pls h;have h2:c.ths.e id=r.ths.e id:=congrArg Room.ths h;have h3:c.prs.e Pro.e=r.prs.e Pro.e:=congrArg Room.prs h;have h4:c.wys.e Way.e=r.wys.e Way.e:=congrArg Room.wys h;have h5:c.acs.e Actn.e=r.acs.e Actn.e:=congrArg Room.acs h;have h6:c.aus.e Auto.e=r.aus.e Auto.e:=congrArg Room.aus h;have h7:c.gl.e id=r.gl.e id:=congrArg Room.gl h;refine⟨IH h1,IH h2,KB (EF h3),EF h3,fun i=>?_,KB (EF h4),fun i=>?_,KB (EF h5),EF h5,fun i=>Vp (f:=Actn.e) rfl (EF h5) i,KB (EF h6),EF h6,fun i=>?_,(by have:=congrArg Room.ply h;exact this),IH h7⟩
 ·have:=Vp (f:=Pro.e) rfl (EF h3) i;have a1:=congrArg Pro.nm this;have a2:=congrArg Pro.pl this;have a3:=congrArg Pro.wh this;exact⟨a1,a2,IH a3⟩
 ·have:=Vp (f:=Way.e) rfl (EF h4) i;have a1:=congrArg Way.a this;have a2:=congrArg Way.b this;have a3:=congrArg Way.wh this;exact⟨a1,a2,IH a3⟩
 have:=Vp (f:=Auto.e) rfl (EF h6) i;have a1:=congrArg Auto.t this;have a2:=congrArg Auto.s this;have a3:=congrArg Auto.wh this;exact⟨a1,a2,IH a3⟩
structure AlikeA (a b:Actn):Prop where
 nm:a.nm=b.nm
 pl:a.pl=b.pl
 lk:a.lk=b.lk
 us:a.us.l=b.us.l
 wh:a.wh.l=b.wh.l
 se:a.se.l=b.se.l
 sp:a.sp.l=b.sp.l
 br:a.br.l=b.br.l
theorem FJ {a b:Actn} (h:a.e=b.e):AlikeA a b:=by
 have a1:=congrArg Actn.nm h;have a2:=congrArg Actn.pl h;have a3:=congrArg Actn.lk h;have a4:=congrArg Actn.us h;have a5:=congrArg Actn.wh h;have a6:=congrArg Actn.se h;have a7:=congrArg Actn.sp h;have a8:=congrArg Actn.br h;exact⟨a1,a2,a3,IH a4,IH a5,IH a6,IH a7,IH a8⟩
theorem Og [Inhabited α] {f:α->ByteArray} {m:List α} (h:l.map f=m.map f) (hn:∀i,f (nth l i)=f (nth m i)) (i:Int):newB f l i=newB f m i:=by
 unfold newB
 have e:∀(l:List α) (x:ByteArray),((l.take i.toNat).any fun y=>seq (f y) x)=(((l.map f).take i.toNat).any fun y=>seq y x):=fun l x=>by
  rw[<-List.map_take,List.any_map];rfl
 rw[e,e,h,hn]
theorem FN (f:α->β) (p:α->Bool) (q:β->Bool) (hp:∀a,p a=q (f a)) (l:List α):idxF p l=idxF q (l.map f):=by
 unfold idxF;rw[List.findIdx?_map,show(q∘f)=p from funext fun a=>(hp a).symm]
theorem Alike.nms (h:Alike c r):c.prs.l.map Pro.nm=r.prs.l.map Pro.nm:=by
 have:=congrArg (List.map Pro.nm) h.prs
 simpa [List.map_map,Function.comp_def,Pro.e]using this
theorem Alike.anms (h:Alike c r):c.acs.l.map Actn.nm=r.acs.l.map Actn.nm:=by
 have:=congrArg (List.map Actn.nm) h.acs
 simpa [List.map_map,Function.comp_def,Actn.e]using this
theorem Alike.manyB (h:Alike c r):manyB c=manyB r:=by unfold YtllebkdchemabaaGreatDoor.manyB;rw[h.pls,h.ths,h.lprs,h.lwys,h.lacs,h.laus]
theorem Alike.placeB (h:Alike c r) (n:Int):placeB c n=placeB r n:=by unfold YtllebkdchemabaaGreatDoor.placeB;rw[h.pls]
theorem Alike.plO (h:Alike c r):plO c=plO r:=by funext i;unfold YtllebkdchemabaaGreatDoor.plO;rw[h.pls]
theorem Alike.thO (h:Alike c r):thO c=thO r:=by funext i;unfold YtllebkdchemabaaGreatDoor.thO thB;rw[h.ths,h.placeB]
theorem Alike.whO (h:Alike c r) (l:List Lit):whO c l=whO r l:=by unfold YtllebkdchemabaaGreatDoor.whO;rw[h.ths]
theorem Alike.prO (h:Alike c r):prO c=prO r:=by
 funext i;unfold YtllebkdchemabaaGreatDoor.prO;rw[h.whO,Og h.nms (fun i=>(h.pr i).1),(h.pr i).1,(h.pr i).2.1,(h.pr i).2.2,h.placeB]
theorem Alike.wyO (h:Alike c r):wyO c=wyO r:=by
 funext i;unfold YtllebkdchemabaaGreatDoor.wyO;rw[h.whO,(h.wy i).1,(h.wy i).2.1,(h.wy i).2.2,h.placeB,h.placeB]
theorem Alike.actB (h:Alike c r) (i:Int):actB c i=actB r i:=by
 have ha:=FJ (h.ac i);unfold YtllebkdchemabaaGreatDoor.actB act2 act3 act4 act5;rw[Og h.anms (fun i=>(FJ (h.ac i)).nm),ha.nm,ha.pl,ha.lk,ha.us,ha.se,ha.sp,ha.br,h.placeB,h.lprs,h.ths]
theorem Alike.acO (h:Alike c r):acO c=acO r:=by
 funext i;unfold YtllebkdchemabaaGreatDoor.acO;rw[h.whO,h.actB,(FJ (h.ac i)).wh]
theorem Alike.auO (h:Alike c r):auO c=auO r:=by
 funext i;unfold YtllebkdchemabaaGreatDoor.auO;rw[h.whO,h.ths,(h.au i).1,(h.au i).2.1,(h.au i).2.2]
theorem Alike.checkE (h:Alike c r):checkE c=checkE r:=by
 unfold YtllebkdchemabaaGreatDoor.checkE Gp IM Gf Gt Gr Gi glO;rw[h.manyB,h.plO,h.thO,h.prO,h.wyO,h.acO,h.auO,h.whO,h.pls,h.ths,h.lprs,h.lwys,h.lacs,h.laus,h.ply,h.gl]
theorem Alike.stE (h:Alike c r) (a b d:List Int):stE c a b d=stE r a b d:=by
 have e1:I7 c a=I7 r a:=by funext i;unfold I7;rw[h.ths]
 have e2:I3 c b=I3 r b:=by funext i;unfold I3;rw[h.placeB,h.ply]
 have e3:I1 c d=I1 r d:=by funext i;unfold I1;rw[h.placeB]
 unfold YtllebkdchemabaaGreatDoor.stE;rw[e1,e2,e3,h.ths,h.lprs,h.ply]
theorem Alike.stL (h:Alike c r) (x:P3):stL c x=stL r x:=by unfold YtllebkdchemabaaGreatDoor.stL;rw[h.checkE,h.stE]
theorem Alike.autoI (h:Alike c r) (ths:List Int):autoI c.aus.l ths=autoI r.aus.l ths:=by
 unfold YtllebkdchemabaaGreatDoor.autoI;rw[FN Auto.e _ (fun a=>DT ths a.wh.l&&!decide (nth ths a.t=a.s)) (fun a=>by simp[Auto.e,Sl.e]),h.aus,<-FN Auto.e (fun a=>DT ths a.wh.l&&!decide (nth ths a.t=a.s)) _ (fun a=>by simp[Auto.e,Sl.e])]
theorem Alike.settleN {c r:Room} (h:Alike c r):∀(n:Nat) (ths:List Int),settleN c.aus.l n ths=settleN r.aus.l n ths
 |0,_=>rfl
 |n+1,ths=>by rw[YtllebkdchemabaaGreatDoor.settleN,YtllebkdchemabaaGreatDoor.settleN,h.autoI,(h.au _).1,(h.au _).2.1,Alike.settleN h n]
theorem Alike.settleV (h:Alike c r) (x:P3):settleV c x=settleV r x:=by unfold YtllebkdchemabaaGreatDoor.settleV;rw[h.settleN]
theorem Alike.SettleV (h:Alike c r) (x:P3):SettleV c x=SettleV r x:=by
 unfold YtllebkdchemabaaGreatDoor.SettleV;rw[h.stL,h.settleV];cases YtllebkdchemabaaGreatDoor.settleV r x<;>rfl
theorem Alike.HoldsV (h:Alike c r) (x:P3) (l:List Lit):HoldsV c x l=HoldsV r x l:=by unfold YtllebkdchemabaaGreatDoor.HoldsV;rw[h.stL,h.ths]
theorem Alike.BeginV (h:Alike c r):BeginV c=BeginV r:=by
 have e:CX c=CX r:=by
  have:=congrArg (List.map Pro.pl) h.prs;rw[List.map_map,List.map_map]at this;unfold CX;rw[h.ths,h.ply,show c.prs.l.map Pro.pl=r.prs.l.map Pro.pl from this]
 unfold YtllebkdchemabaaGreatDoor.BeginV;rw[h.checkE,e,h.SettleV]
theorem Alike.legalB (h:Alike c r) (x:P3) (m:Move):legalB c x m=legalB r x m:=by
 have ha:=FJ (h.ac m.n);unfold YtllebkdchemabaaGreatDoor.legalB goB Q7 QF doB Vz TU RZ;rw[h.ply,h.lwys,h.lprs,h.lacs,(h.wy m.n).1,(h.wy m.n).2.1,(h.wy m.n).2.2,(h.pr m.n).2.2,ha.us,ha.br,ha.sp,ha.pl,ha.wh]
theorem Alike.moveX (h:Alike c r) (x:P3) (m:Move):moveX c x m=moveX r x m:=by
 have ha:=FJ (h.ac m.n);unfold YtllebkdchemabaaGreatDoor.moveX;rw[(h.wy m.n).1,(h.wy m.n).2.1,ha.se,ha.sp,ha.br]
theorem Alike.StepV (h:Alike c r) (x:P3) (m:Move):StepV c x m=StepV r x m:=by
 unfold YtllebkdchemabaaGreatDoor.StepV;rw[h.stL,h.legalB,h.moveX,h.settleV];cases YtllebkdchemabaaGreatDoor.settleV r (YtllebkdchemabaaGreatDoor.moveX r x m)<;>rfl
theorem Alike.LegalV (h:Alike c r) (x:P3):LegalV c x=LegalV r x:=by
 unfold YtllebkdchemabaaGreatDoor.LegalV Bt;rw[h.stL,h.ply,show YtllebkdchemabaaGreatDoor.legalB c x=YtllebkdchemabaaGreatDoor.legalB r x from funext fun m=>h.legalB x m]
theorem Alike.symm (h:c.e=r.e):Alike r c:=E1 h.symm
theorem Jgi (h:c.e=r.e) (hn:Near r):Near c:=by
 have ha:=E1 h;have hp:=fun i=>(ha.pr i);refine⟨by rw[ha.pls];exact hn.pls,by rw[ha.ths];exact hn.ths,by rw[ha.lprs];exact hn.prs,by rw[ha.lwys];exact hn.wys,by rw[ha.lacs];exact hn.acs,by rw[ha.laus];exact hn.aus,by rw[ha.gl];exact hn.gl,by rw[ha.pls];exact hn.pl,by rw[ha.ths];exact hn.th,fun x hx=>?_,fun x hx=>?_,fun x hx=>?_,fun x hx=>?_⟩
 ·obtain⟨i,h0,h1,rfl⟩:=Bz hx;have:=hn.pr _ (Ai (i:=i) h0 (by rw[<-ha.lprs];exact h1));rw[(ha.pr i).1,(ha.pr i).2.2];exact this
 ·obtain⟨i,h0,h1,rfl⟩:=Bz hx;have:=hn.wy _ (Ai (i:=i) h0 (by rw[<-ha.lwys];exact h1));rw[(ha.wy i).2.2];exact this
 ·obtain⟨i,h0,h1,rfl⟩:=Bz hx;have:=hn.ac _ (Ai (i:=i) h0 (by rw[<-ha.lacs];exact h1));have hb:=FJ (ha.ac i);rw[hb.nm,hb.wh,hb.us,hb.se,hb.sp,hb.br];exact this
 obtain⟨i,h0,h1,rfl⟩:=Bz hx;have:=hn.au _ (Ai (i:=i) h0 (by rw[<-ha.laus];exact h1));rw[(ha.au i).2.2];exact this
section
variable {P:Program} {l:List Value} {d:Option Tmp} {ty:TypeId} {ps:String} {af:Array Edge} {g:Option (Nat×Bool)} {C:World->Prop}
theorem KT {x z:Operand} {j:Int} (hT:P.underlying T=some .string) (hx:evo l x=some (.string a)) (hy:evo l y=some (.int .i64 i)) (hz:evo l z=some (.int .i64 j))
  (h:0<=i/\i<=j/\j<=a.size):Det P C ⟨d,.slice T x (some y) (some z) none,ty,ps,af,g⟩ l (.string (a.extract i.toNat j.toNat)):=fun u _=>by
 (replace hx:=Am hx;replace hy:=Am hy;replace hz:=Am hz)
 have e1:(0<=j/\j<=(a.size:Int)):=by omega
 have e2:0<=i/\i<=max j 0:=by omega
 simp[execOp,Ap,hx,hy,hz,Instr.sliceAt,Instr.slice,Instr.sliceBounds,Instr.sliceBound,asIntOf,run_underlying hT,e1,e2]
theorem DH {x:Operand} (hT:P.underlying T=some .string) (hx:evo l x=some (.string a)) (hy:evo l y=some (.int .i64 i))
  (h:0<=i/\i<=a.size):Det P C ⟨d,.slice T x (some y) none none,ty,ps,af,g⟩ l (.string (a.extract i.toNat a.size)):=fun u _=>by
 (replace hx:=Am hx;replace hy:=Am hy)
 simp[execOp,Ap,hx,hy,Instr.sliceAt,Instr.slice,Instr.sliceBounds,Instr.sliceBound,asIntOf,run_underlying hT,h.1,h.2]
end
def digB (n:Int):ByteArray:=⟨(Lib.decDigits n.toNat).toArray⟩
def whP (r:Room) (v:Int):ByteArray:=if 0<=v then nth r.pls.l v else if v<=-2 then digB (-2-v)else⟨#[103,111,110,101]⟩
def pcT (r:Room) (x:P3) (i:Int):ByteArray:=(nth r.ths.l i).nm++(⟨#[61]⟩:ByteArray)++digB (nth x.1 i)
def pcP (r:Room) (x:P3) (i:Int):ByteArray:=(nth r.prs.l i).nm++(⟨#[64]⟩:ByteArray)++whP r (nth x.2.1 i)
def pcL (r:Room) (x:P3) (i:Int):ByteArray:=digB i++(⟨#[64]⟩:ByteArray)++nth r.pls.l (nth x.2.2 i)
def pcs (r:Room) (x:P3):List ByteArray:=(Et r.ths.l.length).map (pcT r x)++(Et r.prs.l.length).map (pcP r x)++(Et x.2.2.length).map (pcL r x)
def jnB (xs:List ByteArray):ByteArray:=⟨(Lib.join (xs.map (·.data.toList)) [32]).toArray⟩
structure Shown (r:Room) (x:P3):Prop where
 lt:x.1.length=r.ths.l.length
 lp:x.2.1.length=r.prs.l.length
 ll:1<=x.2.2.length/\x.2.2.length<=4
 th:∀i:Int,0<=i->i<x.1.length->0<=nth x.1 i/\nth x.1 i<10
 pr:∀i:Int,0<=i->i<x.2.1.length->(0<=nth x.2.1 i/\nth x.2.1 i<r.pls.l.length)\/nth x.2.1 i = -1\/(-5<=nth x.2.1 i/\nth x.2.1 i<=-2)
 pl:∀i:Int,0<=i->i<x.2.2.length->0<=nth x.2.2 i/\nth x.2.2 i<r.pls.l.length
theorem Yz {n:Int} (h: -9223372036854775808<=n/\n<=9223372036854775807):IntKind.i64.wrap n=n:=IntWalk.i64_in _ h
theorem Jdj {x:Thing} (h:thB r x=true):2<=x.st/\x.st<=6:=by
 simp only[thB,Bool.and_eq_true,decide_eq_true_eq]at h;omega
theorem Shown.of {x:P3} (hR:Ready r) (hI:StIn r x):Shown r x:=by
 have hl:=hI.ll;have hp:=hR.ply;refine⟨hI.lt,hI.lp,by omega,fun i h0 h1=>?_,fun i h0 h1=>?_,fun i h0 h1=>?_⟩
 ·have h:=hI.th i h0 h1;have h2:=Jdj (hR.ths _ (Ai h0 (show i<(r.ths.l.length:Int) by rw[<-hI.lt];exact h1)));simp only[putB,Bool.and_eq_true,decide_eq_true_eq]at h;rw[Yz (by omega)]at h;omega
 ·have h:=hI.pr i h0 h1;simp only[placeB,Bool.or_eq_true,Bool.and_eq_true,decide_eq_true_eq]at h;omega
 have h:=hI.pl i h0 h1;simp only[placeB,Bool.and_eq_true,decide_eq_true_eq]at h;omega
section
variable {P:Program} {ro:Option Nat} {n0:Nat} {w0:World} {ds:List Deferred} {ops:Array Oper} {Q:Exit->Act->World->Prop} {L:List SA} {rest:List Oper} {l:List Value} {ty:TypeId} {ps:String} {af:Array Edge}
theorem WS.buildS1 {e:TypeId} {i:Nat} {x:Operand} {b:ByteArray} (hT:sl P T=some (e,1,by_)) (hz:zv P e=some zc) (hx:evo l x=some (.string b))
   (hl:∀v,lset l i v=some (l' v)) (kk:∀v,WS P ro n0 w0 ds ops Q (oT cStr e v [b]::L) rest (l' v)):
  WS P ro n0 w0 ds ops Q L (⟨some i,.buildSlice T 1 #[(0,x)],ty,ps,af,none⟩::rest) l:=
 WS.buildSlice1 (pl:=[(0,x)]) (vs:=[.string b]) hT hz (by simp[Am hx]) rfl (by decide) (fun v hv=>by simp at hv;subst hv;rfl) hl kk
end
theorem Q8 {s:Sl ByteArray} (hk:SlT cStr w s) (hp:0<s.l.length):∃b o c,s.v = .slice (some ⟨b,o,none⟩) s.l.length c/\s.l.length<=c/\b<w.heap.size/\∀(j:Nat) x,s.l[j]? = some x->w.cell? ⟨b,o+j,none⟩=some (.string x):=by
 obtain⟨hl,p,cap,e,hc,h0|⟨b,o,rfl,h⟩⟩:=hk.sp
 ·omega
 have h1:∀(j:Nat) x,s.l[j]? = some x->w.cell? ⟨b,o+j,none⟩=some (.string x):=fun j x hx=>by
  have hj:=(List.getElem?_eq_some_iff.1 hx).1;have h2:=BW cStr (l:=s.l) (i:=(j:Int)) (by omega) (by omega) 0 (by decide);rw[show cStr.k=1 from rfl,Nat.mul_one,Nat.add_zero,show((j:Int)).toNat=j by omega]at h2;refine h j (.string x) ?_;rw[h2];have e2:nth s.l (j:Int)=x:=by simp[nth,List.getD,hx]
  rw[e2];rfl
 refine⟨b,o,cap,e,hc.1,?_,h1⟩;obtain⟨x,hx⟩:∃x,s.l[0]? = some x:=⟨s.l[0],List.getElem?_eq_getElem hp⟩;exact World.block_lt_of_cell? w _ (h1 0 x hx)
theorem G0 (sep:List UInt8):∀(xs:List (List UInt8)) (n:Nat),(∀x∈xs,x.length<=n)->(Lib.joinTail sep xs).length<=(n+sep.length)*xs.length
 |[],n,_=>by simp[Lib.joinTail]
 |x::xs,n,h=>by
  have h1:=G0 sep xs n fun y hy=>h y (List.mem_cons_of_mem _ hy);have h2:=h x (List.mem_cons_self ..);have e:Lib.joinTail sep (x::xs)=sep++x++Lib.joinTail sep xs:=by simp[Lib.joinTail]
  rw[e];simp only[List.length_append,List.length_cons,Nat.mul_succ];omega
variable {xs:List ByteArray}
theorem Om (h:∀x∈xs,x.size<=n):(Lib.join (xs.map (·.data.toList)) [32]).length<=(n+1)*xs.length:=by
 cases xs with
 |nil=>simp[Lib.join]
 |cons x r=>
  have h0:=G0 [32] ((x::r).map (·.data.toList)) n (fun y hy=>by
   obtain⟨z,hz,rfl⟩:=List.mem_map.1 hy
   simpa using h z hz)
  have e:Lib.joinTail [32] ((x::r).map (·.data.toList))=32::Lib.join ((x::r).map (·.data.toList)) [32]:=by
   rw[List.map_cons,Lib.join_cons];simp[Lib.joinTail]
  rw[e]at h0;simp only[List.length_cons,List.length_map,List.length_nil,Nat.zero_add]at h0⊢;omega
abbrev bl (t:ByteArray):List UInt8:=t.data.toList
abbrev ba (l:List UInt8):ByteArray:=⟨l.toArray⟩
theorem Xs (t:ByteArray):ba (bl t)=t:=rfl
theorem Bp (t:ByteArray):(bl t).length=t.size:=by simp
theorem C9 {b:ByteArray}:seq a b=true↔a=b:=Lib.bytes_beq_iff a b
theorem Ej {t:ByteArray} {i:Nat} (h:i<t.size):byt t (i:Int)=(((bl t)[i]'(by rw[Bp];exact h)).toNat:Int):=by
 unfold byt;rw[show((i:Int)).toNat=i by omega];have e:t[i]? = some (t[i]'h):=by simp[h]
 rw[e]
 rfl
theorem JO {t:ByteArray}:0<=byt t i/\byt t i<=255:=by
 unfold byt;split
 ·rename_i b _;have:=b.toNat_lt;omega
 omega
def AO (c:UInt8):List UInt8->List (List UInt8)
 |[]=>[[]]
 |b::r=>if b=c then[]::AO c r else match AO c r with
  |x::xs=>(b::x)::xs
  |[]=>[[b]]
theorem C4 (c:UInt8):∀l,0<(AO c l).length
 |[]=>by simp[AO]
 |b::r=>by
  unfold AO;split
  ·simp
  split<;>simp
theorem Fu {c:UInt8}:∀{l:List UInt8},c∉l->AO c l=[l]
 |[],_=>rfl
 |b::r,h=>by
  have h1:¬b=c:=fun e=>h (by simp[e]);have h2:c∉r:=fun e=>h (by simp[e]);unfold AO;rw[if_neg h1,Fu h2]
theorem GH {c:UInt8}:∀{l m:List UInt8},c∉l->AO c (l++c::m)=l::AO c m
 |[],m,_=>by simp[AO]
 |b::r,m,h=>by
  have h1:¬b=c:=fun e=>h (by simp[e]);have h2:c∉r:=fun e=>h (by simp[e]);rw[List.cons_append,AO,if_neg h1,GH h2]
def Ab (c:UInt8) (t:ByteArray):List ByteArray:=(AO c (bl t)).map ba
theorem AE (c:UInt8) (t:ByteArray):0<(Ab c t).length:=by simp[Ab,C4]
theorem Jw (c:UInt8):∀l:List UInt8,Lib.splitK [c] 0 (Lib.count l [c]) l=AO c l
 |[]=>by rw[Lib.count_one];rfl
 |b::r=>by
  have ih:=Jw c r
  by_cases h:b=c
  ·subst h;rw[Lib.count_cons_eq,Nat.add_comm];unfold Lib.splitK AO;have hi:Lib.index (b::r) [b]=0:=by rw[Lib.index];simp[List.isPrefixOf]
   rw[hi,if_neg (by decide),if_pos rfl];simp[ih]
  rw[Lib.count_cons_ne _ _ _ h];have hp:([c]:List UInt8).isPrefixOf (b::r)=false:=by simp[List.isPrefixOf,Ne.symm h]
  have hi:Lib.index (b::r) [c]=if Lib.index r [c] == -1 then -1 else Lib.index r [c]+1:=by rw[Lib.index,hp];simp
  unfold AO;rw[if_neg h,<-ih];cases hk:Lib.count r [c]with
  |zero=>rfl
  |succ k=>
   have hne:¬Lib.index r [c] = -1:=fun e=>by rw[Lib.count_miss e]at hk;cases hk
   have hge:=Lib.index_ge r [c];unfold Lib.splitK;rw[hi,if_neg (show¬(Lib.index r [c] == -1)=true by simpa using hne),if_neg (show¬(Lib.index r [c]+1 == -1)=true by simp;omega)];have e1:(Lib.index r [c]+1).toNat=(Lib.index r [c]).toNat+1:=by omega
   simp only[e1,Nat.add_zero,List.take_succ_cons,List.length_cons,List.length_nil,Nat.zero_add,List.drop_succ_cons];rw[if_neg (show¬(Lib.index r [c] == -1)=true by simpa using hne)]
theorem Jh (c:UInt8) (s:ByteArray):Lib.splitB ⟨#[c]⟩ 0 (Lib.countB s ⟨#[c]⟩) s=Ab c s:=by
 have h:=Lib.splitB_data ⟨#[c]⟩ 0 (Lib.countB s ⟨#[c]⟩) s;have h2:Lib.splitK [c] 0 (Lib.count (bl s) [c]) (bl s)=AO c (bl s):=Jw c (bl s);have h3:(Lib.splitB ⟨#[c]⟩ 0 (Lib.countB s ⟨#[c]⟩) s).map bl=AO c (bl s):=h.trans h2;unfold Ab;rw[<-h3,List.map_map]
 conv=>lhs;rw[<-List.map_id (Lib.splitB ⟨#[c]⟩ 0 (Lib.countB s ⟨#[c]⟩) s)]
 rfl
theorem JA (c:UInt8) (s:ByteArray):Lib.countB s ⟨#[c]⟩+1=(Ab c s).length:=by
 rw[<-Jh,Lib.splitB_all ⟨#[c]⟩ (show 1<=1 by decide) 0 _ _ rfl]
def SplitI (c:UInt8) (t:ByteArray) (i f:Int) (xs:List ByteArray):Prop:=
 (0<=f/\f<=i/\i<=t.size/\c∉((bl t).drop f.toNat).take (i.toNat-f.toNat)/\xs++(AO c ((bl t).drop f.toNat)).map ba=Ab c t)\/(i=t.size+1/\xs=Ab c t)
theorem SplitI.start (c:UInt8) (t:ByteArray):SplitI c t 0 0 []:=.inl ⟨by omega,by omega,by omega,by simp,by simp[Ab]⟩
theorem IW {t:ByteArray} {a b:Nat}:t.extract a b=ba (((bl t).drop a).take (b-a)):=by
 apply ByteArray.ext
 apply Array.toList_inj.1
 show _=(((bl t).drop a).take (b-a));rw[ByteArray.data_extract,Array.toList_extract]
theorem SplitI.other {c:UInt8} {t:ByteArray} {f:Int} (h:SplitI c t i f xs) (hi:i<t.size) (hb:¬byt t i=(c.toNat:Int)):SplitI c t (i+1) f xs:=by
 rcases h with⟨h0,h1,h2,h3,h4⟩|⟨h1,_⟩
 ·refine .inl ⟨h0,by omega,by omega,?_,h4⟩;rw[show(i+1).toNat-f.toNat=(i.toNat-f.toNat)+1 by omega];have hl:i.toNat-f.toNat<((bl t).drop f.toNat).length:=by rw[List.length_drop,Bp];omega
  rw[List.take_succ_eq_append_getElem hl,List.mem_append,not_or];refine⟨h3,fun hm=>hb ?_⟩;rw[List.mem_singleton,List.getElem_drop]at hm;have e:=Ej (t:=t) (i:=i.toNat) (by omega);rw[show((i.toNat:Nat):Int)=i by omega]at e;rw[e,hm];congr 2;congr 1;omega
 omega
theorem SplitI.hit {c:UInt8} {t:ByteArray} {f:Int} (h:SplitI c t i f xs) (hi:i<t.size) (hb:byt t i=(c.toNat:Int)):SplitI c t (i+1) (i+1) (xs++[t.extract f.toNat i.toNat]):=by
 rcases h with⟨h0,h1,h2,h3,h4⟩|⟨h1,_⟩
 ·refine .inl ⟨by omega,by omega,by omega,by simp,?_⟩;have hi2:i.toNat<(bl t).length:=by rw[Bp];omega
  have e0:(bl t).drop i.toNat=c::(bl t).drop (i+1).toNat:=by
   rw[List.drop_eq_getElem_cons hi2,show(i+1).toNat=i.toNat+1 by omega];congr 1;have e:=Ej (t:=t) (i:=i.toNat) (by omega);rw[show((i.toNat:Nat):Int)=i by omega]at e;rw[hb]at e;exact(UInt8.toNat_inj.1 (by omega)).symm
  have e:(bl t).drop f.toNat=((bl t).drop f.toNat).take (i.toNat-f.toNat)++c::(bl t).drop (i+1).toNat:=by
   conv=>lhs;rw[<-List.take_append_drop (i.toNat-f.toNat) ((bl t).drop f.toNat)]
   rw[List.drop_drop,show f.toNat+(i.toNat-f.toNat)=i.toNat by omega,e0]
  rw[<-h4]
  conv=>rhs;rw[e,GH h3]
  rw[IW,List.append_assoc]
  rfl
 omega
theorem SplitI.last {c:UInt8} {t:ByteArray} {f:Int} (h:SplitI c t i f xs) (hi:i=t.size):SplitI c t (i+1) (i+1) (xs++[t.extract f.toNat i.toNat]):=by
 rcases h with⟨h0,h1,h2,h3,h4⟩|⟨h1,_⟩
 ·refine .inr ⟨by omega,?_⟩;have e:((bl t).drop f.toNat).take (i.toNat-f.toNat)=(bl t).drop f.toNat:=List.take_of_length_le (by rw[List.length_drop,Bp];omega);rw[e]at h3;rw[<-h4,Fu h3,IW,e]
  rfl
 omega
theorem SplitI.fin {c:UInt8} {t:ByteArray} {f:Int} (h:SplitI c t i f xs) (hi:¬i<=t.size):xs=Ab c t:=by
 rcases h with⟨h0,h1,h2,h3,h4⟩|⟨h1,h2⟩
 ·omega
 exact h2
theorem SplitI.bd {c:UInt8} {t:ByteArray} {f:Int} (h:SplitI c t i f xs) (hi:i<=t.size):0<=f/\f<=i:=by
 rcases h with⟨h0,h1,_⟩|⟨h1,_⟩
 ·exact⟨h0,h1⟩
 omega
theorem Jd (c:UInt8):∀l:List UInt8,(AO c l).length<=l.length+1
 |[]=>by simp[AO]
 |b::r=>by
  have ih:=Jd c r;unfold AO;split
  ·simp;omega
  split
  ·rename_i x xs h;rw[h]at ih;simp at ih⊢;omega
  simp
theorem Bn (c:UInt8) (t:ByteArray):(Ab c t).length<=t.size+1:=by
 have:=Jd c (bl t);simp only[Ab,List.length_map];rw[Bp]at this;exact this
theorem SplitI.len {c:UInt8} {t:ByteArray} {f:Int} (h:SplitI c t i f xs):xs.length<=t.size+1:=by
 have hl:=Bn c t;rcases h with⟨_,_,_,_,h4⟩|⟨_,h2⟩
 ·have:=congrArg List.length h4;rw[List.length_append]at this;omega
 rw[h2];exact hl
theorem Mj (c:UInt8):∀(l x:List UInt8),x∈AO c l->x.length<=l.length
 |[],x,h=>by simp[AO]at h;subst h;simp
 |b::r,x,h=>by
  have ih:=Mj c r;unfold AO at h;split at h
  ·rcases List.mem_cons.1 h with rfl|h
   ·simp
   have:=ih x h;simp;omega
  split at h
  ·rename_i y ys hs;rw[hs]at ih;rcases List.mem_cons.1 h with rfl|h
   ·have:=ih y (by simp);simp;omega
   have:=ih x (by simp[h]);simp;omega
  rcases List.mem_cons.1 h with rfl|h
  ·simp
  cases h
theorem A6 {c:UInt8} {t x:ByteArray} (h:x∈Ab c t):x.size<=t.size:=by
 obtain⟨l,hl,rfl⟩:=List.mem_map.1 h;have:=Mj c _ _ hl;rw[Bp]at this;exact this
def AV (l:List UInt8):Bool:=l.all fun b=>decide (48<=b.toNat)&&decide (b.toNat<=57)
def AB (t:ByteArray) (most:Int):Bool:=(decide ((1:Int)<=t.size)&&decide ((t.size:Int)<=most))&&AV (bl t)
theorem MX {t:ByteArray} (h:∀j:Int,0<=j->j<t.size->48<=byt t j/\byt t j<=57):AV (bl t)=true:=by
 unfold AV;rw[List.all_eq_true];intro b hb;obtain⟨i,hi,rfl⟩:=List.mem_iff_getElem.1 hb;have hi2:i<t.size:=by rw[<-Bp];exact hi
 have:=h i (by omega) (by omega);rw[Ej hi2]at this;simp only[Bool.and_eq_true,decide_eq_true_eq];omega
theorem Oy {t:ByteArray} (h:AV (bl t)=true) {j:Int} (h0:0<=j) (h1:j<t.size):48<=byt t j/\byt t j<=57:=by
 have hj:j.toNat<t.size:=by omega
 have e:=Ej hj;rw[show((j.toNat:Nat):Int)=j by omega]at e;unfold AV at h;have:=List.all_eq_true.1 h _ (List.getElem_mem (show j.toNat<(bl t).length by rw[Bp];exact hj));simp only[Bool.and_eq_true,decide_eq_true_eq]at this;omega
theorem R1 {t:ByteArray} (h0:0<=i) (h1:i<t.size) (h:byt t i<48\/57<byt t i):AV (bl t)=false:=by
 cases hd:AV (bl t)with
 |false=>rfl
 |true=>have:=Oy hd h0 h1;omega
def decL:List UInt8:=[48,49,50,51,52,53,54,55,56,57]
theorem TN (b:UInt8):decL.contains b=(decide (48<=b.toNat)&&decide (b.toNat<=57)):=by
 have h:∀n:Nat,n<256->∀m:Nat,m<256->(UInt8.ofNat n=UInt8.ofNat m↔n=m):=fun n hn m hm=>by
  rw[<-UInt8.toNat_inj];simp[Nat.mod_eq_of_lt hn,Nat.mod_eq_of_lt hm]
 rw[Bool.eq_iff_iff];simp only[decL,List.contains_cons,List.contains_nil,Bool.or_false,Bool.or_eq_true,beq_iff_eq,Bool.and_eq_true,decide_eq_true_eq,<-UInt8.toNat_inj];have:=b.toNat_lt;have e:(48:UInt8).toNat=48/\(49:UInt8).toNat=49/\(50:UInt8).toNat=50/\(51:UInt8).toNat=51/\(52:UInt8).toNat=52/\(53:UInt8).toNat=53/\(54:UInt8).toNat=54/\(55:UInt8).toNat=55/\(56:UInt8).toNat=56/\(57:UInt8).toNat=57:=by decide
 omega
theorem Hy {p:UInt8->Bool}:∀{l:List UInt8},l.dropWhile p=[]↔l.all p=true
 |[]=>by simp
 |b::r=>by
  rw[List.dropWhile_cons];split
  ·rename_i h;rw[Hy,List.all_cons,h,Bool.true_and]
  rename_i h;simp[h]
theorem VT (l:List UInt8):(Lib.trimS l decL=[])↔AV l=true:=by
 have e:∀m:List UInt8,(m.all fun b=>decL.contains b)=AV m:=fun m=>by
  unfold AV;congr 1;funext b;exact TN b
 unfold Lib.trimS Lib.trimLeftS Lib.trimRightS;rw[Hy,List.all_reverse,e];constructor
 ·intro h
  by_cases hd:l.reverse.dropWhile (fun b=>decL.contains b)=[]
  ·rw[Hy,List.all_reverse,e]at hd;exact hd
  exfalso;have h1:=List.head_dropWhile_not (fun b=>decL.contains b) hd;have h2:(l.reverse.dropWhile fun b=>decL.contains b).head hd∈l.reverse.dropWhile fun b=>decL.contains b:=List.head_mem hd;have h3:=List.all_eq_true.1 h _ h2;rw[TN]at h1;rw[h3]at h1;cases h1
 intro h;have:l.reverse.dropWhile (fun b=>decL.contains b)=[]:=by rw[Hy,List.all_reverse,e];exact h
 rw[this];rfl
theorem HJ (t:ByteArray):seq ⟨(Lib.trimS (bl t) decL).toArray⟩ ⟨#[]⟩=AV (bl t):=by
 rw[Bool.eq_iff_iff,C9,<-VT];constructor
 ·intro h;have:=congrArg (fun x:ByteArray=>x.data.toList) h
  simpa using this
 intro h;rw[h]
def numL (l:List UInt8):Int:=l.foldl (fun n b=>10*n+((b.toNat:Int)-48)) 0
def numB (most:Int) (t:ByteArray):Option Int:=if AB t most&&!(decide (byt t 0=48)&&decide ((1:Int)<t.size))then some (numL (bl t))else none
theorem OJ:∀(l:List UInt8) (acc:Nat),AV l=true->∃n:Nat,Lib.decFrom acc l=some n/\(n:Int)=l.foldl (fun n b=>10*n+((b.toNat:Int)-48)) (acc:Int)
 |[],acc,_=>⟨acc,rfl,rfl⟩
 |b::r,acc,h=>by
  simp only[AV,List.all_cons,Bool.and_eq_true,decide_eq_true_eq]at h;have hd:Lib.digitVal b=some (b.toNat-48):=by unfold Lib.digitVal;rw[if_pos h.1]
  obtain⟨n,h1,h2⟩:=OJ r (acc*10+(b.toNat-48)) (by simpa [AV]using h.2);refine⟨n,by unfold Lib.decFrom;rw[hd];exact h1,?_⟩;rw[h2,List.foldl_cons];congr 1;omega
theorem Wm {t:ByteArray} {most:Int} (h:AB t most=true):Lib.atoi (bl t)=some (numL (bl t)):=by
 simp only[AB,Bool.and_eq_true,decide_eq_true_eq]at h;have hne:bl t≠[]:=fun e=>by have:=Bp t;rw[e]at this;simp at this;omega
 obtain⟨n,h1,h2⟩:=OJ (bl t) 0 h.2;cases hb:bl t with
 |nil=>exact absurd hb hne
 |cons b r=>
  rw[hb]at h1 h2;have hd:=h.2;rw[hb]at hd;simp only[AV,List.all_cons,Bool.and_eq_true,decide_eq_true_eq]at hd
  have e1:(b == 45)=false:=by
   rw[beq_eq_false_iff_ne];rintro rfl;have:(45:UInt8).toNat=45:=by decide
   omega
  have e2:(b == 43)=false:=by
   rw[beq_eq_false_iff_ne];rintro rfl;have:(43:UInt8).toNat=43:=by decide
   omega
  simp only[Lib.atoi,e1,e2,Bool.false_eq_true,if_false,Lib.decNat,List.isEmpty_cons,h1,Option.map_some];rw[h2];rfl
theorem H0:∀(l:List UInt8) (a k:Int),AV l=true->0<=a->a<k->0<=l.foldl (fun n b=>10*n+((b.toNat:Int)-48)) a/\l.foldl (fun n b=>10*n+((b.toNat:Int)-48)) a<k*10^l.length
 |[],a,k,_,h0,h1=>by simp;omega
 |b::r,a,k,h,h0,h1=>by
  simp only[AV,List.all_cons,Bool.and_eq_true,decide_eq_true_eq]at h;have ih:=H0 r (10*a+((b.toNat:Int)-48)) (10*k) (by simpa [AV]using h.2) (by omega) (by omega);rw[List.foldl_cons,List.length_cons,Int.pow_succ];refine⟨ih.1,?_⟩;have e:k*(10^r.length*10)=10*k*10^r.length:=by rw[Int.mul_comm (10^r.length) 10,<-Int.mul_assoc,Int.mul_comm k 10]
  rw[e];exact ih.2
theorem RJ {l:List UInt8} (h:AV l=true):0<=numL l/\numL l<10^l.length:=by
 have:=H0 l 0 1 h (by omega) (by omega);rw[Int.one_mul]at this;exact this
theorem Lj (l:List UInt8) (b:UInt8):numL (l++[b])=10*numL l+((b.toNat:Int)-48):=by simp[numL]
theorem Ef {t:ByteArray} (h:AB t m=true):(0:Int)<t.size/\(t.size:Int)<=m:=by
 simp only[AB,Bool.and_eq_true,decide_eq_true_eq]at h;omega
theorem Fv {t:ByteArray} (h:AB t m=true):AV (bl t)=true:=by
 simp only[AB,Bool.and_eq_true,decide_eq_true_eq]at h;exact h.2
theorem WC {t:ByteArray} (h:AB t m=true) (hm:m<=9) (i:Nat):0<=numL ((bl t).take i)/\numL ((bl t).take i)<1000000000:=by
 have hs:=Ef h
 have ha:AV ((bl t).take i)=true:=by
  have:=Fv h;unfold AV at this⊢;rw[List.all_eq_true]at this⊢;exact fun b hb=>this b (List.mem_of_mem_take hb)
 have hb:=RJ ha
 have hl:((bl t).take i).length<=9:=by
  rw[List.length_take,Bp];omega
 refine⟨hb.1,?_⟩
 have h2:∀k:Nat,k<=9->(10:Int)^k<=1000000000:=fun k hk=>by
  rcases(show k=0\/k=1\/k=2\/k=3\/k=4\/k=5\/k=6\/k=7\/k=8\/k=9 by omega)with rfl|rfl|rfl|rfl|rfl|rfl|rfl|rfl|rfl|rfl<;>decide
 have:=h2 _ hl;omega
theorem Pd {t:ByteArray} (h0:0<=i) (h1:i<t.size):numL ((bl t).take (i+1).toNat)=10*numL ((bl t).take i.toNat)+(byt t i-48):=by
 have hl:i.toNat<(bl t).length:=by rw[Bp];omega
 rw[show(i+1).toNat=i.toNat+1 by omega,List.take_succ_eq_append_getElem hl,Lj];have e:=Ej (t:=t) (i:=i.toNat) (by omega);rw[show((i.toNat:Nat):Int)=i by omega]at e;rw[e]
theorem Eh {t:ByteArray} (h:AB t m=false\/byt t 0=48/\(1:Int)<t.size):numB m t=none:=by
 unfold numB;rcases h with h|h
 ·rw[h];rfl
 rw[if_neg];simp[h.1,h.2]
theorem GC {t:ByteArray} (h:AB t m=true) (h2:byt t 0=48->¬(1:Int)<t.size):numB m t=some (numL (bl t)):=by
 unfold numB;rw[if_pos];simp only[h,Bool.true_and,Bool.not_eq_true',Bool.and_eq_false_iff,decide_eq_false_iff_not]
 by_cases hb:byt t 0=48
 ·exact .inr (h2 hb)
 exact .inl hb
theorem EQ {t:ByteArray} (h:byt t 0=48) (h1:(0:Int)<t.size):seq t ⟨#[48]⟩ = !decide ((1:Int)<t.size):=by
 rw[Bool.eq_iff_iff,C9];simp only[Bool.not_eq_true',decide_eq_false_iff_not];constructor
 ·rintro rfl;decide
 intro h2;have hl:(bl t).length=1:=by rw[Bp];omega
 obtain⟨b,hb⟩:=List.length_eq_one_iff.1 hl;have e:=Ej (t:=t) (i:=0) (by omega);have e2:(bl t)[0]'(by omega)=b:=by simp[hb]
 rw[e2]at e;have h5:(48:UInt8).toNat=48:=by decide
 have h4:byt t ((0:Nat):Int)=48:=h;have e3:b=48:=UInt8.toNat_inj.1 (by omega);subst e3;rw[<-Xs t,hb]
theorem CZ (l:List α):(l.drop 1).take (l.length-1)=l.tail:=by
 rw[List.take_of_length_le (by simp),List.drop_one]
theorem St.roCut {lo hi:Nat} (h:St n0 w0 (roT C s::L) u) (h0:lo<=hi) (h1:hi<=s.l.length):St n0 w0 (roT C (s.cut C.k lo hi)::L) u:=
 St.toRo (A:=roT C s) (p:=fun u=>SlT C u (s.cut C.k lo hi)) (fun S u h=>(roS.now h).cut h0 h1) h
abbrev Wds:=List ByteArray
def resB (t:ByteArray):Bool:=wordL.any fun x=>seq x t
def isW (t:ByteArray) (ws:Wds):Bool:=match ws with
 |x::_=>seq x t
 |[]=>false
def BN (ws:Wds):Option (ByteArray×Wds):=match ws with
 |t::r=>some (t,r)
 |[]=>none
def CL (ws:Wds):Option (ByteArray×Wds):=(BN ws).bind fun x=>if Au x.1 then some x else none
def idxN (f:α->ByteArray) (l:List α) (t:ByteArray):Int:=idxF (fun x=>seq (f x) t) l
def A8 (f:α->ByteArray) (l:List α) (ws:Wds):Option (Int×Wds):=(CL ws).bind fun x=>if 0<=idxN f l x.1 then some (idxN f l x.1,x.2)else none
def numW (m:Int) (ws:Wds):Option (Int×Wds):=(BN ws).bind fun x=>(numB m x.1).map fun n=>(n,x.2)
def Eo (t:ByteArray) (ws:Wds):Option Wds:=if isW t ws then some ws.tail else none
def DR:List UInt8->Nat
 |[]=>0
 |b::r=>if b=61\/b=33 then 0 else DR r+1
def AJ (t:ByteArray):Nat:=DR (bl t)
def litT (ths:List Thing) (t:ByteArray):Option Lit:=
 if AJ t<t.size/\Au (t.extract 0 (AJ t))=true/\0<=idxN Thing.nm ths (t.extract 0 (AJ t))then
  (numB 2 (t.extract (AJ t+1) t.size)).map fun n=>⟨idxN Thing.nm ths (t.extract 0 (AJ t)),n,decide (byt t (AJ t)=33)⟩
 else none
def BE (ths:List Thing):Wds->Option (List Lit×Wds)
 |[]=>some ([],[])
 |t::r=>if resB t then some ([],t::r)else match litT ths t,BE ths r with
  |some a,some (c,r')=>some (a::c,r')
  |_,_=>none
def ifW:ByteArray:=⟨#[105,102]⟩
def CB (ths:List Thing) (ws:Wds):Option (List Lit×Wds):=
 if isW ifW ws then(BE ths ws.tail).bind fun x=>if x.1=[]then none else some x else some ([],ws)
def BR (prs:List Pro):Wds->Option (List Int×Wds)
 |[]=>some ([],[])
 |t::r=>if resB t then some ([],t::r)else if Au t=true/\0<=idxN Pro.nm prs t then match BR prs r with
  |some (c,r')=>some (idxN Pro.nm prs t::c,r')
  |none=>none
  else none
def EZ (prs:List Pro) (word:ByteArray) (ws:Wds):Option (List Int×Wds):=
 if isW word ws then(BR prs ws.tail).bind fun x=>if x.1=[]then none else some x else some ([],ws)
def ED:List Lit->Option (List Put)
 |[]=>some []
 |a::c=>if a.nt then none else(ED c).map fun r=>⟨a.t,a.s⟩::r
def I0 (ths:List Thing) (ws:Wds):Option (List Put×Wds):=
 if isW ⟨#[115,101,116,115]⟩ ws then(BE ths ws.tail).bind fun x=>(ED x.1).bind fun p=>if p=[]then none else some (p,x.2)else some ([],ws)
inductive Ln where
 |place (nm:ByteArray)
 |thing (x:Thing)
 |prop (nm:ByteArray) (pl:Int) (wh:List Lit)
 |way (a b:Int) (wh:List Lit)
 |act (nm:ByteArray) (pl lk:Int) (us:List Int) (wh:List Lit) (se:List Put) (sp br:List Int)
 |auto (t s:Int) (wh:List Lit)
 |players (n:Int)
 |goal (c:List Lit)
def kindsL:List ByteArray:=[⟨#[112,108,97,99,101]⟩,⟨#[116,104,105,110,103]⟩,⟨#[112,114,111,112]⟩,⟨#[119,97,121]⟩,⟨#[97,99,116]⟩,⟨#[97,117,116,111]⟩,⟨#[112,108,97,121,101,114,115]⟩,⟨#[103,111,97,108]⟩]
def E2 (t:ByteArray):Int:=idxN id kindsL t
def atW:ByteArray:=⟨#[97,116]⟩
def N7:ByteArray:=⟨#[115,116,97,116,101,115]⟩
def Sh:ByteArray:=⟨#[115,116,97,114,116]⟩
def Vo:ByteArray:=⟨#[103,111,110,101]⟩
def Br:ByteArray:=⟨#[108,111,99,107]⟩
def YC:ByteArray:=⟨#[119,105,116,104]⟩
def N8:ByteArray:=⟨#[115,112,101,110,100,115]⟩
def MY:ByteArray:=⟨#[98,114,105,110,103,115]⟩
def Dw (r:Room) (ws:Wds):Option (Ln×Wds):=
 (CL ws).bind fun n=>(Eo atW n.2).bind fun w1=>(A8 id r.pls.l w1).bind fun p=>(Eo N7 p.2).bind fun w2=>(numW 2 w2).bind fun s=>(Eo Sh s.2).bind fun w3=>(numW 2 w3).map fun t=>(.thing ⟨n.1,p.1,s.1,t.1⟩,t.2)
def GX (r:Room) (ws:Wds):Option (Int×Wds):=if isW Vo ws then some (-1,ws.tail)else(Eo atW ws).bind fun w1=>A8 id r.pls.l w1
def JY (r:Room) (ws:Wds):Option (Ln×Wds):=
 (CL ws).bind fun n=>(GX r n.2).bind fun p=>(CB r.ths.l p.2).map fun c=>(.prop n.1 p.1 c.1,c.2)
def wayW (r:Room) (ws:Wds):Option (Ln×Wds):=
 (A8 id r.pls.l ws).bind fun a=>(A8 id r.pls.l a.2).bind fun b=>(CB r.ths.l b.2).map fun c=>(.way a.1 b.1 c.1,c.2)
def FB (ws:Wds):Option (Int×Wds):=if isW Br ws then numW 2 ws.tail else some (-1,ws)
def actW (r:Room) (ws:Wds):Option (Ln×Wds):=
 (CL ws).bind fun n=>(Eo atW n.2).bind fun w1=>(A8 id r.pls.l w1).bind fun p=>(FB p.2).bind fun k=>(EZ r.prs.l YC k.2).bind fun u=>(CB r.ths.l u.2).bind fun c=>(I0 r.ths.l c.2).bind fun s=>
  (EZ r.prs.l N8 s.2).bind fun x=>(EZ r.prs.l MY x.2).map fun y=>(.act n.1 p.1 k.1 u.1 c.1 s.1 x.1 y.1,y.2)
def IF (r:Room) (ws:Wds):Option (Ln×Wds):=
 (BN ws).bind fun t=>(litT r.ths.l t.1).bind fun a=>if a.nt then none else(CB r.ths.l t.2).map fun c=>(.auto a.t a.s c.1,c.2)
def HI (ws:Wds):Option (Ln×Wds):=(numW 2 ws).map fun n=>(.players n.1,n.2)
def Vl (r:Room) (ws:Wds):Option (Ln×Wds):=(BE r.ths.l ws).map fun c=>(.goal c.1,c.2)
def A9 (r:Room) (k:Int) (ws:Wds):Option (Ln×Wds):=
 if k=0 then(CL ws).map fun n=>(.place n.1,n.2)else if k=1 then Dw r ws else if k=2 then JY r ws else if k=3 then wayW r ws else if k=4 then actW r ws else if k=5 then IF r ws
 else if k=6 then HI ws else Vl r ws
def mayK (kd k:Int):Bool:=decide (kd<=k)&&(!(decide (6<=kd)&&!decide (k=kd+1))&&(decide (k<7)||decide (kd=6)))
def BC (r:Room) (kd:Int) (t:ByteArray):Option (Int×Ln):=
 (BN (Ab 32 t)).bind fun h=>if mayK kd (E2 h.1)then(A9 r (E2 h.1) h.2).bind fun x=>if x.2=[]then some (E2 h.1,x.1)else none else none
def nls (l:List α):Sl α:=⟨.slice none 0 0,l⟩
def addL (r:Room):Ln->Room
 | .place nm=>{r with pls:=nls (r.pls.l++[nm])}
 | .thing x=>{r with ths:=nls (r.ths.l++[x])}
 | .prop nm pl wh=>{r with prs:=nls (r.prs.l++[⟨nm,pl,nls wh⟩])}
 | .way a b wh=>{r with wys:=nls (r.wys.l++[⟨a,b,nls wh⟩])}
 | .act nm pl lk us wh se sp br=>{r with acs:=nls (r.acs.l++[⟨nm,pl,lk,nls us,nls wh,nls se,nls sp,nls br⟩])}
 | .auto t s wh=>{r with aus:=nls (r.aus.l++[⟨nls wh,t,s⟩])}
 | .players n=>{r with ply:=n}
 | .goal c=>{r with gl:=nls c}
def room0:Room:=⟨nls [],nls [],nls [],nls [],nls [],nls [],0,nls []⟩
def agf (P:Program) (f:Field):Option (Nat×Nat):=
 if f.name == "_" then none else if P.plainKey f.type then
  match P.underlying f.type with
  |some (.int _)=>some (f.offset,0)
  |some .bool=>some (f.offset,1)
  |some .string=>some (f.offset,2)
  |_=>none
 else none
def agl (P:Program):List Field->Option (List (Nat×Nat))
 |[]=>some []
 |f::fs=>match agf P f,agl P fs with
  |some a,some r=>some (a::r)
  |_,_=>none
def agq (P:Program) (T:TypeId):Option (List (Nat×Nat)):=
 match P.underlying T with
 |some (.struct fs)=>if P.stoodInHeld T||P.eqGuardType P.depth T then none else agl P fs.toList
 |_=>none
def cmp1:Nat->Option Value->Option Value->Option Bool
 |0,some (.int .i64 a),some (.int .i64 b)=>some (decide (a=b))
 |1,some (.bool a),some (.bool b)=>some (a == b)
 |2,some (.string a),some (.string b)=>some (seq a b)
 |_,_,_=>none
def cmps (xs ys:List Value):List (Nat×Nat)->Option Bool
 |[]=>some true
 |(o,k)::sp=>match cmp1 k xs[o]? ys[o]?,cmps xs ys sp with
  |some a,some r=>some (a&&r)
  |_,_=>none
variable {sp:List (Nat×Nat)}
section
variable {P:Program}
theorem ZN {f:Field} {o:Nat} {xs ys:List Value} {d:Nat} (hf:agf P f=some (o,k)) (hb:cmp1 k xs[o]? ys[o]? = some b):
  f.name≠ "_" /\∃x y,(Go.part f.type xs.toArray f.offset).run P w = .ok x w/\(Go.part f.type ys.toArray f.offset).run P w = .ok y w/\(Op.equalIn (d+1) f.type x y).run P w = .ok b w:=by
 unfold agf at hf;split at hf
 ·cases hf
 rename_i hn;refine⟨by simpa using hn,?_⟩;split at hf
 ·rename_i hp;split at hf
  ·rename_i k' hu;cases hf;unfold cmp1 at hb;split at hb<;>first|cases hb|skip
   ·rename_i a b' _ hx hy;refine⟨_,_,run_part_plain w hp (by simpa using hx),run_part_plain w hp (by simpa using hy),?_⟩;rw[run_equalIn_int w d f.type .i64 k' a b' hu]
    by_cases h:a=b'<;>simp[h]
   all_goals simp_all
  ·rename_i hu;cases hf;unfold cmp1 at hb;split at hb<;>first|cases hb|skip
   ·simp_all
   ·rename_i a b' _ hx hy;refine⟨_,_,run_part_plain w hp (by simpa using hx),run_part_plain w hp (by simpa using hy),?_⟩;exact run_equalIn_bool' w d f.type a b' hu
   all_goals simp_all
  ·rename_i hu;cases hf;unfold cmp1 at hb;split at hb<;>first|cases hb|skip
   ·simp_all
   ·simp_all
   rename_i a b' _ hx hy;refine⟨_,_,run_part_plain w hp (by simpa using hx),run_part_plain w hp (by simpa using hy),?_⟩;exact run_equalIn_string w d f.type a b' hu
  cases hf
 cases hf
theorem Uo {w:World} {xs ys:List Value} {d:Nat}:∀{fs:List Field} {sp:List (Nat×Nat)} {b:Bool},agl P fs=some sp->cmps xs ys sp=some b->(Op.eqFields (d+1) xs.toArray ys.toArray fs).run P w = .ok b w
 |[],sp,b,h,hb=>by
  simp[agl]at h;subst h;simp[cmps]at hb;subst hb;simp[Op.eqFields]
 |f::fs,sp,b,h,hb=>by
  unfold agl at h;split at h
  ·rename_i a r ha hr;cases h;obtain⟨o,k⟩:=a;unfold cmps at hb;split at hb
   ·rename_i c r' hc hr';cases hb;obtain⟨hn,x,y,p1,p2,p3⟩:=ZN (w:=w) (d:=d) ha hc;have ih:=Uo (w:=w) (d:=d) hr hr';simp only[Op.eqFields,hn,ne_eq,not_false_eq_true,if_true,Sem.run_bind,p1,p2,p3,Result.andThen_ok];cases c
    ·simp
    simpa using ih
   cases hb
  cases h
variable {l:List Value} {d:Option Tmp} {ty:TypeId} {ps:String} {af:Array Edge} {g:Option (Nat×Bool)} {C:World->Prop}
theorem Ys {xs ys:List Value} (hA:agq P T=some sp) (hb:cmps xs ys sp=some b):
  (∀(op:BinOp) (x y:Operand),(eqGuard op T x y (.agg xs.toArray) (.agg ys.toArray)).run P w = .ok () w)/\(Op.equalIn 10000 T (.agg xs.toArray) (.agg ys.toArray)).run P w = .ok b w:=by
 unfold agq at hA;split at hA
 ·rename_i fs hu;split at hA
  ·cases hA
  rename_i hc;simp only[Bool.or_eq_true,not_or,Bool.not_eq_true]at hc;have hf:P.fieldsOf T=fs:=by simp[Program.fieldsOf,hu]
  refine⟨fun op x y=>run_eqGuard_agg w op T x y _ _ hc.2,?_⟩;rw[run_equalIn_struct w 9999 T _ _ (by rw[hf];exact hu) hc.1,hf];exact Uo hA hb
 cases hA
theorem DL {x:Operand} {xs ys:List Value} (hA:agq P T=some sp) (hx:evo l x=some (.agg xs.toArray)) (hy:evo l y=some (.agg ys.toArray)) (hb:cmps xs ys sp=some b):
  Det P C ⟨d,.binOp .neq T x y T',ty,ps,af,g⟩ l (.bool (!b)):=fun u _=>by
 (replace hx:=Am hx;replace hy:=Am hy)
 obtain⟨h1,h2⟩:=Ys (w:=u) hA hb;simp[execOp,Ap,hx,hy,h1,run_neq_struct,h2]
end
noncomputable def clB (p:Prop):Bool:= @decide p (Classical.propDecidable p)
theorem Cq {p:Prop}:clB p=true↔p:=by unfold clB;simp
theorem DB {p:Prop} (h:p):clB p=true:=Cq.2 h
theorem CO {p:Prop} (h:¬p):clB p=false:=by
 cases hq:clB p with
 |false=>rfl
 |true=>exact(h (Cq.1 hq)).elim
theorem Y7 {p:Prop} [Decidable p]:clB p=decide p:=by
 by_cases h:p
 ·rw[DB h,decide_eq_true h]
 rw[CO h,decide_eq_false h]
theorem YT {p:Prop}:clB (p/\q)=(clB p&&clB q):=by
 by_cases hp:p
 ·by_cases hq:q
  ·rw[DB ⟨hp,hq⟩,DB hp,DB hq];rfl
  rw[CO (fun h=>hq h.2),CO hq,Bool.and_false]
 rw[CO (fun h=>hp h.1),CO hp,Bool.false_and]
theorem EH {b:ByteArray}:seq a b=true↔a=b:=by
 unfold seq;rw[beq_iff_eq,ByteArray.toList_eq,ByteArray.toList_eq];constructor
 ·intro h;cases a;cases b
  simp at h;rw[h]
 rintro rfl;rfl
theorem Ja7 (a b:ByteArray):seq a b=clB (a=b):=by
 cases h:seq a b with
 |true=>exact(DB (EH.1 h)).symm
 |false=>exact(CO fun e=>by rw[EH.2 e]at h;cases h).symm
theorem Jeb {b:ByteArray} (h:seq a b=false):a≠b:=fun e=>by rw[EH.2 e]at h;cases h
theorem CC [Inhabited α] (f:α->β) {m:List α} (hi:¬i<l.length) (hl:l.length=m.length) (h:∀j:Int,0<=j->j<i->f (nth l j)=f (nth m j)):l.map f=m.map f:=by
 apply List.ext_getElem (by simp[hl])
 intro k h1 h2;have h3:k<l.length:=by simpa using h1
 have h4:k<m.length:=by omega
 have:=h k (by omega) (by omega)
 simpa [nth,List.getD,h3,h4]using this
theorem JE [Inhabited α] {m:List α} (hi:¬i<l.length) (hl:l.length=m.length) (h:∀j:Int,0<=j->j<i->nth l j=nth m j):l=m:=by
 have:=CC (fun x=>x) hi hl h
 simpa using this
theorem T5 (x y:Lit):cmps (cLit.cells x) (cLit.cells y) [(0,0),(1,0),(2,1)]=some (decide (x=y)):=by
 cases x;cases y
 simp only[cmps,cmp1,cLit,List.getElem?_cons_zero,List.getElem?_cons_succ,Lit.mk.injEq];rename_i a1 a2 a3 b1 b2 b3;cases a3<;>cases b3<;>simp
theorem Jat (x y:Put):cmps (cPut.cells x) (cPut.cells y) [(0,0),(1,0)]=some (decide (x=y)):=by
 cases x;cases y
 simp only[cmps,cmp1,cPut,List.getElem?_cons_zero,List.getElem?_cons_succ,Put.mk.injEq];simp
theorem TR (x y:Thing):cmps (cThing.cells x) (cThing.cells y) [(0,2),(1,0),(2,0),(3,0)]=some (clB (x=y)):=by
 have e:clB (x=y)=(seq x.nm y.nm&&(decide (x.pl=y.pl)&&(decide (x.st=y.st)&&(decide (x.sr=y.sr)&&true)))):=by
  cases x;cases y
  simp only[Thing.mk.injEq,Ja7,<-Y7];simp only[YT,Bool.and_true]
 rw[e]
 rfl
theorem YX {a b:Auto}:cmps [.int .i64 a.t,.int .i64 a.s] [.int .i64 b.t,.int .i64 b.s] [(0,0),(1,0)]=some (decide (a.t=b.t)&&decide (a.s=b.s)):=by
 simp[cmps,cmp1]
theorem OK {l:List Value} [Inhabited α] (k j n:Nat) {x:Operand}
  (hx:evo l x=some (.pointer (some ⟨slb s.v,slo s.v+i.toNat*k+j,none⟩))) (hs:SlT C w0 s) (hk:C.k=k) (h:0<=i/\i<s.l.length) (hc:((C.cells (nth s.l i)).drop j).take n=cs) (hn:cs.length=n) (hT:tk P T=some (true,n)):
  Det P (St w0.heap.size w0 L) ⟨d,.load T x,ty,ps,af,g⟩ l (.agg cs.toArray):=by
 subst hk;refine DX (m:=i.toNat*C.k+j) (by rw[hx,sla,Nat.add_assoc]) (fun _ hu=>hs.sp.st hu) (fun q y hy=>?_) (by rw[hn];exact hT);rw[<-hc,List.getElem?_take]at hy;split at hy
 ·rw[List.getElem?_drop]at hy;have hj:j+q<C.k:=by have:=(List.getElem?_eq_some_iff.1 hy).1;rwa [C.len]at this
  rw[Nat.add_assoc,BW C h.1 h.2 _ hj];exact hy
 cases hy
theorem sl_e {a b:Sl α} (h:a.l=b.l):a.e (id:α->α)=b.e id:=by unfold Sl.e;rw[h]
theorem WH {f:α->β} {a b:Sl α} (h:a.l.map f=b.l.map f):a.e f=b.e f:=by unfold Sl.e;rw[h]
theorem Jcm {x y:Pro} (h1:x.nm=y.nm) (h2:x.pl=y.pl) (h3:x.wh.l=y.wh.l):x.e=y.e:=by
 cases x;cases y
 simp only at h1 h2 h3;subst h1;subst h2;simp only[Pro.e,sl_e h3]
theorem Jc4 {x y:Way} (h1:x.a=y.a) (h2:x.b=y.b) (h3:x.wh.l=y.wh.l):x.e=y.e:=by
 cases x;cases y
 simp only at h1 h2 h3;subst h1;subst h2;simp only[Way.e,sl_e h3]
theorem Jc5 {x y:Auto} (h1:x.t=y.t) (h2:x.s=y.s) (h3:x.wh.l=y.wh.l):x.e=y.e:=by
 cases x;cases y
 simp only at h1 h2 h3;subst h1;subst h2;simp only[Auto.e,sl_e h3]
theorem Jh7 {x y:Actn} (h:AlikeA x y):x.e=y.e:=by
 obtain⟨h1,h2,h3,h4,h5,h6,h7,h8⟩:=h;cases x;cases y
 simp only at h1 h2 h3 h4 h5 h6 h7 h8;subst h1;subst h2;subst h3;simp only[Actn.e,sl_e h4,sl_e h5,sl_e h6,sl_e h7,sl_e h8]
theorem Jep {a b:Room} (h1:a.pls.l=b.pls.l) (h2:a.ths.l=b.ths.l) (h3:a.prs.l.map Pro.e=b.prs.l.map Pro.e) (h4:a.wys.l.map Way.e=b.wys.l.map Way.e) (h5:a.acs.l.map Actn.e=b.acs.l.map Actn.e) (h6:a.aus.l.map Auto.e=b.aus.l.map Auto.e) (h7:a.ply=b.ply) (h8:a.gl.l=b.gl.l):a.e=b.e:=by
 unfold Room.e;rw[sl_e h1,sl_e h2,WH h3,WH h4,WH h5,WH h6,h7,sl_e h8]
theorem bq:(∀(p:Prop) [Decidable p],(decide p=true)=p)/\(∀(p:Prop) [Decidable p],(decide p=false)=¬p)/\(∀a b:Bool,((a&&b)=true)=(a=true/\b=true))/\(∀a b:Bool,((a||b)=true)=(a=true\/b=true))/\
  (∀a b:Bool,((a&&b)=false)=(a=false\/b=false))/\(∀a b:Bool,((a||b)=false)=(a=false/\b=false))/\(∀a:Bool,((!a)=true)=(a=false))/\(∀a:Bool,((!a)=false)=(a=true))/\(∀(α:Type) (a b:α),(a≠b)=¬a=b)/\(∀p:Prop,[Decidable p]->(¬¬p)=p)/\
  ((!true)=false)/\((!false)=true)/\(∀(α:Type) [BEq α] [LawfulBEq α] (a b:α),((a != b)=true)=¬a=b)/\(∀(α:Type) [BEq α] [LawfulBEq α] (a b:α),((a != b)=false)=(a=b))/\(∀(α:Type) [BEq α] [LawfulBEq α] (a b:α),((a == b)=true)=(a=b))/\(∀(α:Type) [BEq α] [LawfulBEq α] (a b:α),((a == b)=false)=¬a=b):=by
 refine⟨fun p _=>by simp,fun p _=>by simp,fun a b=>by simp,fun a b=>by simp,fun a b=>by cases a<;>cases b<;>simp,fun a b=>by simp,fun a=>by simp,fun a=>by simp,fun α a b=>by simp,fun p=>by simp[Decidable.not_not],rfl,rfl,fun α _ _ a b=>by simp,fun α _ _ a b=>by simp,fun α _ _ a b=>by simp,fun α _ _ a b=>by simp⟩
inductive Tb (α:Type) where
 |o
 |n (l:Tb α) (k:Nat) (v:α) (r:Tb α)
def Tb.get:Tb α->Nat->Option α
 | .o,_=>none
 | .n l k v r,i=>match Nat.blt i k with
  |true=>l.get i
  |false=>match Nat.beq i k with
   |true=>some v
   |false=>r.get i
def Tb.all (p:Nat->α->Bool):Tb α->Bool
 | .o=>true
 | .n l k v r=>l.all p&&p k v&&r.all p
theorem Tb.get_all {α:Type} {p:Nat->α->Bool}:∀{t:Tb α} {i:Nat} {v:α},t.all p=true->t.get i=some v->p i v=true
 | .o,_,_,_,h=>by simp[Tb.get]at h
 | .n l k x r,i,v,ha,h=>by
  simp only[Tb.all,Bool.and_eq_true]at ha;unfold Tb.get at h;split at h
  ·exact Tb.get_all ha.1.1 h
  split at h
  ·rename_i hb;have:i=k:=Nat.eq_of_beq_eq_true hb;cases h;subst this;exact ha.1.2
  exact Tb.get_all ha.2 h
class Fx (P:Program) where
 ft:Tb (List Nat)
 kt:Tb (Bool×Nat)
 st:Tb (TypeId×Nat×Nat)
 fk:ft.all (fun T l=>l.zipIdx.all fun x=>fo P T x.2 == some x.1)=true
 kk:kt.all (fun T r=>tk P T == some r)=true
 sk:st.all (fun T r=>sl P T == some r)=true
def fof (P:Program) [F:Fx P] (T i:Nat):Option Nat:=match F.ft.get T with
 |some l=>l[i]?
 |none=>none
def tkf (P:Program) [F:Fx P] (T:Nat):Option (Bool×Nat):=F.kt.get T
def slf (P:Program) [F:Fx P] (T:Nat):Option (TypeId×Nat×Nat):=F.st.get T
section
variable {P:Program} [Fx P]
theorem XD {T i m:Nat} (h:fof P T i=some m):fo P T i=some m:=by
 unfold fof at h;split at h
 ·rename_i l hl;have h1:=Tb.get_all (Fx.fk (P:=P)) hl;rw[List.all_eq_true]at h1;have h2:=h1 (m,i) (by rw[List.mk_mem_zipIdx_iff_getElem?];exact h)
  simpa using h2
 simp at h
theorem DF {T:Nat} {r:Bool×Nat} (h:tkf P T=some r):tk P T=some r:=by
 have:=Tb.get_all (Fx.kk (P:=P)) h
 simpa using this
theorem Jt {T:Nat} {r:TypeId×Nat×Nat} (h:slf P T=some r):sl P T=some r:=by
 have:=Tb.get_all (Fx.sk (P:=P)) h
 simpa using this
end
def ikq:IntKind->IntKind->Bool
 | .i64,.i64=>true
 | .u8,.u8=>true
 | .i32,.i32=>true
 |_,_=>false
theorem Jec {a b:IntKind} (h:ikq a b=true):a=b:=by cases a<;>cases b<;>first|rfl|cases h
def cmpf:BinOp->Int->Int->Option Bool
 | .eql,a,b=>some (decide (a=b))
 | .neq,a,b=>some (decide (a≠b))
 | .lss,a,b=>some (decide (a<b))
 | .leq,a,b=>some (decide (a<=b))
 | .gtr,a,b=>some (decide (b<a))
 | .geq,a,b=>some (decide (b<=a))
 |_,_,_=>none
def fv (P:Program) [Fx P] (l:List Value):Op->Option Value
 | .move x=>evo l x
 | .assign x=>evo l x
 | .fieldAddr T x f=>match evo l x with
  |some (.pointer (some ⟨b,o,none⟩))=>match fof P T f with
   |some m=>some (.pointer (some ⟨b,o+m,none⟩))
   |none=>none
  |_=>none
 | .binOp k _ x y _=>match evo l x,evo l y with
  |some (.int i a),some (.int j b)=>match ikq i j with
   |true=>match cmpf k a b with
    |some r=>some (.bool r)
    |none=>none
   |false=>none
  |_,_=>none
 | .unOp .not _ x=>match evo l x with
  |some (.bool a)=>some (.bool (!a))
  |_=>none
 | .extract x i=>match evo l x with
  |some (.tuple ⟨vs⟩)=>vs[i]?
  |_=>none
 | .nilCheck x=>match evo l x with
  |some (.pointer (some a))=>some (.pointer (some a))
  |_=>none
 |_=>none
def runF (P:Program) [Fx P]:Nat->List Oper->List Value->Option (List Oper×List Value)
 |0,ops,l=>some (ops,l)
 |n+1,⟨some d,op,_,_,_,none⟩::ops,l=>match fv P l op with
  |some v=>match lset l d v with
   |some l'=>runF P n ops l'
   |none=>none
  |none=>none
 |_,_,_=>none
section
variable {P:Program} [Fx P] {C:World->Prop} {l:List Value} {d:Option Tmp} {ty:TypeId} {ps:String} {af:Array Edge} {g:Option (Nat×Bool)}
theorem JN {op:Op} (h:fv P l op=some v):Det P C ⟨d,op,ty,ps,af,g⟩ l v:=by
 unfold fv at h;split at h
 ·exact AR h
 ·exact Jr h
 ·split at h
  ·rename_i b o hx;split at h
   ·rename_i m hm;cases h;exact Gc hx (XD hm)
   cases h
  cases h
 ·split at h
  ·rename_i i a j b hx hy;split at h
   ·rename_i hk;have:=Jec hk;subst this;split at h
    ·rename_i r hr;cases h;unfold cmpf at hr;split at hr
     ·cases hr;exact RO hx hy
     ·cases hr;exact Rn hx hy
     ·cases hr;exact TM hx hy
     ·cases hr;exact UN hx hy
     ·cases hr;exact Ss hx hy
     ·cases hr;exact SR hx hy
     cases hr
    cases h
   cases h
  cases h
 ·split at h
  ·rename_i a hx;cases h;exact N4 hx
  cases h
 ·split at h
  ·rename_i vs hx;exact H3 (vs:=vs) hx h
  cases h
 ·split at h
  ·rename_i a hx;cases h;exact Hg hx
  cases h
 cases h
theorem Sc {op:Op} (h:fv P l op=some v):calm op=true:=by
 cases op<;>first|rfl|(simp[fv]at h)
end
section
variable {P:Program} [Fx P] {ro:Option Nat} {n0:Nat} {w0:World} {ds:List Deferred} {ops:Array Oper} {Q:Exit->Act->World->Prop} {L:List SA} {C:World->Prop}
theorem Wz:∀(n:Nat) {rest rest':List Oper} {l l':List Value} (k:WS P ro n0 w0 ds ops Q L rest' l') (h:runF P n rest l=some (rest',l'):=by exact rfl),WS P ro n0 w0 ds ops Q L rest l
 |0,_,_,_,_,k,h=>by cases h;exact k
 |n+1,rest,rest',l,l',k,h=>by
  unfold runF at h;split at h
  ·cases h;exact k
  ·rename_i n' d op ty ps af os l0 hn;cases hn;split at h
   ·rename_i v hv;split at h
    ·rename_i l1 hl;exact WS.det (Sc hv) rfl rfl (JN hv) hl (Wz n k h)
    cases h
   cases h
  cases h
theorem Dz:∀(n:Nat) {rest rest':List Oper} {l l':List Value} (k:DS P n0 w0 ds ops Q L rest' l') (h:runF P n rest l=some (rest',l'):=by exact rfl),DS P n0 w0 ds ops Q L rest l
 |0,_,_,_,_,k,h=>by cases h;exact k
 |n+1,rest,rest',l,l',k,h=>by
  unfold runF at h;split at h
  ·cases h;exact k
  ·rename_i n' d op ty ps af os l0 hn;cases hn;split at h
   ·rename_i v hv;split at h
    ·rename_i l1 hl;exact DS.det rfl rfl (JN hv) hl (Dz n k h)
    cases h
   cases h
  cases h
variable {rest rest':List Oper} {l l' l'':List Value} {o:Oper} {d j s:Nat} {v:Value} {b c x want:Bool} {bl bl' bl'':List Bool} {fuel fuel' na:Nat}
theorem Wk (n:Nat) (h:Det P (St n0 w0 L) o l v) (k:WS P ro n0 w0 ds ops Q L rest' l'') (hc:calm o.op=true:=by exact rfl) (hd:o.dst=some d:=by exact rfl) (hg:o.guard=none:=by exact rfl) (hl:lset l d v=some l':=by exact rfl) (hr:runF P n rest l'=some (rest',l''):=by exact rfl):WS P ro n0 w0 ds ops Q L (o::rest) l:=WS.det hc hd hg h hl (Wz n k hr)
theorem Wt (n:Nat) (hg:o.guard=some (j,true)) (hb:yielded ops l.toArray j=some b) (h:b=true->Det P (St n0 w0 L) o l v) (k:WS P ro n0 w0 ds ops Q L rest' l'') (hc:calm o.op=true:=by exact rfl) (hd:o.dst=some d:=by exact rfl) (hl:lset l d (cond b v undef)=some l':=by exact rfl) (hr:runF P n rest l'=some (rest',l''):=by exact rfl):WS P ro n0 w0 ds ops Q L (o::rest) l:=WS.guardT hc hd hg hb h hl (Wz n k hr)
theorem Wf (n:Nat) (hg:o.guard=some (j,false)) (hb:yielded ops l.toArray j=some b) (h:(!b)=true->Det P (St n0 w0 L) o l v) (k:WS P ro n0 w0 ds ops Q L rest' l'') (hc:calm o.op=true:=by exact rfl) (hd:o.dst=some d:=by exact rfl) (hl:lset l d (cond (!b) v undef)=some l':=by exact rfl) (hr:runF P n rest l'=some (rest',l''):=by exact rfl):WS P ro n0 w0 ds ops Q L (o::rest) l:=WS.guardF hc hd hg hb h hl (Wz n k hr)
theorem Wn (n:Nat) (hg:o.guard=some (j,want)) (hs:(ops[j]?).bind (·.dst)=some s) (hv:l[s]? = some (cond c (.bool x) undef)) (h:(c&&(x == want))=true->Det P (St n0 w0 L) o l v) (k:WS P ro n0 w0 ds ops Q L rest' l'') (hc:calm o.op=true:=by exact rfl) (hd:o.dst=some d:=by exact rfl) (hl:lset l d (cond (c&&(x == want)) v undef)=some l':=by exact rfl) (hr:runF P n rest l'=some (rest',l''):=by exact rfl):WS P ro n0 w0 ds ops Q L (o::rest) l:=WS.guardN hc hd hg hs hv h hl (Wz n k hr)
theorem Dk (n:Nat) (h:Det P (St n0 w0 L) o l v) (k:DS P n0 w0 ds ops Q L rest' l'') (hd:o.dst=some d:=by exact rfl) (hg:o.guard=none:=by exact rfl) (hl:lset l d v=some l':=by exact rfl) (hr:runF P n rest l'=some (rest',l''):=by exact rfl):DS P n0 w0 ds ops Q L (o::rest) l:=DS.det hd hg h hl (Dz n k hr)
theorem Dt (n:Nat) (hg:o.guard=some (j,true)) (hb:yielded ops l.toArray j=some b) (h:b=true->Det P (St n0 w0 L) o l v) (k:DS P n0 w0 ds ops Q L rest' l'') (hd:o.dst=some d:=by exact rfl) (hl:lset l d (cond b v undef)=some l':=by exact rfl) (hr:runF P n rest l'=some (rest',l''):=by exact rfl):DS P n0 w0 ds ops Q L (o::rest) l:=DS.guardT hd hg hb h hl (Dz n k hr)
theorem Df (n:Nat) (hg:o.guard=some (j,false)) (hb:yielded ops l.toArray j=some b) (h:(!b)=true->Det P (St n0 w0 L) o l v) (k:DS P n0 w0 ds ops Q L rest' l'') (hd:o.dst=some d:=by exact rfl) (hl:lset l d (cond (!b) v undef)=some l':=by exact rfl) (hr:runF P n rest l'=some (rest',l''):=by exact rfl):DS P n0 w0 ds ops Q L (o::rest) l:=DS.guardF hd hg hb h hl (Dz n k hr)
theorem Dn (n:Nat) (hg:o.guard=some (j,want)) (hs:(ops[j]?).bind (·.dst)=some s) (hv:l[s]? = some (cond c (.bool x) undef)) (h:(c&&(x == want))=true->Det P (St n0 w0 L) o l v) (k:DS P n0 w0 ds ops Q L rest' l'') (hd:o.dst=some d:=by exact rfl) (hl:lset l d (cond (c&&(x == want)) v undef)=some l':=by exact rfl) (hr:runF P n rest l'=some (rest',l''):=by exact rfl):DS P n0 w0 ds ops Q L (o::rest) l:=DS.guardN hd hg hs hv h hl (Dz n k hr)
def asOk (ops:Array Oper):List Nat->List Bool->Bool
 |[],_=>true
 |i::is,bl=>Region.free .any ops bl.toArray i&&(Region.ready .any ops bl.toArray).contains i&&asOk ops is (bl.set i true)
def atOk (ops:Array Oper) (na s:Nat):List Nat->List Bool->Bool
 |[],_=>true
 |i::is,bl=>KE ops na i s&&!(i == s)&&GT ops bl.toArray&&Region.free .any ops bl.toArray i&&(Region.ready .any ops bl.toArray).contains i&&atOk ops na s is (bl.set i true)
def runA (P:Program) [Fx P] (ops:Array Oper):List Nat->Nat->List Bool->List Value->Option (Nat×List Bool×List Value)
 |[],f,bl,l=>some (f,bl,l)
 |i::is,f+1,bl,l=>match ops[i]? with
  |some ⟨some d,op,_,_,_,none⟩=>match fv P l op with
   |some v=>match lset l d v with
    |some l'=>match lset bl i true with
     |some bl'=>runA P ops is f bl' l'
     |none=>none
    |none=>none
   |none=>none
  |_=>none
 |_,_,_,_=>none
theorem Az (hcalm:Bh ops=true):∀(is:List Nat) {fuel fuel':Nat} {bl bl':List Bool} {l l':List Value} (hk:asOk ops is bl=true) (k:AS P ro n0 w0 ds ops Q C L fuel' bl' l')
  (h:runA P ops is fuel bl l=some (fuel',bl',l')),AS P ro n0 w0 ds ops Q C L fuel bl l
 |[],_,_,_,_,_,_,_,k,h=>by cases h;exact k
 |i::is,fuel,fuel',bl,bl',l,l',hk,k,h=>by
  unfold runA at h;split at h
  ·rename_i he;cases he
  ·rename_i i' is' f bl0 l0 he;cases he;simp only[asOk,Bool.and_eq_true]at hk;split at h
   ·rename_i d op ty ps af ho;split at h
    ·rename_i v hv;split at h
     ·rename_i l1 hl;split at h
      ·rename_i bl1 hb;have hb1:=Aq hb;exact AS.take i ho hcalm hk.1.1 hk.1.2 rfl rfl (JN hv) hb hl (Az hcalm is (by rw[<-hb1];exact hk.2) k h)
      cases h
     cases h
    cases h
   cases h
  cases h
theorem Tz (hcalm:Bh ops=true) {na s:Nat}:∀(is:List Nat) {fuel fuel':Nat} {bl bl':List Bool} {l l':List Value} (hk:atOk ops na s is bl=true) (k:AT P ro n0 w0 ds ops Q C s L fuel' bl' l')
  (h:runA P ops is fuel bl l=some (fuel',bl',l')),AT P ro n0 w0 ds ops Q C s L fuel bl l
 |[],_,_,_,_,_,_,_,k,h=>by cases h;exact k
 |i::is,fuel,fuel',bl,bl',l,l',hk,k,h=>by
  unfold runA at h;split at h
  ·rename_i he;cases he
  ·rename_i i' is' f bl0 l0 he;cases he;simp only[atOk,Bool.and_eq_true]at hk;split at h
   ·rename_i d op ty ps af ho;split at h
    ·rename_i v hv;split at h
     ·rename_i l1 hl;split at h
      ·rename_i bl1 hb;have hb1:=Aq hb;exact AT.take i ho hcalm hk.1.1.1.1.1 (by simpa using hk.1.1.1.1.2) hk.1.1.1.2 hk.1.1.2 hk.1.2 rfl rfl (JN hv) hb hl (Tz hcalm is (by rw[<-hb1];exact hk.2) k h)
      cases h
     cases h
    cases h
   cases h
  cases h
theorem Ar (is:List Nat) (k:AS P ro n0 w0 ds ops Q C L fuel' bl' l') (hcalm:Bh ops=true:=by kernel_rfl) (hk:asOk ops is bl=true:=by kernel_rfl) (h:runA P ops is fuel bl l=some (fuel',bl',l'):=by exact rfl):AS P ro n0 w0 ds ops Q C L fuel bl l:=Az hcalm is hk k h
theorem Ak (i:Nat) (is:List Nat) (hi:ops[i]? = some o) (h:Det P C o l v) (k:AS P ro n0 w0 ds ops Q C L fuel' bl'' l'') (hcalm:Bh ops=true:=by kernel_rfl) (hk:asOk ops (i::is) bl=true:=by kernel_rfl)
  (hd:o.dst=some d:=by exact rfl) (hg:o.guard=none:=by exact rfl) (hb:lset bl i true=some bl':=by exact rfl) (hl:lset l d v=some l':=by exact rfl) (hr:runA P ops is fuel bl' l'=some (fuel',bl'',l''):=by exact rfl):AS P ro n0 w0 ds ops Q C L (fuel+1) bl l:=by
 simp only[asOk,Bool.and_eq_true]at hk;exact AS.take i hi hcalm hk.1.1 hk.1.2 hd hg h hb hl (Az hcalm is (by rw[<-Aq hb];exact hk.2) k hr)
theorem At (i:Nat) (is:List Nat) (hi:ops[i]? = some o) (hg:o.guard=some (j,true)) (hw:yielded ops l.toArray j=some b) (h:b=true->Det P C o l v) (k:AS P ro n0 w0 ds ops Q C L fuel' bl'' l'') (hcalm:Bh ops=true:=by kernel_rfl) (hk:asOk ops (i::is) bl=true:=by kernel_rfl)
  (hd:o.dst=some d:=by exact rfl) (hb:lset bl i true=some bl':=by exact rfl) (hl:lset l d (cond b v undef)=some l':=by exact rfl) (hr:runA P ops is fuel bl' l'=some (fuel',bl'',l''):=by exact rfl):AS P ro n0 w0 ds ops Q C L (fuel+1) bl l:=by
 simp only[asOk,Bool.and_eq_true]at hk;exact AS.takeT i hi hcalm hk.1.1 hk.1.2 hd hg hw h hb hl (Az hcalm is (by rw[<-Aq hb];exact hk.2) k hr)
theorem Tr (na:Nat) (is:List Nat) (k:AT P ro n0 w0 ds ops Q C s L fuel' bl' l') (hcalm:Bh ops=true:=by kernel_rfl) (hk:atOk ops na s is bl=true:=by kernel_rfl) (h:runA P ops is fuel bl l=some (fuel',bl',l'):=by exact rfl):AT P ro n0 w0 ds ops Q C s L fuel bl l:=Tz hcalm is hk k h
theorem Tk (na i:Nat) (is:List Nat) (hi:ops[i]? = some o) (h:Det P C o l v) (k:AT P ro n0 w0 ds ops Q C s L fuel' bl'' l'') (hcalm:Bh ops=true:=by kernel_rfl) (hk:atOk ops na s (i::is) bl=true:=by kernel_rfl)
  (hd:o.dst=some d:=by exact rfl) (hg:o.guard=none:=by exact rfl) (hb:lset bl i true=some bl':=by exact rfl) (hl:lset l d v=some l':=by exact rfl) (hr:runA P ops is fuel bl' l'=some (fuel',bl'',l''):=by exact rfl):AT P ro n0 w0 ds ops Q C s L (fuel+1) bl l:=by
 simp only[atOk,Bool.and_eq_true]at hk;exact AT.take i hi hcalm hk.1.1.1.1.1 (by simpa using hk.1.1.1.1.2) hk.1.1.1.2 hk.1.1.2 hk.1.2 hd hg h hb hl (Tz hcalm is (by rw[<-Aq hb];exact hk.2) k hr)
theorem Tt (na i:Nat) (is:List Nat) (hi:ops[i]? = some o) (hg:o.guard=some (j,true)) (hw:yielded ops l.toArray j=some b) (h:b=true->Det P C o l v) (k:AT P ro n0 w0 ds ops Q C s L fuel' bl'' l'') (hcalm:Bh ops=true:=by kernel_rfl) (hk:atOk ops na s (i::is) bl=true:=by kernel_rfl)
  (hd:o.dst=some d:=by exact rfl) (hb:lset bl i true=some bl':=by exact rfl) (hl:lset l d (cond b v undef)=some l':=by exact rfl) (hr:runA P ops is fuel bl' l'=some (fuel',bl'',l''):=by exact rfl):AT P ro n0 w0 ds ops Q C s L (fuel+1) bl l:=by
 simp only[atOk,Bool.and_eq_true]at hk;exact AT.takeT i hi hcalm hk.1.1.1.1.1 (by simpa using hk.1.1.1.1.2) hk.1.1.1.2 hk.1.1.2 hk.1.2 hd hg hw h hb hl (Tz hcalm is (by rw[<-Aq hb];exact hk.2) k hr)
theorem Dr {id:Nat} (hm:P.follows .mixedOrders=true) (n:Nat) (k:DS P n0 w0 ds os.toArray Q L rest' l') (hr:runF P n os l=some (rest',l'):=by exact rfl) (hB:Region.lexB .any os.toArray=true:=by kernel_rfl) (hcalm:Bh os.toArray=true:=by kernel_rfl):
  CS P ro n0 w0 ds (.region id os.toArray true) Q L l:=CS.draw hm hB hcalm (Dz n k hr)
end
section
variable {P:Program} {ro:Option Nat} {n0:Nat} {w0:World} {ds:List Deferred} {ops:Array Oper} {Q:Exit->Act->World->Prop} {L:List SA} {C:World->Prop} {l:List Value} {o:Oper} {s:Nat} {bl bl':List Bool} {fuel:Nat}
theorem Ao (i:Nat) (hi:ops[i]? = some o) (k:WS P ro n0 w0 ds ops (Exit.then (AH P ro ops (NP ops Q) C fuel bl'.toArray) (NP ops Q)) L [o] l) (hr:Region.ready .any ops bl.toArray=[i]:=by kernel_rfl)
  (hC:∀u,St n0 w0 L u->C u:=by first|exact fun _ h=>h|exact fun _ h=>h.sub (by repeat first|exact List.Sublist.refl _|apply List.Sublist.cons_cons|apply List.Sublist.cons)) (hb:lset bl i true=some bl':=by exact rfl):AS P ro n0 w0 ds ops Q C L (fuel+1) bl l:=AS.one hr hi hC hb k
theorem Ae (k:QS n0 w0 ds Q .normal L l) (hr:Region.ready .any ops bl.toArray=[]:=by kernel_rfl)
  (hC:∀u,St n0 w0 L u->C u:=by first|exact fun _ h=>h|exact fun _ h=>h.sub (by repeat first|exact List.Sublist.refl _|apply List.Sublist.cons_cons|apply List.Sublist.cons)):AS P ro n0 w0 ds ops Q C L 0 bl l:=AS.done hr hC k
theorem To (i:Nat) (hi:ops[i]? = some o) (k:WS P ro n0 w0 ds ops (Exit.then (AZ P ro ops (NP ops Q) C s fuel bl'.toArray) (NP ops Q)) L [o] l) (hr:Region.ready .any ops bl.toArray=[i]:=by kernel_rfl)
  (hC:bl.toArray.getD s true=false->∀u,St n0 w0 L u->C u:=by first|(intro h;exact absurd h (by decide))|exact fun _ _ h=>h|exact fun _ _ h=>h.sub (by repeat first|exact List.Sublist.refl _|apply List.Sublist.cons_cons|apply List.Sublist.cons)) (hb:lset bl i true=some bl':=by exact rfl):AT P ro n0 w0 ds ops Q C s L (fuel+1) bl l:=AT.one hr hi hC hb k
theorem Te (k:QS n0 w0 ds Q .normal L l) (hr:Region.ready .any ops bl.toArray=[]:=by kernel_rfl)
  (hC:bl.toArray.getD s true=false->∀u,St n0 w0 L u->C u:=by first|(intro h;exact absurd h (by decide))|exact fun _ _ h=>h|exact fun _ _ h=>h.sub (by repeat first|exact List.Sublist.refl _|apply List.Sublist.cons_cons|apply List.Sublist.cons)):AT P ro n0 w0 ds ops Q C s L 0 bl l:=AT.done hr hC k
end
def cuto:Nat->Nat->List Value->Option (List Value)
 |0,0,_=>some []
 |0,n+1,v::l=>match cuto 0 n l with
  |some r=>some (v::r)
  |none=>none
 |i+1,n,_::l=>cuto i n l
 |_,_,[]=>none
theorem J6:∀{i n:Nat} {c cs:List Value},cuto i n c=some cs->(c.drop i).take n=cs/\cs.length=n
 |0,0,c,cs,h=>by simp[cuto]at h;subst h;simp
 |0,n+1,[],cs,h=>by simp[cuto]at h
 |0,n+1,v::l,cs,h=>by
  unfold cuto at h;split at h
  ·rename_i r hr;simp at h;subst h;have:=J6 hr;simp at this⊢;exact this
  simp at h
 |i+1,n,[],cs,h=>by simp[cuto]at h
 |i+1,n,v::l,cs,h=>by
  have:=J6 (show cuto i n l=some cs from h)
  simpa using this
section
variable {P:Program} {C:World->Prop} {l:List Value} {d:Option Tmp} {ty:TypeId} {ps:String} {af:Array Edge} {g:Option (Nat×Bool)} {v:Value}
theorem op_ {x:Operand} (h:evo l x=some v:=by first|rfl|exact Nq (by assumption) rfl|exact Nq (Jh2 (by assumption)) rfl):evo l x=some v:=h
variable {n0:Nat} {w0:World} {L:List SA} {T T' e e':TypeId} {x y z:Operand} {i b o a k q q' m n:Nat} {c cs:List Value} {vv:Value} {xs:List Int} {ii aa bb:Int} {w:World} {ik:IntKind} {ba bc br:Bool}
theorem Fm (h:evo l x=some v:=by exact op_):Det P C ⟨d,.move x,ty,ps,af,g⟩ l v:=AR h
theorem Fq (hx:evo l x=some (.int ik aa):=by exact op_) (hy:evo l y=some (.int ik bb):=by exact op_):Det P C ⟨d,.binOp .eql T x y T',ty,ps,af,g⟩ l (.bool (decide (aa=bb))):=RO hx hy
theorem Fr (hx:evo l x=some (.int ik aa):=by exact op_) (hy:evo l y=some (.int ik bb):=by exact op_):Det P C ⟨d,.binOp .neq T x y T',ty,ps,af,g⟩ l (.bool (decide (aa≠bb))):=Rn hx hy
theorem Fl (hx:evo l x=some (.int ik aa):=by exact op_) (hy:evo l y=some (.int ik bb):=by exact op_):Det P C ⟨d,.binOp .lss T x y T',ty,ps,af,g⟩ l (.bool (decide (aa<bb))):=TM hx hy
theorem Fk (hx:evo l x=some (.int ik aa):=by exact op_) (hy:evo l y=some (.int ik bb):=by exact op_):Det P C ⟨d,.binOp .leq T x y T',ty,ps,af,g⟩ l (.bool (decide (aa<=bb))):=UN hx hy
theorem Fg (hx:evo l x=some (.int ik aa):=by exact op_) (hy:evo l y=some (.int ik bb):=by exact op_):Det P C ⟨d,.binOp .gtr T x y T',ty,ps,af,g⟩ l (.bool (decide (bb<aa))):=Ss hx hy
theorem Fh (hx:evo l x=some (.int ik aa):=by exact op_) (hy:evo l y=some (.int ik bb):=by exact op_):Det P C ⟨d,.binOp .geq T x y T',ty,ps,af,g⟩ l (.bool (decide (bb<=aa))):=SR hx hy
theorem Fn (hx:evo l x=some (.bool ba):=by exact op_):Det P C ⟨d,.unOp .not T x,ty,ps,af,g⟩ l (.bool (!ba)):=N4 hx
theorem Fc {aq:Addr} (hx:evo l x=some (.pointer (some aq)):=by exact op_):Det P C ⟨d,.nilCheck x,ty,ps,af,g⟩ l (.pointer (some aq)):=Hg hx
theorem Fe {f:Nat} (hx:evo l x=some (.tuple vs.toArray):=by exact op_) (hv:vs[f]? = some v:=by exact rfl):Det P C ⟨d,.extract x f,ty,ps,af,g⟩ l v:=H3 hx hv
theorem Pa (hc:evo l x=some (.bool bc):=by exact op_) (hx:evo l y=some (cond bc (.bool br) undef):=by exact rfl) (hy:evo l z=some (.bool false):=by exact rfl):Det P C ⟨d,.pick x y z,ty,ps,af,g⟩ l (.bool (bc&&br)):=AW hc hx hy
theorem Po (hc:evo l x=some (.bool bc):=by exact op_) (hy:evo l z=some (cond (!bc) (.bool br) undef):=by exact rfl) (hx:evo l y=some (.bool true):=by exact rfl):Det P C ⟨d,.pick x y z,ty,ps,af,g⟩ l (.bool (bc||br)):=D1 hc hy hx
theorem Za (hx:evo l x=some (.int .i64 aa):=by exact op_) (hy:evo l y=some (.int .i64 bb):=by exact op_) (h: -9223372036854775808<=aa+bb/\aa+bb<=9223372036854775807:=by(try simp only[bq]at hg);omega):Det P C ⟨d,.binOp .add T x y T',ty,ps,af,g⟩ l (.int .i64 (aa+bb)):=ID hx hy h
theorem Zb (hx:evo l x=some (.int .i64 aa):=by exact op_) (hy:evo l y=some (.int .i64 bb):=by exact op_) (h: -9223372036854775808<=aa-bb/\aa-bb<=9223372036854775807:=by(try simp only[bq]at hg);omega):Det P C ⟨d,.binOp .sub T x y T',ty,ps,af,g⟩ l (.int .i64 (aa-bb)):=GI hx hy h
theorem Zc (hx:evo l x=some (.int .i64 aa):=by exact op_) (hy:evo l y=some (.int .i64 bb):=by exact op_) (h: -9223372036854775808<=aa*bb/\aa*bb<=9223372036854775807:=by(try simp only[bq]at hg);omega):Det P C ⟨d,.binOp .mul T x y T',ty,ps,af,g⟩ l (.int .i64 (aa*bb)):=Jad hx hy h
theorem Db {parts:List (Nat×Value)} (hp:plc P T=some pls) (hz:zv P T=some zs) (hv:evp l pl=some parts:=by exact rfl) (hb:bld pls zs parts=some cs:=by exact rfl)
  (h1:∀p∈parts,p.2.oneCell'=true:=by first|(simp[Value.oneCell'];done)|((repeat (refine List.forall_mem_cons.2 ⟨by first|rfl|assumption,?_⟩));exact fun _ h=>absurd h List.not_mem_nil)):Det P C ⟨d,.build T pl.toArray,ty,ps,af,g⟩ l (.agg cs.toArray):=Qy hp hz hv hb h1
theorem Cb {f:Operand} (hf:evo l f=some (.func (.func fn) #[] cap.toArray)) (hv:evs l args=some vs) (he:Ent P fn)
  (hc:∀u,St n0 w0 L u->Calls P fn (vs++cap).toArray u (RetB u v)):Det P (St n0 w0 L) ⟨d,.call ⟨.value f,args.toArray,ts⟩,ty,ps,af,g⟩ l v:=SK hf hv he hc
end
section
variable {P:Program} [Fx P] {C:World->Prop} {l:List Value} {d:Option Tmp} {ty:TypeId} {ps:String} {af:Array Edge} {g:Option (Nat×Bool)} {v:Value}
variable {n0:Nat} {w0:World} {L:List SA} {T T' e e':TypeId} {x y z:Operand} {i b o a k q q' m n:Nat} {c cs:List Value} {vv:Value} {xs:List Int} {ii aa bb:Int} {w:World} {ik:IntKind} {ba bc br:Bool}
theorem Ff {f:Nat} (hx:evo l x=some (.pointer (some ⟨b,o,none⟩)):=by exact op_) (hf:fof P T f=some m:=by exact rfl):Det P C ⟨d,.fieldAddr T x f,ty,ps,af,g⟩ l (.pointer (some ⟨b,o+m,none⟩)):=Gc hx (XD hf)
theorem Ba (j:Nat) (hx:evo l x=some (.pointer (some ⟨b,i,none⟩)):=by exact op_) (hj:L[j]? = some (blk b c e):=by exact rfl) (hv:c[i]? = some v:=by exact rfl) (hT:tkf P T=some (false,k):=by exact rfl):Det P (St n0 w0 L) ⟨d,.load T x,ty,ps,af,g⟩ l v:=AP hx hj hv (DF hT)
theorem Bb (j:Nat) (hx:evo l x=some (.pointer (some ⟨b,0,none⟩)):=by exact op_) (hj:L[j]? = some (blk b c e):=by exact rfl) (hT:tkf P T=some (true,c.length):=by exact rfl):Det P (St n0 w0 L) ⟨d,.load T x,ty,ps,af,g⟩ l (.agg c.toArray):=AU hx hj (DF hT)
theorem Bc (j:Nat) (hx:evo l x=some (.pointer (some ⟨b,i,none⟩)):=by exact op_) (hj:L[j]? = some (blk b c e):=by exact rfl) (hT:tkf P T=some (true,n):=by exact rfl) (hv:cuto i n c=some cs:=by exact rfl):Det P (St n0 w0 L) ⟨d,.load T x,ty,ps,af,g⟩ l (.agg cs.toArray):=BV hx hj (J6 hv).1 (J6 hv).2 (DF hT)
theorem Ga (hx:evo l x=some (.pointer (some ⟨b,i,none⟩)):=by exact op_) (hb:BlkAt w0 b c e:=by assumption) (hv:c[i]? = some v:=by exact rfl) (hT:tkf P T=some (false,k):=by exact rfl):Det P (St w0.heap.size w0 L) ⟨d,.load T x,ty,ps,af,g⟩ l v:=Gl hx hb hv (DF hT)
theorem Gb (hx:evo l x=some (.pointer (some ⟨b,0,none⟩)):=by exact op_) (hb:BlkAt w0 b c e:=by assumption) (hT:tkf P T=some (true,n):=by exact rfl) (hn:c.length=n:=by exact rfl):Det P (St w0.heap.size w0 L) ⟨d,.load T x,ty,ps,af,g⟩ l (.agg c.toArray):=CF hx hb hn (DF hT)
theorem Ia (hx:evo l x=some (.pointer (some (sla vv ii.toNat))):=by exact op_) (hs:SlI w0 vv xs:=by assumption) (h:0<=ii/\ii<xs.length:=by(try simp only[bq]at hg);omega) (hT:tkf P T=some (false,q):=by exact rfl):Det P (St w0.heap.size w0 L) ⟨d,.load T x,ty,ps,af,g⟩ l (.int .i64 (nth xs ii)):=Yy hx hs h (DF hT)
theorem Ib (j:Nat) (hx:evo l x=some (.pointer (some (sla vv ii.toNat))):=by exact op_) (hj:L[j]? = some (oints e vv xs):=by exact rfl) (h:0<=ii/\ii<xs.length:=by(try simp only[bq]at hg);omega) (hT:tkf P T=some (false,q):=by exact rfl):Det P (St n0 w0 L) ⟨d,.load T x,ty,ps,af,g⟩ l (.int .i64 (nth xs ii)):=VE hx hj h (DF hT)
theorem Xa (hx:evo l x=some vv:=by exact op_) (hy:evo l y=some (.int .i64 ii):=by exact op_) (hs:SlI w vv xs:=by assumption) (h0:0<=ii:=by(try simp only[bq]at hg);omega) (h1:ii<xs.length:=by(try simp only[bq]at hg);omega) (hT:slf P T=some (e,1,q):=by exact rfl):Det P C ⟨d,.indexAddr T x y,ty,ps,af,g⟩ l (.pointer (some (sla vv ii.toNat))):=US (Jt hT) hx hy hs h0 h1
theorem Xb (j:Nat) (hx:evo l x=some vv:=by exact op_) (hy:evo l y=some (.int .i64 ii):=by exact op_) (hj:L[j]? = some (oints e' vv xs):=by exact rfl) (h0:0<=ii:=by(try simp only[bq]at hg);omega) (h1:ii<xs.length:=by(try simp only[bq]at hg);omega) (hT:slf P T=some (e,1,q):=by exact rfl):Det P (St n0 w0 L) ⟨d,.indexAddr T x y,ty,ps,af,g⟩ l (.pointer (some (sla vv ii.toNat))):=Tv (Jt hT) hx hy hj h0 h1
theorem Na (hx:evo l x=some vv:=by exact op_) (hs:SlI w vv xs:=by assumption) (hT:slf P T=some (e,a,q):=by exact rfl):Det P C ⟨d,.call ⟨.builtin .len,#[x],#[T]⟩,ty,ps,af,g⟩ l (.int .i64 xs.length):=Ds (Jt hT) hx hs
theorem Nb (j:Nat) (hx:evo l x=some vv:=by exact op_) (hj:L[j]? = some (oints e' vv xs):=by exact rfl) (hT:slf P T=some (e,a,q):=by exact rfl):Det P (St n0 w0 L) ⟨d,.call ⟨.builtin .len,#[x],#[T]⟩,ty,ps,af,g⟩ l (.int .i64 xs.length):=K6 (Jt hT) hx hj
section
variable {α:Type} {K:Cel α} {s:Sl α}
theorem Nc (hx:evo l x=some s.v:=by exact op_) (hs:SlT K w s:=by assumption) (hT:slf P T=some (e,a,q):=by exact rfl):Det P C ⟨d,.call ⟨.builtin .len,#[x],#[T]⟩,ty,ps,af,g⟩ l (.int .i64 s.l.length):=W6 (Jt hT) hx hs
theorem Xc (hx:evo l x=some s.v:=by exact op_) (hy:evo l y=some (.int .i64 ii):=by exact op_) (hs:SlT K w s:=by assumption) (hT:slf P T=some (e,k,q):=by exact rfl) (hk:K.k=k:=by exact rfl) (h0:0<=ii:=by(try simp only[bq]at hg);omega) (h1:ii<s.l.length:=by(try simp only[bq]at hg);omega):Det P C ⟨d,.indexAddr T x y,ty,ps,af,g⟩ l (.pointer (some (sla s.v (ii.toNat*k)))):=FL (Jt hT) hx hy hs hk h0 h1
theorem Uc (k j:Nat) (hx:evo l x=some (.pointer (some ⟨slb s.v,slo s.v+ii.toNat*k+j,none⟩)):=by exact op_) (hs:SlT K w0 s:=by assumption) (ih:Inhabited α:=by infer_instance) (hk:K.k=k:=by exact rfl) (h:0<=ii/\ii<s.l.length:=by(try simp only[bq]at hg);omega) (hj:j<k:=by decide) (hc:(K.cells (nth s.l ii))[j]? = some v:=by exact rfl) (hT:tkf P T=some (false,q):=by exact rfl):Det P (St w0.heap.size w0 L) ⟨d,.load T x,ty,ps,af,g⟩ l v:=VW k j hx hs hk h hj hc (DF hT)
theorem Ub (hx:evo l x=some (.pointer (some (sla s.v (ii.toNat*1)))):=by exact op_) (hs:SlT K w0 s:=by assumption) (ih:Inhabited α:=by infer_instance) (hk:K.k=1:=by exact rfl) (h:0<=ii/\ii<s.l.length:=by(try simp only[bq]at hg);omega) (hc:(K.cells (nth s.l ii))[0]? = some v:=by exact rfl) (hT:tkf P T=some (false,q):=by exact rfl):Det P (St w0.heap.size w0 L) ⟨d,.load T x,ty,ps,af,g⟩ l v:=HC hx hs hk h hc (DF hT)
theorem Ua (hx:evo l x=some (.pointer (some (sla s.v (ii.toNat*k)))):=by exact op_) (hs:SlT K w0 s:=by assumption) (ih:Inhabited α:=by infer_instance) (hk:K.k=k:=by exact rfl) (h:0<=ii/\ii<s.l.length:=by(try simp only[bq]at hg);omega) (hc:K.cells (nth s.l ii)=cs:=by exact rfl) (hT:tkf P T=some (true,k):=by exact rfl):Det P (St w0.heap.size w0 L) ⟨d,.load T x,ty,ps,af,g⟩ l (.agg cs.toArray):=ZM hx hs hk h hc (DF hT)
variable [Inhabited α]
theorem Vb (jj:Nat) (hj:L[jj]? = some (roT K s)) (hx:evo l x=some (.pointer (some (sla s.v (ii.toNat*1)))):=by exact op_) (hk:K.k=1:=by exact rfl) (h:0<=ii/\ii<s.l.length:=by(try simp only[bq]at hg);omega) (hc:(K.cells (nth s.l ii))[0]? = some v:=by exact rfl) (hT:tkf P T=some (false,q):=by exact rfl):Det P (St n0 w0 L) ⟨d,.load T x,ty,ps,af,g⟩ l v:=O8 hj hx rfl hk h hc (DF hT)
end
end
variable {Q':Exit->Act->World->Prop}
section
variable {P:Program} [Fx P] {ro:Option Nat} {n0:Nat} {w0:World} {ds:List Deferred} {ops:Array Oper} {Q:Exit->Act->World->Prop} {L L':List SA} {l l'':List Value} {T ty e:TypeId} {x y:Operand} {ps:String} {af:Array Edge} {b i q d:Nat} {bq_:Bool} {c c' vs:List Value} {v:Value} {rest rest':List Oper}
theorem Ws (n j:Nat) (k:WS P ro n0 w0 ds ops Q L' rest' l'') (hx:evo l x=some (.pointer (some ⟨b,i,none⟩)):=by exact rfl) (hj:L[j]? = some (blk b c e):=by exact rfl) (hi:i<c.length:=by first|decide|omega|(simp;done)|(simp;omega)|exact Nat.le_of_ble_eq_true rfl)
  (hy:evo l y=some v:=by exact rfl) (h1:v.oneCell'=true:=by first|rfl|assumption) (hT:tkf P T=some (bq_,1):=by exact rfl) (hc:lset c i v=some c':=by first|exact rfl|exact Fw _ _ _) (hL:lset L j (blk b c' e)=some L':=by exact rfl) (hr:runF P n rest l=some (rest',l''):=by exact rfl):
  WS P ro n0 w0 ds ops Q L (⟨none,.store T x y,ty,ps,af,none⟩::rest) l:=WS.store hx hj hi hy h1 (DF hT) hc hL (Wz n k hr)
theorem Wv (n j:Nat) (k:WS P ro n0 w0 ds ops Q L' rest' l'') (hx:evo l x=some (.pointer (some ⟨b,0,none⟩)):=by exact rfl) (hj:L[j]? = some (blk b c e):=by exact rfl) (hy:evo l y=some (.agg vs.toArray):=by exact rfl) (hn:vs.length=c.length:=by exact rfl)
  (h1:∀v∈vs,v.oneCell'=true:=by first|(simp[Value.oneCell'];done)|((repeat (refine List.forall_mem_cons.2 ⟨by first|rfl|assumption,?_⟩));exact fun _ h=>absurd h List.not_mem_nil)|exact Cel.one _ w _ (by first|assumption|exact trivial))
  (hT:tkf P T=some (true,q):=by exact rfl) (hnn:vs.length=q:=by exact rfl) (hL:lset L j (blk b vs e)=some L':=by exact rfl) (hr:runF P n rest l=some (rest',l''):=by exact rfl):
  WS P ro n0 w0 ds ops Q L (⟨none,.store T x y,ty,ps,af,none⟩::rest) l:=WS.storeW hx hj hy hn h1 (DF hT) hnn hL (Wz n k hr)
variable {ll:Nat->List Value} {rr:Nat->List Oper} {lz:Nat->List Value}
theorem Wb (n:Nat) (hx:evo l x=some v) (hc:v.cells=c.toArray) (hl:∀b,lset l d (.pointer (some ⟨b,0,none⟩))=some (ll b)) (hr:∀b,runF P n rest (ll b)=some (rr b,lz b))
  (k:∀b,n0<=b->WS P ro n0 w0 ds ops Q (blk b c T::L) (rr b) (lz b)):WS P ro n0 w0 ds ops Q L (⟨some d,.box T x,ty,ps,af,none⟩::rest) l:=WS.box hx hc hl fun b hb=>Wz n (k b hb) (hr b)
theorem Wl (n:Nat) (hz:zv P T=some c) (hl:∀b,lset l d (.pointer (some ⟨b,0,none⟩))=some (ll b)) (hr:∀b,runF P n rest (ll b)=some (rr b,lz b))
  (k:∀b,n0<=b->WS P ro n0 w0 ds ops Q (blk b c T::L) (rr b) (lz b)):WS P ro n0 w0 ds ops Q L (⟨some d,.alloc T,ty,ps,af,none⟩::rest) l:=WS.alloc hz hl fun b hb=>Wz n (k b hb) (hr b)
theorem Wr (n:Nat) (k:∀b,n0<=b->WS P ro n0 w0 ds ops Q (blk b c T::L) (rr b) (lz b)) (hx:evo l x=some v:=by exact rfl) (hc:v.cells=c.toArray:=by exact rfl) (hl:∀b,lset l d (.pointer (some ⟨b,0,none⟩))=some (ll b):=by exact fun _=>rfl)
  (hr:∀b,runF P n rest (ll b)=some (rr b,lz b):=by exact fun _=>rfl):WS P ro n0 w0 ds ops Q L (⟨some d,.box T x,ty,ps,af,none⟩::rest) l:=Wb n hx hc hl hr k
theorem Wq (n:Nat) (hz:zv P T=some c) (k:∀b,n0<=b->WS P ro n0 w0 ds ops Q (blk b c T::L) (rr b) (lz b)) (hl:∀b,lset l d (.pointer (some ⟨b,0,none⟩))=some (ll b):=by exact fun _=>rfl)
  (hr:∀b,runF P n rest (ll b)=some (rr b,lz b):=by exact fun _=>rfl):WS P ro n0 w0 ds ops Q L (⟨some d,.alloc T,ty,ps,af,none⟩::rest) l:=Wl n hz hl hr k
theorem Nz (n:Nat) {id:Nat} {z:Code} (k:WS P ro n0 w0 ds os.toArray (Exit.then (z.wpIn (FW ro) 0 P Q) Q) L rest' l'') (hr:runF P n os l=some (rest',l''):=by exact rfl):CS P ro n0 w0 ds (.seq (.region id os.toArray false) z) Q L l:=CS.seq (CS.region (Wz n k hr))
theorem Ny (n:Nat) {id:Nat} (k:WS P ro n0 w0 ds os.toArray Q L rest' l'') (hr:runF P n os l=some (rest',l''):=by exact rfl):CS P ro n0 w0 ds (.region id os.toArray false) Q L l:=CS.region (Wz n k hr)
theorem Nx (n:Nat) {z:Code} {id:Nat} (k:WS P ro n0 w0 ds os.toArray (Exit.then (z.wpIn (FW ro) 0 P Q') Q') L rest' l'') (hr:runF P n os l=some (rest',l''):=by exact rfl):WS P ro n0 w0 ds ops (Exit.then ((Code.seq (.region id os.toArray false) z).wpIn (FW ro) 0 P Q') Q) L [] l:=WS.done (QS.then_code (Nz n k hr))
theorem Nw (n:Nat) {id:Nat} (k:WS P ro n0 w0 ds os.toArray Q' L rest' l'') (hr:runF P n os l=some (rest',l''):=by exact rfl):WS P ro n0 w0 ds ops (Exit.then ((Code.region id os.toArray false).wpIn (FW ro) 0 P Q') Q) L [] l:=WS.done (QS.then_code (CS.region (Wz n k hr)))
end
variable {K:Act->World->Prop}
section
variable {P:Program} {ro:Option Nat} {n0:Nat} {w0:World} {ds:List Deferred} {ops:Array Oper} {Q:Exit->Act->World->Prop} {L:List SA} {C:World->Prop} {l:List Value} {o:Oper} {b:Bool} {rest:List Oper}
theorem Fy_ (h:False):Det P C o l undef:=h.elim
theorem Fz_ (h:False):Det P C o l (.bool false):=h.elim
theorem Fy (h:b=false) (k:b=true):Det P C o l undef:=Bool.noConfusion (h.symm.trans k)
theorem Fz (h:b=false) (k:b=true):Det P C o l (.bool false):=Bool.noConfusion (h.symm.trans k)
theorem eg_ {x:Operand} (hb:b=true) (h:evo l x=some (cond b v undef)):evo l x=some v:=Nq hb h
theorem en_:evs l []=some []:=rfl
theorem ec_ {x:Operand} {xs:List Operand} (h:evo l x=some v) (h2:evs l xs=some vs):evs l (x::xs)=some (v::vs):=VY h h2
theorem Ck (k:QS n0 w0 ds Q .normal L l):CS P ro n0 w0 ds .skip Q L l:=CS.skip k
theorem Cr (k:QS n0 w0 ds Q .ret L l):CS P ro n0 w0 ds .ret Q L l:=CS.ret k
theorem Cv {id:Nat} (k:QS n0 w0 ds Q (.exit id) L l):CS P ro n0 w0 ds (.exit id) Q L l:=CS.leave k
theorem Cs {x y:Code} (k:CS P ro n0 w0 ds x (Exit.then (y.wpIn (FW ro) 0 P Q) Q) L l):CS P ro n0 w0 ds (.seq x y) Q L l:=CS.seq k
theorem Ce {id:Nat} {c:Code} (k:CS P ro n0 w0 ds c (Exit.inBlock id Q) L l):CS P ro n0 w0 ds (.block id c) Q L l:=CS.block k
theorem Qc {y:Code} (k:CS P ro n0 w0 ds y Q' L l):QS n0 w0 ds (Exit.then (y.wpIn (FW ro) 0 P Q') Q) .normal L l:=k
theorem Qr (k:QS n0 w0 ds Q .ret L l):QS n0 w0 ds (Exit.then K Q) .ret L l:=k
theorem Qe {i:Nat} (k:QS n0 w0 ds Q (.exit i) L l):QS n0 w0 ds (Exit.then K Q) (.exit i) L l:=k
theorem Qb {id:Nat} (k:QS n0 w0 ds Q .normal L l):QS n0 w0 ds (Exit.inBlock id Q) .normal L l:=k
theorem Qs {id:Nat} (k:QS n0 w0 ds Q .ret L l):QS n0 w0 ds (Exit.inBlock id Q) .ret L l:=k
theorem Qx {id:Nat} (k:QS n0 w0 ds Q .normal L l):QS n0 w0 ds (Exit.inBlock id Q) (.exit id) L l:=QS.block_exit k
theorem Qn {id i:Nat} (k:QS n0 w0 ds Q (.exit i) L l) (h:(i == id)=false:=by exact rfl):QS n0 w0 ds (Exit.inBlock id Q) (.exit i) L l:=QS.block_exit_ne h k
theorem Wd (k:QS n0 w0 ds Q .normal L l):WS P ro n0 w0 ds ops Q L [] l:=WS.done k
theorem Cn {c:Operand} {x y:Code} {b:Bool} {p:Prop} (kt:p->CS P ro n0 w0 ds x Q L l) (kf:q->CS P ro n0 w0 ds y Q L l) (hc:evo l c=some (.bool b):=by exact rfl) (hp:(b=true)=p:=by(try simp only[bq]);exact rfl) (hq:(b=false)=q:=by(try simp only[bq]);exact rfl):CS P ro n0 w0 ds (.cond c x y) Q L l:=CS.cond hc (fun h=>kt (hp▸h)) (fun h=>kf (hq▸h))
theorem Wp {c:Operand} {x y:Code} {b:Bool} {p:Prop} (kt:p->CS P ro n0 w0 ds x Q' L l) (kf:q->CS P ro n0 w0 ds y Q' L l) (hc:evo l c=some (.bool b):=by exact rfl) (hp:(b=true)=p:=by(try simp only[bq]);exact rfl) (hq:(b=false)=q:=by(try simp only[bq]);exact rfl):WS P ro n0 w0 ds ops (Exit.then ((Code.cond c x y).wpIn (FW ro) 0 P Q') Q) L [] l:=Wd (Qc (Cn kt kf hc hp hq))
theorem Nu {id:Nat} {c:Code} (k:CS P ro n0 w0 ds c (Exit.inBlock id Q') L l):WS P ro n0 w0 ds ops (Exit.then ((Code.block id c).wpIn (FW ro) 0 P Q') Q) L [] l:=Wd (Qc (Ce k))
theorem Dd (k:QS n0 w0 ds Q .normal L l):DS P n0 w0 ds ops Q L [] l:=k
theorem Qa {bl:List Bool} (k:AS P ro n0 w0 ds ops Q C L fuel bl l):QS n0 w0 ds (Exit.then (AH P ro ops (NP ops Q) C fuel bl.toArray) (NP ops Q)) .normal L l:=QS.then_AS k
theorem Qt {bl:List Bool} {s:Nat} (k:AT P ro n0 w0 ds ops Q C s L fuel bl l):QS n0 w0 ds (Exit.then (AZ P ro ops (NP ops Q) C s fuel bl.toArray) (NP ops Q)) .normal L l:=QS.then_AT k
theorem Wc {f:Operand} {v:β->Value} {A:β->SA} {p:β->Prop} {i:Nat} {l':β->List Value}
  (hf:evo l f=some (.func (.func fn) #[] cap.toArray)) (hv:evs l args=some vs) (he:Ent P fn)
  (hc:∀u,St n0 w0 L u->Calls P fn (vs++cap).toArray u (fun e u'=>∃x,p x/\RetF u (v x) (A x) e u'))
  (hl:∀x,lset l i (v x)=some (l' x)) (k:∀x,p x->WS P ro n0 w0 ds ops Q (A x::L) rest (l' x)):
  WS P ro n0 w0 ds ops Q L (⟨some i,.call ⟨.value f,args.toArray,ts⟩,ty,ps,af,none⟩::rest) l:=WS.callF hf hv he hc hl k
end
section
variable {P:Program} [Fx P] {ro:Option Nat} {n0:Nat} {w0:World} {ds:List Deferred} {ops:Array Oper} {Q:Exit->Act->World->Prop} {L:List SA} {l l'':List Value} {rest':List Oper}
theorem Nv (n:Nat) {id:Nat} {z y:Code} (k:WS P ro n0 w0 ds os.toArray (Exit.then (z.wpIn (FW ro) 0 P (Exit.then (y.wpIn (FW ro) 0 P Q') Q')) (Exit.then (y.wpIn (FW ro) 0 P Q') Q')) L rest' l'') (hr:runF P n os l=some (rest',l''):=by exact rfl):
  WS P ro n0 w0 ds ops (Exit.then ((Code.seq (.seq (.region id os.toArray false) z) y).wpIn (FW ro) 0 P Q') Q) L [] l:=Wd (Qc (Cs (Nz n k hr)))
end
section
variable {P:Program} [Fx P] {ro:Option Nat} {n0:Nat} {w0:World} {ds:List Deferred} {ops:Array Oper} {Q:Exit->Act->World->Prop} {L:List SA} {rest rest':List Oper} {l l' l'':List Value} {o:Oper} {d j:Nat} {v:Value} {b:Bool}
theorem Wj (n:Nat) (k:WS P ro n0 w0 ds ops Q L rest' l'') (hg:o.guard=some (j,true):=by exact rfl) (hb:yielded ops l.toArray j=some b:=by exact rfl) (h:b=true->Det P (St n0 w0 L) o l v:=by intro hg;first|exact Ff|exact Fm|exact Fn|exact Fq|exact Fg|exact Fr|exact Fl|exact Fc|exact Nc|exact Ba 0|exact Ba 1|exact Ba 2|exact Ba 3|exact Ba 4|exact Ba 5|exact Ba 6|exact Ba 7|exact Ba 8|exact Ba 9|exact Bb 0|exact Bb 1|exact Bb 2|exact Bb 3|exact Bb 4|exact Bb 5|exact Ga|exact Fk|exact Fh|exact Fe|exact Xc|exact Na (eg_ hg rfl)|exact Na|exact Xa (eg_ hg rfl)|exact Xa|exact Zb|exact Za)
  (hc:calm o.op=true:=by exact rfl) (hd:o.dst=some d:=by exact rfl) (hl:lset l d (cond b v undef)=some l':=by exact rfl) (hr:runF P n rest l'=some (rest',l''):=by exact rfl):WS P ro n0 w0 ds ops Q L (o::rest) l:=WS.guardT hc hd hg hb h hl (Wz n k hr)
theorem We (n:Nat) (k:WS P ro n0 w0 ds ops Q L rest' l'') (hg:o.guard=some (j,false):=by exact rfl) (hb:yielded ops l.toArray j=some b:=by exact rfl) (h:(!b)=true->Det P (St n0 w0 L) o l v:=by intro hg;first|exact Ff|exact Fm|exact Fn|exact Fq|exact Fg|exact Fr|exact Fl|exact Fc|exact Nc|exact Ba 0|exact Ba 1|exact Ba 2|exact Ba 3|exact Ba 4|exact Ba 5|exact Ba 6|exact Ba 7|exact Ba 8|exact Ba 9|exact Bb 0|exact Bb 1|exact Bb 2|exact Bb 3|exact Bb 4|exact Bb 5|exact Ga|exact Fk|exact Fh|exact Fe|exact Xc|exact Na (eg_ hg rfl)|exact Na|exact Xa (eg_ hg rfl)|exact Xa|exact Zb|exact Za)
  (hc:calm o.op=true:=by exact rfl) (hd:o.dst=some d:=by exact rfl) (hl:lset l d (cond (!b) v undef)=some l':=by exact rfl) (hr:runF P n rest l'=some (rest',l''):=by exact rfl):WS P ro n0 w0 ds ops Q L (o::rest) l:=WS.guardF hc hd hg hb h hl (Wz n k hr)
theorem Dj (n:Nat) (k:DS P n0 w0 ds ops Q L rest' l'') (hg:o.guard=some (j,true):=by exact rfl) (hb:yielded ops l.toArray j=some b:=by exact rfl) (h:b=true->Det P (St n0 w0 L) o l v:=by intro hg;first|exact Ff|exact Fm|exact Fn|exact Fq|exact Fg|exact Fr|exact Fl|exact Fc|exact Nc|exact Ba 0|exact Ba 1|exact Ba 2|exact Ba 3|exact Ba 4|exact Ba 5|exact Ba 6|exact Ba 7|exact Ba 8|exact Ba 9|exact Bb 0|exact Bb 1|exact Bb 2|exact Bb 3|exact Bb 4|exact Bb 5|exact Ga|exact Fk|exact Fh|exact Fe|exact Xc|exact Na (eg_ hg rfl)|exact Na|exact Xa (eg_ hg rfl)|exact Xa|exact Zb|exact Za)
  (hd:o.dst=some d:=by exact rfl) (hl:lset l d (cond b v undef)=some l':=by exact rfl) (hr:runF P n rest l'=some (rest',l''):=by exact rfl):DS P n0 w0 ds ops Q L (o::rest) l:=DS.guardT hd hg hb h hl (Dz n k hr)
theorem De (n:Nat) (k:DS P n0 w0 ds ops Q L rest' l'') (hg:o.guard=some (j,false):=by exact rfl) (hb:yielded ops l.toArray j=some b:=by exact rfl) (h:(!b)=true->Det P (St n0 w0 L) o l v:=by intro hg;first|exact Ff|exact Fm|exact Fn|exact Fq|exact Fg|exact Fr|exact Fl|exact Fc|exact Nc|exact Ba 0|exact Ba 1|exact Ba 2|exact Ba 3|exact Ba 4|exact Ba 5|exact Ba 6|exact Ba 7|exact Ba 8|exact Ba 9|exact Bb 0|exact Bb 1|exact Bb 2|exact Bb 3|exact Bb 4|exact Bb 5|exact Ga|exact Fk|exact Fh|exact Fe|exact Xc|exact Na (eg_ hg rfl)|exact Na|exact Xa (eg_ hg rfl)|exact Xa|exact Zb|exact Za)
  (hd:o.dst=some d:=by exact rfl) (hl:lset l d (cond (!b) v undef)=some l':=by exact rfl) (hr:runF P n rest l'=some (rest',l''):=by exact rfl):DS P n0 w0 ds ops Q L (o::rest) l:=DS.guardF hd hg hb h hl (Dz n k hr)
end
def runG (P:Program) [Fx P]:List Oper->List Value->Option (List Oper×List Value)
 |⟨some d,op,a1,a2,a3,none⟩::ops,l=>match fv P l op with
  |some v=>match lset l d v with
   |some l'=>runG P ops l'
   |none=>none
  |none=>some (⟨some d,op,a1,a2,a3,none⟩::ops,l)
 |ops,l=>some (ops,l)
structure Hid (A:Prop):Prop where
 f:A
section
variable {P:Program} {C:World->Prop} {l:List Value} {o:Oper} {x y z:Operand} {T T':TypeId} {v:Value} {k:BinOp} {f:Nat}
theorem gL [Fx P] (ho:o.op = .load T x:=by exact rfl) (h:Det P C ⟨o.dst,.load T x,o.type,o.pos,o.after,o.guard⟩ l v:=by first|exact Ba 0|exact Ba 1|exact Ba 2|exact Ba 3|exact Ba 4|exact Ba 5|exact Ba 6|exact Ba 7|exact Bb 0|exact Bb 1|exact Bb 2|exact Bb 3|exact Bb 4|exact Bb 5|exact Bb 6|exact Bb 7|exact Bb 8|exact Bb 9|exact Bb 10|exact Ga|exact Ia|exact Ua|exact Ub|exact Uc _ _|exact Bc 0|exact Bc 1|exact Bc 2|exact Bc 3|exact Bc 4|exact Bc 5|exact Bc 6|exact Gb|exact Ba 8|exact Ba 9|exact Ba 10|exact Ba 11|exact Ba 12|exact Uc _ 0|exact Uc _ 1|exact Uc _ 2|exact Uc _ 3|exact Uc _ 4|exact Uc _ 5|exact Uc _ 6|exact Uc _ 7|exact Uc _ 8|exact Uc _ 9|exact Uc _ 10):Det P C o l v:=by
 rw[<-ho]at h;exact h
theorem gK (ho:o.op = .pick x y z:=by exact rfl) (h:Det P C ⟨o.dst,.pick x y z,o.type,o.pos,o.after,o.guard⟩ l v:=by first|exact Pa|exact Po):Det P C o l v:=by
 rw[<-ho]at h;exact h
theorem gN [Fx P] (ho:o.op = .call ⟨.builtin .len,#[x],#[T]⟩:=by exact rfl) (h:Det P C ⟨o.dst,.call ⟨.builtin .len,#[x],#[T]⟩,o.type,o.pos,o.after,o.guard⟩ l v:=by first|exact Na|exact Nc):Det P C o l v:=by
 rw[<-ho]at h;exact h
theorem gNg [Fx P] (ho:o.op = .call ⟨.builtin .len,#[x],#[T]⟩:=by exact rfl) (h:Det P C ⟨o.dst,.call ⟨.builtin .len,#[x],#[T]⟩,o.type,o.pos,o.after,o.guard⟩ l v:=by first|exact Na (eg_ hg rfl)|exact Na|exact Nc):Det P C o l v:=by
 rw[<-ho]at h;exact h
theorem gX [Fx P] (ho:o.op = .indexAddr T x y:=by exact rfl) (h:Det P C ⟨o.dst,.indexAddr T x y,o.type,o.pos,o.after,o.guard⟩ l v:=by first|exact Xa|exact Xc):Det P C o l v:=by
 rw[<-ho]at h;exact h
theorem gXg [Fx P] (ho:o.op = .indexAddr T x y:=by exact rfl) (h:Det P C ⟨o.dst,.indexAddr T x y,o.type,o.pos,o.after,o.guard⟩ l v:=by first|exact Xa (eg_ hg rfl)|exact Xa|exact Xc):Det P C o l v:=by
 rw[<-ho]at h;exact h
theorem gA (ho:o.op = .binOp .add T x y T':=by exact rfl) (h:Det P C ⟨o.dst,.binOp .add T x y T',o.type,o.pos,o.after,o.guard⟩ l v:=by first|exact Za):Det P C o l v:=by
 rw[<-ho]at h;exact h
theorem gS (ho:o.op = .binOp .sub T x y T':=by exact rfl) (h:Det P C ⟨o.dst,.binOp .sub T x y T',o.type,o.pos,o.after,o.guard⟩ l v:=by first|exact Zb):Det P C o l v:=by
 rw[<-ho]at h;exact h
theorem gM (ho:o.op = .binOp .mul T x y T':=by exact rfl) (h:Det P C ⟨o.dst,.binOp .mul T x y T',o.type,o.pos,o.after,o.guard⟩ l v:=by first|exact Zc):Det P C o l v:=by
 rw[<-ho]at h;exact h
theorem gF [Fx P] (ho:o.op = .fieldAddr T x f:=by exact rfl) (h:Det P C ⟨o.dst,.fieldAddr T x f,o.type,o.pos,o.after,o.guard⟩ l v:=by first|exact Ff):Det P C o l v:=by
 rw[<-ho]at h;exact h
theorem gV (ho:o.op = .move x:=by exact rfl) (h:Det P C ⟨o.dst,.move x,o.type,o.pos,o.after,o.guard⟩ l v:=by first|exact Fm):Det P C o l v:=by
 rw[<-ho]at h;exact h
theorem gFn (ho:o.op = .unOp .not T x:=by exact rfl) (h:Det P C ⟨o.dst,.unOp .not T x,o.type,o.pos,o.after,o.guard⟩ l v:=by first|exact Fn):Det P C o l v:=by
 rw[<-ho]at h;exact h
theorem gFe (ho:o.op = .extract x f:=by exact rfl) (h:Det P C ⟨o.dst,.extract x f,o.type,o.pos,o.after,o.guard⟩ l v:=by first|exact Fe):Det P C o l v:=by
 rw[<-ho]at h;exact h
theorem gFc (ho:o.op = .nilCheck x:=by exact rfl) (h:Det P C ⟨o.dst,.nilCheck x,o.type,o.pos,o.after,o.guard⟩ l v:=by first|exact Fc):Det P C o l v:=by
 rw[<-ho]at h;exact h
theorem Fcm {ik:IntKind} {aa bb:Int} {r:Bool} (hk:cmpf k aa bb=some r) (hx:evo l x=some (.int ik aa)) (hy:evo l y=some (.int ik bb)):Det P C ⟨d,.binOp k T x y T',ty,ps,af,g⟩ l (.bool r):=by
 unfold cmpf at hk;split at hk
 ·cases hk;exact RO hx hy
 ·cases hk;exact Rn hx hy
 ·cases hk;exact TM hx hy
 ·cases hk;exact UN hx hy
 ·cases hk;exact Ss hx hy
 ·cases hk;exact SR hx hy
 cases hk
theorem gC {ik:IntKind} {aa bb:Int} {r:Bool} (ho:o.op = .binOp k T x y T':=by exact rfl) (hx:evo l x=some (.int ik aa):=by exact op_) (hy:evo l y=some (.int ik bb):=by exact op_) (hk:cmpf k aa bb=some r:=by exact rfl):Det P C o l (.bool r):=by
 have h:=Fcm (P:=P) (C:=C) (T:=T) (T':=T') (d:=o.dst) (ty:=o.type) (ps:=o.pos) (af:=o.after) (g:=o.guard) hk hx hy;rw[<-ho]at h;exact h
end
section
variable {P:Program} [Fx P] {ro:Option Nat} {n0:Nat} {w0:World} {ds:List Deferred} {ops:Array Oper} {Q:Exit->Act->World->Prop} {L:List SA} {rest rest':List Oper} {l l' l'':List Value} {o:Oper} {d j s:Nat} {v:Value} {b c x want:Bool}
theorem Rg:∀{rest rest':List Oper} {l l':List Value} (k:WS P ro n0 w0 ds ops Q L rest' l') (h:runG P rest l=some (rest',l'):=by exact rfl),WS P ro n0 w0 ds ops Q L rest l
 |[],rest',l,l',k,h=>by unfold runG at h;cases h;exact k
 |o::rest,rest',l,l',k,h=>by
  unfold runG at h;split at h
  ·rename_i d op a1 a2 a3 os l0 hn;cases hn;split at h
   ·rename_i v hv;split at h
    ·rename_i l1 hl;exact WS.det (Sc hv) rfl rfl (JN hv) hl (Rg k h)
    cases h
   cases h;exact k
  cases h;exact k
theorem Rdd:∀{rest rest':List Oper} {l l':List Value} (k:DS P n0 w0 ds ops Q L rest' l') (h:runG P rest l=some (rest',l'):=by exact rfl),DS P n0 w0 ds ops Q L rest l
 |[],rest',l,l',k,h=>by unfold runG at h;cases h;exact k
 |o::rest,rest',l,l',k,h=>by
  unfold runG at h;split at h
  ·rename_i d op a1 a2 a3 os l0 hn;cases hn;split at h
   ·rename_i v hv;split at h
    ·rename_i l1 hl;exact DS.det rfl rfl (JN hv) hl (Rdd k h)
    cases h
   cases h;exact k
  cases h;exact k
theorem Dg {id:Nat} (hm:P.follows .mixedOrders=true) (k:DS P n0 w0 ds os.toArray Q L rest' l') (hr:runG P os l=some (rest',l'):=by exact rfl) (hB:Region.lexB .any os.toArray=true:=by kernel_rfl) (hcalm:Bh os.toArray=true:=by kernel_rfl):
  CS P ro n0 w0 ds (.region id os.toArray true) Q L l:=CS.draw hm hB hcalm (Rdd k hr)
theorem Wy (k:WS P ro n0 w0 ds ops Q L rest' l'') (hg:o.guard=none:=by exact rfl) (h:Det P (St n0 w0 L) o l v:=by first|exact gL|exact gK|exact gN|exact gA|exact gX|exact gS|exact gM) (hc:calm o.op=true:=by exact rfl) (hd:o.dst=some d:=by exact rfl) (hl:lset l d v=some l':=by exact rfl) (hr:runG P rest l'=some (rest',l''):=by exact rfl):WS P ro n0 w0 ds ops Q L (o::rest) l:=WS.det hc hd hg h hl (Rg k hr)
theorem Wg (k:WS P ro n0 w0 ds ops Q L rest' l'') (hg:o.guard=some (j,true):=by exact rfl) (hb:yielded ops l.toArray j=some b:=by exact rfl) (h:b=true->Det P (St n0 w0 L) o l v:=by intro hg;first|exact gL|exact gF|exact gV|exact gC|exact gNg|exact gFn|exact gFc|exact gXg|exact gFe|exact gA|exact gS|exact gK) (hc:calm o.op=true:=by exact rfl) (hd:o.dst=some d:=by exact rfl) (hl:lset l d (cond b v undef)=some l':=by exact rfl) (hr:runG P rest l'=some (rest',l''):=by exact rfl):WS P ro n0 w0 ds ops Q L (o::rest) l:=WS.guardT hc hd hg hb h hl (Rg k hr)
theorem Wh (k:WS P ro n0 w0 ds ops Q L rest' l'') (hg:o.guard=some (j,false):=by exact rfl) (hb:yielded ops l.toArray j=some b:=by exact rfl) (h:(!b)=true->Det P (St n0 w0 L) o l v:=by intro hg;first|exact gL|exact gF|exact gV|exact gC|exact gNg|exact gFn|exact gFc|exact gXg|exact gFe|exact gA|exact gS|exact gK) (hc:calm o.op=true:=by exact rfl) (hd:o.dst=some d:=by exact rfl) (hl:lset l d (cond (!b) v undef)=some l':=by exact rfl) (hr:runG P rest l'=some (rest',l''):=by exact rfl):WS P ro n0 w0 ds ops Q L (o::rest) l:=WS.guardF hc hd hg hb h hl (Rg k hr)
theorem Dy (k:DS P n0 w0 ds ops Q L rest' l'') (hg:o.guard=none:=by exact rfl) (h:Det P (St n0 w0 L) o l v:=by first|exact gL|exact gK|exact gN|exact gA|exact gX|exact gS|exact gM) (hd:o.dst=some d:=by exact rfl) (hl:lset l d v=some l':=by exact rfl) (hr:runG P rest l'=some (rest',l''):=by exact rfl):DS P n0 w0 ds ops Q L (o::rest) l:=DS.det hd hg h hl (Rdd k hr)
theorem Dh (k:DS P n0 w0 ds ops Q L rest' l'') (hg:o.guard=some (j,true):=by exact rfl) (hb:yielded ops l.toArray j=some b:=by exact rfl) (h:b=true->Det P (St n0 w0 L) o l v:=by intro hg;first|exact gL|exact gF|exact gV|exact gC|exact gNg|exact gFn|exact gFc|exact gXg|exact gFe|exact gA|exact gS|exact gK) (hd:o.dst=some d:=by exact rfl) (hl:lset l d (cond b v undef)=some l':=by exact rfl) (hr:runG P rest l'=some (rest',l''):=by exact rfl):DS P n0 w0 ds ops Q L (o::rest) l:=DS.guardT hd hg hb h hl (Rdd k hr)
theorem Di (k:DS P n0 w0 ds ops Q L rest' l'') (hg:o.guard=some (j,false):=by exact rfl) (hb:yielded ops l.toArray j=some b:=by exact rfl) (h:(!b)=true->Det P (St n0 w0 L) o l v:=by intro hg;first|exact gL|exact gF|exact gV|exact gC|exact gNg|exact gFn|exact gFc|exact gXg|exact gFe|exact gA|exact gS|exact gK) (hd:o.dst=some d:=by exact rfl) (hl:lset l d (cond (!b) v undef)=some l':=by exact rfl) (hr:runG P rest l'=some (rest',l''):=by exact rfl):DS P n0 w0 ds ops Q L (o::rest) l:=DS.guardF hd hg hb h hl (Rdd k hr)
end
section
variable {P:Program} {ro:Option Nat} {n0:Nat} {w0:World} {ds:List Deferred} {Q:Exit->Act->World->Prop} {L:List SA} {l:List Value} {b:Bool} {G G':Prop}
theorem Ch {id:Nat} (k:WS P ro n0 w0 ds ⟨os⟩ Q L os l):CS P ro n0 w0 ds (.region id ⟨os⟩ false) Q L l:=CS.region k
theorem Nf (k:G) (h:Hid G->G':=by
  intro h_
  repeat (first
   |with_reducible refine Wd ?_
   |with_reducible refine Qc ?_
   |with_reducible refine Cs ?_
   |((with_reducible refine Ch ?_);refine Rg ?_)
   |with_reducible refine Ck ?_
   |with_reducible refine Ce ?_
   |with_reducible refine Qb ?_
   |with_reducible refine Cr ?_
   |with_reducible refine Qr ?_
   |with_reducible refine Qs ?_
   |with_reducible refine Cv ?_
   |with_reducible refine Qe ?_
   |with_reducible refine Qx ?_
   |with_reducible refine Qn ?_ (by with_unfolding_all exact rfl)
   |with_reducible refine Dd ?_
   |with_reducible refine Qa ?_
   |with_reducible refine Qt ?_)
  exact h_.f):G':=h ⟨k⟩
theorem Nr (k:G) (h:Hid G->G':=by
  intro h_;refine Rg ?_
  repeat (first
   |with_reducible refine Wd ?_
   |with_reducible refine Qc ?_
   |with_reducible refine Cs ?_
   |((with_reducible refine Ch ?_);refine Rg ?_)
   |with_reducible refine Ck ?_
   |with_reducible refine Ce ?_
   |with_reducible refine Qb ?_
   |with_reducible refine Cr ?_
   |with_reducible refine Qr ?_
   |with_reducible refine Qs ?_
   |with_reducible refine Cv ?_
   |with_reducible refine Qe ?_
   |with_reducible refine Qx ?_
   |with_reducible refine Qn ?_ (by with_unfolding_all exact rfl)
   |with_reducible refine Dd ?_
   |with_reducible refine Qa ?_
   |with_reducible refine Qt ?_)
  exact h_.f):G':=h ⟨k⟩
theorem Aa (k:G) (h:Hid G->G':=by
  intro h_
  first|refine Wy ?_|refine Wg ?_|refine Wh ?_
  repeat (first
   |with_reducible refine Wd ?_
   |with_reducible refine Qc ?_
   |with_reducible refine Cs ?_
   |((with_reducible refine Ch ?_);refine Rg ?_)
   |with_reducible refine Ck ?_
   |with_reducible refine Ce ?_
   |with_reducible refine Qb ?_
   |with_reducible refine Cr ?_
   |with_reducible refine Qr ?_
   |with_reducible refine Qs ?_
   |with_reducible refine Cv ?_
   |with_reducible refine Qe ?_
   |with_reducible refine Qx ?_
   |with_reducible refine Qn ?_ (by with_unfolding_all exact rfl)
   |with_reducible refine Dd ?_
   |with_reducible refine Qa ?_
   |with_reducible refine Qt ?_)
  exact h_.f):G':=h ⟨k⟩
theorem Ad (k:G) (h:Hid G->G':=by
  intro h_
  first|refine Dy ?_|refine Dh ?_|refine Di ?_
  repeat (first
   |with_reducible refine Wd ?_
   |with_reducible refine Qc ?_
   |with_reducible refine Cs ?_
   |((with_reducible refine Ch ?_);refine Rg ?_)
   |with_reducible refine Ck ?_
   |with_reducible refine Ce ?_
   |with_reducible refine Qb ?_
   |with_reducible refine Cr ?_
   |with_reducible refine Qr ?_
   |with_reducible refine Qs ?_
   |with_reducible refine Cv ?_
   |with_reducible refine Qe ?_
   |with_reducible refine Qx ?_
   |with_reducible refine Qn ?_ (by with_unfolding_all exact rfl)
   |with_reducible refine Dd ?_
   |with_reducible refine Qa ?_
   |with_reducible refine Qt ?_)
  exact h_.f):G':=h ⟨k⟩
theorem Cm {y z:Code} {x:Operand} {p G1 G2:Prop} (kt:p->G1) (kf:q->G2) (hc:evo l x=some (.bool b):=by exact rfl) (hp:(b=true)=p:=by(try simp only[bq]);exact rfl) (hq:(b=false)=q:=by(try simp only[bq]);exact rfl)
  (h1:Hid G1->CS P ro n0 w0 ds y Q L l:=by
  intro h_
  repeat (first
   |with_reducible refine Wd ?_
   |with_reducible refine Qc ?_
   |with_reducible refine Cs ?_
   |((with_reducible refine Ch ?_);refine Rg ?_)
   |with_reducible refine Ck ?_
   |with_reducible refine Ce ?_
   |with_reducible refine Qb ?_
   |with_reducible refine Cr ?_
   |with_reducible refine Qr ?_
   |with_reducible refine Qs ?_
   |with_reducible refine Cv ?_
   |with_reducible refine Qe ?_
   |with_reducible refine Qx ?_
   |with_reducible refine Qn ?_ (by with_unfolding_all exact rfl)
   |with_reducible refine Dd ?_
   |with_reducible refine Qa ?_
   |with_reducible refine Qt ?_)
  exact h_.f) (h2:Hid G2->CS P ro n0 w0 ds z Q L l:=by
  intro h_
  repeat (first
   |with_reducible refine Wd ?_
   |with_reducible refine Qc ?_
   |with_reducible refine Cs ?_
   |((with_reducible refine Ch ?_);refine Rg ?_)
   |with_reducible refine Ck ?_
   |with_reducible refine Ce ?_
   |with_reducible refine Qb ?_
   |with_reducible refine Cr ?_
   |with_reducible refine Qr ?_
   |with_reducible refine Qs ?_
   |with_reducible refine Cv ?_
   |with_reducible refine Qe ?_
   |with_reducible refine Qx ?_
   |with_reducible refine Qn ?_ (by with_unfolding_all exact rfl)
   |with_reducible refine Dd ?_
   |with_reducible refine Qa ?_
   |with_reducible refine Qt ?_)
  exact h_.f):CS P ro n0 w0 ds (.cond x y z) Q L l:=CS.cond hc (fun e=>h1 ⟨kt (hp▸e)⟩) (fun e=>h2 ⟨kf (hq▸e)⟩)
theorem Eg {f:FuncId} {fn:Func} {c:Code} {args:List Value} (hf:P.funcs[f]? = some fn) (k:G) (hb:fn.body=some c:=by exact rfl)
  (hl:frame args fn.ntmps=some l:=by exact rfl) (hn:args.length<=fn.ntmps:=by exact Nat.le_of_ble_eq_true rfl) (h:Hid G->CS P none w.heap.size w [] c (bodyPost P fn R) [] l:=by
  intro h_
  repeat (first
   |with_reducible refine Wd ?_
   |with_reducible refine Qc ?_
   |with_reducible refine Cs ?_
   |((with_reducible refine Ch ?_);refine Rg ?_)
   |with_reducible refine Ck ?_
   |with_reducible refine Ce ?_
   |with_reducible refine Qb ?_
   |with_reducible refine Cr ?_
   |with_reducible refine Qr ?_
   |with_reducible refine Qs ?_
   |with_reducible refine Cv ?_
   |with_reducible refine Qe ?_
   |with_reducible refine Qx ?_
   |with_reducible refine Qn ?_ (by with_unfolding_all exact rfl)
   |with_reducible refine Dd ?_
   |with_reducible refine Qa ?_
   |with_reducible refine Qt ?_)
  exact h_.f):Calls P f args.toArray w R:=enter hf hb hl hn (h ⟨k⟩)
end
def cU8:Cel Int:=⟨1,fun x=>[.int .u8 x],fun _ _=>True,fun _=>rfl,fun _ _ _ _ _=>trivial,fun _ _ _ v hv=>by simp at hv;subst hv;rfl⟩
def byts (t:ByteArray):List Int:=(bl t).map fun b=>(b.toNat:Int)
theorem F9 (t:ByteArray):(byts t).length=t.size:=by simp[byts]
theorem Ov {t:ByteArray} (h0:0<=i) (h1:i<t.size):nth (byts t) i=byt t i:=by
 have h2:i.toNat<(bl t).length:=by rw[Bp];omega
 have e:=Ej (t:=t) (i:=i.toNat) (by omega);rw[show((i.toNat:Nat):Int)=i by omega]at e;rw[e];simp only[byts,nth,List.getD,List.getElem?_map,List.getElem?_eq_getElem h2,Option.map_some,Option.getD_some]
def RetL (w:World) (xs:List ByteArray):Ending->World->Prop:=fun e w'=>∃v:Value,(∃u0,SlT cStr u0 ⟨v,xs⟩)/\RetF w v (roT cStr ⟨v,xs⟩) e w'
theorem JU (xs:List ByteArray):A1 cStr xs=xs.map Value.string:=by
 unfold A1
 induction xs with
 |nil=>rfl
 |cons x xs ih=>rw[List.map_cons,List.flatten_cons,ih];rfl
theorem LC {b:Nat} {e:TypeId} (hb:u.heap[b]? = some (.cells (xs.map Value.string).toArray e (0,0))) (h:xs.length<=9223372036854775807):
  SlT cStr u ⟨.slice (some ⟨b,0,none⟩) xs.length xs.length,xs⟩:=by
 refine⟨⟨by rw[BQ],some ⟨b,0,none⟩,xs.length,rfl,⟨Nat.le_refl _,h⟩,.inr ⟨b,0,rfl,fun m x hx=>?_⟩⟩,fun _ _=>trivial⟩;simp only at hx;rw[JU]at hx;rw[Nat.zero_add,BT hb m];exact hx
theorem QC {e:TypeId} (h:xs.length<=9223372036854775807):
  RetL w xs (.returned (.slice (some ⟨w.heap.size,0,none⟩) xs.length xs.length)) (w.alloc (.cells (xs.map Value.string).toArray e)):=by
 have h0:(w.alloc (.cells (xs.map Value.string).toArray e)).heap[w.heap.size]? = some (.cells (xs.map Value.string).toArray e (0,0)):=World.alloc_heap_new w _;refine⟨_,⟨_,LC h0 h⟩,rfl,(Below.refl _ w).alloc (Nat.le_refl _) _,fun k=>k=w.heap.size,⟨fun u' hk=>LC (hk _ rfl _ h0) h,fun k hk=>?_⟩,fun k hk=>by omega⟩;subst hk;exact(Array.getElem?_eq_some_iff.1 h0).1
theorem Vm {e:TypeId} (hj:L[j]? = some (oT cStr e v xs)) (hu:St w0.heap.size w0 L u):RetL w0 xs (.returned v) u:=
 ⟨v,⟨u,Bk hu hj (fun _ _=>trivial)⟩,retR (p:=fun u=>SlT cStr u ⟨v,xs⟩) (fun S u hs=>⟨Star.osl hj hs,fun _ _=>trivial⟩) u hu⟩
theorem Jd2 (hj:L[j]? = some (roT cStr ⟨v,xs⟩)) (hu:St w0.heap.size w0 L u):RetL w0 xs (.returned v) u:=⟨v,⟨u,hu.ro hj⟩,retF hj u hu⟩
section
variable {P:Program} {ro:Option Nat} {n0:Nat} {w0:World} {ds:List Deferred} {ops:Array Oper} {Q:Exit->Act->World->Prop} {L:List SA} {rest:List Oper} {l:List Value} {d:Option Tmp} {ty:TypeId} {ps:String} {af:Array Edge} {g:Option (Nat×Bool)} {C:World->Prop}
theorem HY {x:Operand} (hT:P.underlying T=some (.interface (P.methodsAt T))) (hx:evo l x=some .nilIface):Det P C ⟨d,.binOp .eql T x (.const .nilIface) T',ty,ps,af,g⟩ l (.bool true):=fun u _=>by
 replace hx:=Am hx;have h:=run_equal_nil_nil u T hT;have hy:ev l (.const .nilIface) = .nilIface:=rfl;simp[execOp,Ap,hx,hy,eqGuard,binOp,h]
theorem EC {x:Operand} {a b:Int} (hx:evo l x=some (.int .u8 a)) (hy:evo l y=some (.int .u8 b)) (h:0<=a-b/\a-b<=255):
  Det P C ⟨d,.binOp .sub T x y T',ty,ps,af,g⟩ l (.int .u8 (a-b)):=fun u _=>by
 (replace hx:=Am hx;replace hy:=Am hy)
 simp[execOp,Ap,hx,hy,eqGuard,binOp,Op.intArith,IntWalk.u8_in _ h]
theorem DG {x:Operand} {a:Int} (hT:P.underlying T=some (.int .u8)) (hT':P.underlying T'=some (.int .i64)) (hx:evo l x=some (.int .u8 a)) (h:0<=a/\a<=255):
  Det P C ⟨d,.convert T T' x,ty,ps,af,g⟩ l (.int .i64 a):=fun u _=>by
 (replace hx:=Am hx)
 simp[execOp,Ap,hx,convert,run_underlying hT,run_underlying hT',Conv.intToInt,IntWalk.i64_in a (by omega)]
theorem LQ {b:Nat} {t:ByteArray} {e:TypeId} (hb:∀j,j<t.size->u.cell? ⟨b,j,none⟩=some (.int .u8 (t.data.toList.getD j 0).toNat)) (h:t.size<=maxLen):
  SlT cU8 u ⟨.slice (some ⟨b,0,none⟩) t.size (grownCap w t.size 0 e),byts t⟩:=by
 refine⟨⟨by rw[BQ],some ⟨b,0,none⟩,grownCap w t.size 0 e,by simp only[F9],⟨by simp only[F9];exact grownCap_ge ..,?_⟩,.inr ⟨b,0,rfl,fun m x hx=>?_⟩⟩,fun _ _=>trivial⟩
 ·have:=grownCap_le_maxLen w t.size 0 e h;unfold maxLen at this;omega
 simp only at hx;have hm:=(List.getElem?_eq_some_iff.1 hx).1;rw[BQ,F9,show cU8.k=1 from rfl,Nat.mul_one]at hm;have h2:=BW cU8 (l:=byts t) (i:=(m:Int)) (by omega) (by rw[F9];omega) 0 (by decide);rw[show cU8.k=1 from rfl,Nat.mul_one,Nat.add_zero,show((m:Int)).toNat=m by omega,hx]at h2;rw[Nat.zero_add,hb m hm,h2]
 have e1:nth (byts t) (m:Int)=((t.data.toList.getD m 0).toNat:Int):=by
  rw[Ov (by omega) (by omega),Ej hm];congr 2;rw[List.getD,List.getElem?_eq_getElem (by rw[Bp];exact hm)];rfl
 rw[e1];rfl
theorem WS.bytes {e:TypeId} {i:Nat} {x:Operand} {t:ByteArray} (hT:P.underlying T=some .string) (hT':P.underlying T'=some (.slice e)) (he:P.underlying e=some (.int .u8)) (hx:evo l x=some (.string t)) (h:t.size<=maxLen)
   (hl:∀v,lset l i v=some (l' v)) (k:∀v,(∃u0,SlT cU8 u0 ⟨v,byts t⟩)->WS P ro n0 w0 ds ops Q (roT cU8 ⟨v,byts t⟩::L) rest (l' v)):
  WS P ro n0 w0 ds ops Q L (⟨some i,.convert T T' x,ty,ps,af,none⟩::rest) l:=by
 refine WS.world rfl rfl fun u hu=>?_;replace hx:=Am hx;refine⟨.slice (some ⟨u.heap.size,0,none⟩) t.size (grownCap u t.size 0 e),Lib.bytesWorld u e t,?_,?_⟩
 ·have h1:(convert T T' (.string t)).run P u=_:=Lib.run_convert_string_bytes u T T' e t hT hT' he;simp[execOp,hx,h1]
 show wpListIn (FW ro) 0 P ops Q rest ((Act.mk l.toArray ds).put (some i) _) _;rw[AL,Aq (hl _)];have hc:∀j,j<t.size->(Lib.bytesWorld u e t).cell? ⟨u.heap.size,j,none⟩=some (.int .u8 (t.data.toList.getD j 0).toNat):=Lib.bytesWorld_cell u e t;have hat:=Lib.bytesWorld_at_new u e t;refine k _ ⟨_,LQ hc h⟩ _ (hu.cons (T:=fun k=>k=u.heap.size) (Lib.bytesWorld_below u e t) ⟨fun u' hk=>LQ (fun j hj=>?_) h,fun k hk=>?_⟩ fun k hk=>by omega)
 ·rw[<-hc j hj];have h3:=hk _ rfl _ hat;simp[World.cell?,h3,hat]
 subst hk;exact(Array.getElem?_eq_some_iff.1 hat).1
end
structure LockD where
 w:Int
 s:Int
 deriving Inhabited,DecidableEq
structure NoteD where
 nm:ByteArray
 pl:Int
 lk:Int
 wh:Sl Lit
 cl:Clue
 gv:Value
 deriving Inhabited
structure NoteP where
 nm:ByteArray
 pl:Int
 lk:Int
 wh:List Lit
 cl:Clue
 deriving Inhabited
def NoteD.p (n:NoteD):NoteP:=⟨n.nm,n.pl,n.lk,n.wh.l,n.cl⟩
structure Game where
 rm:Room
 lks:Sl LockD
 cds:Sl (Sl Int)
 nts:Sl NoteD
 tr:Int
 deriving Inhabited
abbrev gcl (G:Game):List Value:=[G.rm.pls.v,G.rm.ths.v,G.rm.prs.v,G.rm.wys.v,G.rm.acs.v,G.rm.aus.v,.int .i64 G.rm.ply,G.rm.gl.v,G.lks.v,G.cds.v,G.nts.v,.int .i64 G.tr ]
structure GP where
 rm:Room
 lks:List LockD
 cds:List (List Int)
 nts:List NoteP
 tr:Int
 deriving Inhabited
def Game.p (g:Game):GP:=⟨g.rm.e,g.lks.l,g.cds.l.map Sl.l,g.nts.l.map NoteD.p,g.tr⟩
structure Pos where
 st:Stt
 rd:Sl Bool
 deriving Inhabited
def cLock:Cel LockD:=⟨2,fun a=>[.int .i64 a.w,.int .i64 a.s],fun _ _=>True,fun _=>rfl,fun _ _ _ _ _=>trivial,fun _ _ _ v hv=>by simp at hv;rcases hv with rfl|rfl<;>rfl⟩
theorem SlI.one1 {xs:List Int} (h:SlI w v xs):v.oneCell'=true:=by
 obtain⟨p,cap,rfl⟩:=h.shape;rfl
def cNote:Cel NoteD:=⟨11,fun a=>[.string a.nm,.int .i64 a.pl,.int .i64 a.lk,a.wh.v,.int .i64 a.cl.k,.int .i64 a.cl.a,.int .i64 a.cl.b,.int .i64 a.cl.n,.int .i64 a.cl.m,a.gv,.bool a.cl.nt],
 fun w a=>SlT cLit w a.wh/\SlI w a.gv a.cl.g,fun _=>rfl,fun _ _ _ h hb=>⟨h.1.ext hb,h.2.ext hb⟩,fun _ _ h v hv=>by
 simp at hv;rcases hv with rfl|rfl|rfl|rfl|rfl|rfl|rfl|rfl|rfl|rfl|rfl
 ·rfl
 ·rfl
 ·rfl
 ·exact Sl.one h.1
 ·rfl
 ·rfl
 ·rfl
 ·rfl
 ·rfl
 ·exact h.2.one1
 rfl⟩
structure GameOk (w:World) (g:Game):Prop where
 rm:RoomOk w g.rm
 lks:SlT cLock w g.lks
 cds:SlT (cSl cInt) w g.cds
 nts:SlT cNote w g.nts
theorem GameOk.ext {g:Game} (h:GameOk w g) (hb:Below w.heap.size w u):GameOk u g:=⟨h.rm.ext hb,h.lks.ext hb,h.cds.ext hb,h.nts.ext hb⟩
theorem GameOk.st {g:Game} (h:GameOk w g) (hu:St w.heap.size w L u):GameOk u g:=h.ext hu.below
structure PosOk (w:World) (p:Pos):Prop where
 st:SttOk w p.st
 rd:SlT BO w p.rd
theorem PosOk.ext {p:Pos} (h:PosOk w p) (hb:Below w.heap.size w u):PosOk u p:=⟨h.st.ext hb,h.rd.ext hb⟩
theorem PosOk.toSt {p:Pos} (h:PosOk w p) (hu:St w.heap.size w L u):PosOk u p:=h.ext hu.below
abbrev PX:=P3×List Bool
def Pos.x (p:Pos):PX:=(p.st.x,p.rd.l)
def noP:PX:=(no3,[])
structure NearG (g:Game):Prop where
 rm:Near g.rm
 lks:g.lks.l.length<=10
 cds:g.cds.l.length<=10
 nts:g.nts.l.length<=20
 lk:∀x∈g.lks.l,¬(3<x.w/\5<x.s)
 cd:∀x∈g.cds.l,x.l.length<=10
 nt:∀x∈g.nts.l,x.nm.size<=100/\x.wh.l.length<=20/\x.cl.g.length<=10
structure NmG (g:Game):Prop where
 rm:NmB g.rm
 nt:∀x∈g.nts.l,x.nm.size<=70000/\True
theorem NearG.nm {g:Game} (h:NearG g):NmG g:=⟨h.rm.nm,fun x hx=>⟨Nat.le_trans (h.nt x hx).1 (by decide),trivial⟩⟩
def lkO (G:GP) (i:Int):Int:=Cc (nth G.lks i).w (nth G.lks i).s
def cdO (G:GP) (i:Int):Int:=if Ep (nth G.lks i).w (nth G.lks i).s (nth G.cds i)=0 then 0 else 12
def alO (G:GP) (i:Int):Int:=if(nth G.rm.acs.l i).lk<(G.lks.length:Int)then 0 else 26
def MK (c:Clue):Bool:=decide (c.k=0)&&(decide (c.a=0)&&(decide (c.b=0)&&(decide (c.n=0)&&(decide (c.m=0)&&(decide ((c.g.length:Int)=0)&&!c.nt)))))
def Jf7 (G:GP) (n:NoteP):Bool:=if n.lk = -1 then MK n.cl else decide (DP (nth G.lks n.lk).w (nth G.lks n.lk).s n.cl=0)&&Fj n.cl (nth G.cds n.lk)
def ntB (G:GP) (i:Int):Bool:=newB NoteP.nm G.nts i&&(AY (nth G.nts i).nm&&(placeB G.rm (nth G.nts i).pl&&((decide (-1<=(nth G.nts i).lk)&&decide ((nth G.nts i).lk<=(G.lks.length:Int)-1))&&Jf7 G (nth G.nts i))))
def ntO (G:GP) (i:Int):Int:=or0 (if ntB G i=true then 0 else 40) (whO G.rm (nth G.nts i).wh)
def gck6 (G:GP):Int:=if(decide (1<=G.tr)&&decide (G.tr<=100))=true then 0 else 1
def gck5 (G:GP):Int:=or0 (A7 (ntO G) G.nts.length) (gck6 G)
def gck4 (G:GP):Int:=or0 (A7 (alO G) G.rm.acs.l.length) (gck5 G)
def gck3 (G:GP):Int:=if G.cds.length=G.lks.length then or0 (A7 (cdO G) G.lks.length) (gck4 G)else 12
def gck2 (G:GP):Int:=or0 (A7 (lkO G) G.lks.length) (gck3 G)
def gck1 (G:GP):Int:=if(decide ((8:Int)<G.lks.length)||decide ((16:Int)<G.nts.length))=true then 2 else gck2 G
def Bo (G:GP):Int:=or0 (checkE G.rm) (gck1 G)
def posE (G:GP) (x:PX):Int:=or0 (stE G.rm x.1.1 x.1.2.1 x.1.2.2) (if(x.2.length:Int)=G.nts.length then 0 else 28)
def posG (G:GP) (x:PX):Int:=or0 (Bo G) (posE G x)
def Mo (x:P3) (n:NoteP):Bool:=x.2.2.any (fun p=>decide (p=n.pl))&&DT x.1 n.wh
def CM (G:GP) (x:P3) (rd:List Bool):List Bool:=(Et rd.length).map fun i=>nth rd i||Mo x (nth G.nts i)
def cluN (G:GP) (rd:List Bool) (lk:Int):List Int:=filI G.nts.length fun i=>nth rd i&&decide ((nth G.nts i).lk=lk)
def E9 (G:GP) (lk:Int) (p:Int->Bool):List Int:=filI G.nts.length fun i=>decide ((nth G.nts i).lk=lk)&&p i
def clsN (G:GP) (ns:List Int):List Clue:=ns.map fun i=>(nth G.nts i).cl
def Qg (G:GP) (lk:Int) (ns:List Int):Int:=((NE (nth G.lks lk).w (nth G.lks lk).s (clsN G ns)).length:Int)
def DZ (G:GP) (rd:List Bool) (lk:Int):Bool:=decide (Qg G lk (cluN G rd lk)<=G.tr)
def mayB (G:GP) (rd:List Bool) (m:Move):Bool:=!decide (m.k=4)||(decide ((nth G.rm.acs.l m.n).lk<0)||DZ G rd (nth G.rm.acs.l m.n).lk)
def I2 (G:GP) (x:P3) (m:Move):Option P3:=if legalB G.rm x m=true then settleV G.rm (moveX G.rm x m)else none
def Be (G:GP) (x:PX) (m:Move):Bool:=(I2 G x.1 m).isSome&&mayB G x.2 m
def Hr (G:GP) (x:PX) (m:Move):PX:=((I2 G x.1 m).getD no3,CM G ((I2 G x.1 m).getD no3) x.2)
def PB (G:GP) (x:PX):List Move:=(Bt G.rm x.1).filter (Be G x)
def CanV (G:GP) (x:PX):Int×List Move:=if posG G x=0 then(0,PB G x)else(posG G x,[])
def EJ (G:GP):Int×PX:=if Bo G=0 then if(BeginV G.rm).1=0 then(0,(BeginV G.rm).2,CM G (BeginV G.rm).2 (List.replicate G.nts.length false))else((BeginV G.rm).1,noP)else(Bo G,noP)
def Kw (G:GP) (x:PX) (lk:Int):Int:=or0 (posG G x) (if(decide (0<=lk)&&decide (lk<=(G.lks.length:Int)-1))=true then 0 else 1)
def DW (G:GP) (x:PX) (lk:Int):Int×Int:=if Kw G x lk=0 then(0,Qg G lk (cluN G x.2 lk))else(Kw G x lk,0)
theorem Game.p_nlen (g:Game):g.p.nts.length=g.nts.l.length:=by simp[Game.p]
theorem Game.p_clen (g:Game):g.p.cds.length=g.cds.l.length:=by simp[Game.p]
theorem Game.p_nts (g:Game) (i:Int):nth g.p.nts i=(nth g.nts.l i).p:=FO NoteD.p rfl _ _
theorem Game.p_cds (g:Game) (i:Int):nth g.p.cds i=(nth g.cds.l i).l:=FO Sl.l rfl _ _
theorem Game.p_alike (g:Game):Alike g.rm g.p.rm:=by
 refine E1 ?_;show g.rm.e=g.rm.e.e;simp[Room.e,Sl.e,Function.comp_def,Pro.e,Way.e,Actn.e,Auto.e]
theorem Jhk (G:Game) (i:Int):lkO G.p i=Cc (nth G.lks.l i).w (nth G.lks.l i).s:=rfl
theorem NG (G:Game) (i:Int):cdO G.p i=if Ep (nth G.lks.l i).w (nth G.lks.l i).s (nth G.cds.l i).l=0 then 0 else 12:=by unfold cdO;rw[Game.p_cds];rfl
theorem Game.p_alk (G:Game) (i:Int):(nth G.p.rm.acs.l i).lk=(nth G.rm.acs.l i).lk:=by
 have:=congrArg Actn.lk (G.p_alike.ac i);exact this.symm
theorem Tw (G:Game) (i:Int):alO G.p i=if(nth G.rm.acs.l i).lk<(G.lks.l.length:Int)then 0 else 26:=by unfold alO;rw[Game.p_alk];rfl
def P8 (G:Game) (n:NoteD):Bool:=if n.lk = -1 then MK n.cl else decide (DP (nth G.lks.l n.lk).w (nth G.lks.l n.lk).s n.cl=0)&&Fj n.cl (nth G.cds.l n.lk).l
def ntG (G:Game) (i:Int):Bool:=newB NoteD.nm G.nts.l i&&(AY (nth G.nts.l i).nm&&(placeB G.rm (nth G.nts.l i).pl&&((decide (-1<=(nth G.nts.l i).lk)&&decide ((nth G.nts.l i).lk<=(G.lks.l.length:Int)-1))&&P8 G (nth G.nts.l i))))
variable {G:Game}
theorem Jj {n:NoteD} (h:n.lk = -1):P8 G n=MK n.cl:=if_pos h
theorem GR {n:NoteD} (h:¬n.lk = -1):P8 G n=(decide (DP (nth G.lks.l n.lk).w (nth G.lks.l n.lk).s n.cl=0)&&Fj n.cl (nth G.cds.l n.lk).l):=if_neg h
theorem Up [Inhabited α] [Inhabited β] (f:α->β) (hd:f default=default) (n:β->ByteArray) (l:List α) (i:Int):newB n (l.map f) i=newB (fun x=>n (f x)) l i:=by
 unfold newB;rw[<-List.map_take,List.any_map,FO f hd]
 rfl
theorem Jhw (G:Game) (i:Int):ntB G.p i=ntG G i:=by
 unfold ntB ntG Jf7 P8;rw[Game.p_nts,<-G.p_alike.placeB];simp only[NoteD.p];rw[Game.p_cds];rw[show newB NoteP.nm G.p.nts i=newB NoteD.nm G.nts.l i from Up NoteD.p rfl NoteP.nm G.nts.l i]
 rfl
theorem NK (G:Game) (i:Int):ntO G.p i=or0 (if ntG G i=true then 0 else 40) (whO G.rm (nth G.nts.l i).wh.l):=by
 unfold ntO;rw[Jhw,Game.p_nts,<-G.p_alike.whO]
 rfl
theorem Is (G:Game):gck5 G.p=or0 (A7 (ntO G.p) G.nts.l.length) (gck6 G.p):=by unfold gck5;rw[Game.p_nlen]
theorem Ms (G:Game):gck4 G.p=or0 (A7 (alO G.p) G.rm.acs.l.length) (gck5 G.p):=by unfold gck4;rw[<-G.p_alike.lacs]
theorem Lb (G:Game):gck3 G.p=if G.cds.l.length=G.lks.l.length then or0 (A7 (cdO G.p) G.lks.l.length) (gck4 G.p)else 12:=by unfold gck3;rw[Game.p_clen];rfl
theorem Lu (G:Game):gck2 G.p=or0 (A7 (lkO G.p) G.lks.l.length) (gck3 G.p):=rfl
theorem LP (G:Game):gck1 G.p=if(decide ((8:Int)<G.lks.l.length)||decide ((16:Int)<G.nts.l.length))=true then 2 else gck2 G.p:=by unfold gck1;rw[Game.p_nlen];rfl
theorem EU (G:Game):Bo G.p=or0 (checkE G.rm) (gck1 G.p):=by unfold Bo;rw[G.p_alike.checkE]
theorem L9 (G:Game):gck6 G.p=if(decide (1<=G.tr)&&decide (G.tr<=100))=true then 0 else 1:=rfl
theorem MV {w s:Int} {c:Clue} {xs:List Int} (h:Ep w s xs=0):GV w s c xs=DP w s c:=by
 unfold GV;split
 ·rename_i h2;rw[h,h2]
 rfl
def kwB (t:ByteArray):Bool:=(wordL.any fun x=>seq x t)||seq t ⟨#[]⟩
theorem Gz (t:ByteArray):Au t=(lowB t&&!kwB t):=by unfold Au kwB;rw[Bool.not_or]
theorem LI (G:Game) (p:Pos):posG G.p p.x=or0 (Bo G.p) (or0 (Hc G.rm p.st) (if(p.rd.l.length:Int)=G.nts.l.length then 0 else 28)):=by
 unfold posG
 by_cases h:Bo G.p=0
 ·rw[Bx h,Bx h];rw[EU]at h;have h1:=(B1 h).1;unfold posE Hc;rw[Bx h1,<-G.p_alike.stE,Game.p_nlen]
  rfl
 rw[Bu rfl h,Bu rfl h]
end Go.Proofs.YtllebkdchemabaaGreatDoor
namespace Go.Proofs.YtllebkdchemabaaGreatDoor
set_option linter.unusedVariables false
set_option linter.unusedSimpArgs false
open Go.RowKit Go.Proofs Go.MapKept
structure MapI (es:Array MapEntry) (f:Int->Int):Prop where
 num:∀e∈es.toList,∃k,e.key = .int .i64 k/\e.val = .int .i64 (f k)
 non:∀k,(∀e∈es.toList,e.key≠.int .i64 k)->f k=0
 dis:es.toList.Pairwise fun a b=>a.key≠b.key
theorem JC {α:Type} (f:α->α):∀(l:List α) (j:Nat) (e:α),l[j]? = some e->l.modify j f=l.set j (f e)
 |[],_,_,h=>by simp at h
 |a::l,0,e,h=>by simp at h;subst h;rfl
 |a::l,j+1,e,h=>by
  rw[List.modify_succ_cons,List.set_cons_succ,JC f l j e (by simpa using h)]
def zo (P:Program) (T:TypeId):Option Value:=(P.info? T).bind fun i=>i.zero
def updI (f:Int->Int) (k v:Int):Int->Int:=fun j=>if j=k then v else f j
variable {es:Array MapEntry} {f:Int->Int}
theorem MapI.keys (h:MapI es f):∀x∈es.toList,IsKey (.int .i64) x.key:=fun x hx=>by
 obtain⟨k,h1,_⟩:=h.num x hx;rw[h1];rfl
theorem MapI.nil:MapI #[] fun _=>0:=⟨by simp,fun _ _=>rfl,by simp⟩
theorem MapI.new (h:MapI es f) {k:Int} (hk:∀x∈es.toList,x.key≠.int .i64 k) (v:Int) (c:Nat):MapI (es.push ⟨.int .i64 k,.int .i64 v,c⟩) (updI f k v):=by
 refine⟨fun e he=>?_,fun j hj=>?_,?_⟩
 ·rw[Array.toList_push,List.mem_append,List.mem_singleton]at he;rcases he with he|rfl
  ·obtain⟨q,h1,h2⟩:=h.num e he;refine⟨q,h1,?_⟩;have:q≠k:=fun hq=>hk e he (by rw[h1,hq]);rw[h2,updI,if_neg this]
  exact⟨k,rfl,by simp[updI]⟩
 ·have h1:j≠k:=fun hq=>hj ⟨.int .i64 k,.int .i64 v,c⟩ (by simp) (by rw[hq]);rw[updI,if_neg h1];exact h.non j fun e he=>hj e (by simp[Array.toList_push];exact .inl (by simpa using he))
 rw[Array.toList_push,List.pairwise_append];exact⟨h.dis,List.pairwise_singleton _ _,fun a ha b hb=>by rw[List.mem_singleton]at hb;subst hb;exact hk a ha⟩
variable {j:Nat}
theorem MapI.at (h:MapI es f) {e:MapEntry} {k:Int} (hj:es.toList[j]? = some e) (hk:e.key = .int .i64 k):e.val = .int .i64 (f k):=by
 obtain⟨q,h1,h2⟩:=h.num e (List.mem_of_getElem? hj);rw[hk]at h1;rw[h2];injection h1 with _ h3;rw[h3]
theorem MapI.apart (h:MapI es f) {i:Nat} {a b:MapEntry} (hi:es.toList[i]? = some a) (hj:es.toList[j]? = some b) (hk:a.key=b.key):i=j:=by
 obtain⟨hi1,hi2⟩:=List.getElem?_eq_some_iff.1 hi;obtain⟨hj1,hj2⟩:=List.getElem?_eq_some_iff.1 hj;have hp:=List.pairwise_iff_getElem.1 h.dis;rcases Nat.lt_trichotomy i j with h1|h1|h1
 ·exact(hp i j hi1 hj1 h1 (by rw[hi2,hj2];exact hk)).elim
 ·exact h1
 exact(hp j i hj1 hi1 h1 (by rw[hi2,hj2];exact hk.symm)).elim
theorem MapI.old (h:MapI es f) {e:MapEntry} {k:Int} (hj:es.toList[j]? = some e) (hk:e.key = .int .i64 k) (v:Int):
  MapI (es.modify j fun e'=>{e' with key:=.int .i64 k,val:=.int .i64 v}) (updI f k v):=by
 have hl:(es.modify j fun e'=>{e' with key:=.int .i64 k,val:=.int .i64 v}).toList=es.toList.set j {e with key:=.int .i64 k,val:=.int .i64 v}:=by
  rw[Array.toList_modify,JC _ _ _ _ hj]
 have hjl:=(List.getElem?_eq_some_iff.1 hj).1;refine⟨fun x hx=>?_,fun q hq=>?_,?_⟩
 ·rw[hl]at hx;obtain⟨i,hi⟩:=List.getElem?_of_mem hx
  by_cases hij:i=j
  ·subst hij;rw[List.getElem?_set_self hjl]at hi;cases hi;exact⟨k,rfl,by simp[updI]⟩
  rw[List.getElem?_set_ne (Ne.symm hij)]at hi;obtain⟨q,h1,h2⟩:=h.num x (List.mem_of_getElem? hi);refine⟨q,h1,?_⟩;have:q≠k:=fun hq=>hij (h.apart hi hj (by rw[h1,hk,hq]));rw[h2,updI,if_neg this]
 ·rw[hl]at hq;have h1:q≠k:=fun h0=>hq _ (List.mem_of_getElem? (List.getElem?_set_self hjl)) (by simp[h0]);rw[updI,if_neg h1];refine h.non q fun x hx hxk=>?_;obtain⟨i,hi⟩:=List.getElem?_of_mem hx
  by_cases hij:i=j
  ·subst hij;rw[hj]at hi;cases hi
   rw[hk]at hxk;injection hxk with _ h3;exact h1 h3.symm
  exact hq x (List.mem_of_getElem? (by rw[List.getElem?_set_ne (Ne.symm hij)];exact hi)) hxk
 rw[hl,List.pairwise_iff_getElem];intro a b ha hb hab;have hp:=List.pairwise_iff_getElem.1 h.dis
 have e1:∀i (hi:i<(es.toList.set j {e with key:=.int .i64 k,val:=.int .i64 v}).length),((es.toList.set j {e with key:=.int .i64 k,val:=.int .i64 v})[i]).key=(es.toList[i]'(by simpa using hi)).key:=fun i hi=>by
  rw[List.getElem_set];split
  ·rename_i hji;subst hji;have:=(List.getElem?_eq_some_iff.1 hj).2;rw[this,hk]
  rfl
 rw[e1,e1];exact hp a b (by simpa using ha) (by simpa using hb) hab
theorem MapI.drop (h:MapI es f) {e:MapEntry} {k:Int} (hj:es.toList[j]? = some e) (hk:e.key = .int .i64 k):MapI (es.eraseIdxIfInBounds j) (updI f k 0):=by
 have hjl:j<es.toList.length:=(List.getElem?_eq_some_iff.1 hj).1;have hjs:j<es.size:=by simpa using hjl
 have hl:(es.eraseIdxIfInBounds j).toList=es.toList.eraseIdx j:=by
  unfold Array.eraseIdxIfInBounds;rw[dif_pos hjs];simp
 have hne:∀x∈es.toList.eraseIdx j,x.key≠.int .i64 k:=fun x hx hxk=>by
  obtain⟨i,hij,hi⟩:=List.mem_eraseIdx_iff_getElem?.1 hx;exact hij (h.apart hi hj (by rw[hxk,hk]))
 refine⟨fun x hx=>?_,fun q hq=>?_,by rw[hl];exact h.dis.sublist (List.eraseIdx_sublist _ _)⟩
 ·rw[hl]at hx;obtain⟨q,h1,h2⟩:=h.num x ((List.eraseIdx_sublist _ _).subset hx);refine⟨q,h1,?_⟩;have:q≠k:=fun hq=>hne x hx (by rw[h1,hq]);rw[h2,updI,if_neg this]
 rw[hl]at hq
 by_cases h1:q=k
 ·simp[updI,h1]
 rw[updI,if_neg h1];refine h.non q fun x hx hxk=>?_;obtain⟨i,hi⟩:=List.getElem?_of_mem hx
 by_cases hij:i=j
 ·subst hij;rw[hj]at hi;cases hi
  rw[hk]at hxk;injection hxk with _ h3;exact h1 h3.symm
 exact hq x (List.mem_eraseIdx_iff_getElem?.2 ⟨i,hij,hi⟩) hxk
theorem S2 {k:Int} (h:f k=0):updI f k 0=f:=by
 funext j;unfold updI;split
 ·rename_i e;rw[e,h]
 rfl
def mapI (b:Nat) (f:Int->Int):SA where
 h S u:=(∀k,S k↔k=b)/\∃es c,u.heap[b]? = some (.map es c)/\MapI es f
 loc S u u' h hk:=by
  obtain⟨h1,es,c,h2,h3⟩:=h;exact⟨h1,es,c,hk b ((h1 b).2 rfl) _ h2,h3⟩
 dom S u k h hS:=by
  obtain⟨h1,es,c,h2,_⟩:=h;rw[(h1 k).1 hS];exact(Array.getElem?_eq_some_iff.1 h2).1
variable {u:World}
section
variable {P:Program} {ro:Option Nat} {n0:Nat} {w0:World} {ds:List Deferred} {ops:Array Oper} {Q:Exit->Act->World->Prop} {L L':List SA} {rest:List Oper} {l:List Value} {ty:TypeId} {ps:String} {af:Array Edge}
 {T K E:TypeId} {x y z:Operand} {b j:Nat} {f:Int->Int} {k v:Int} {d:Option Tmp} {g:Option (Nat×Bool)}
theorem St.mapI (h:St n0 w0 L u) (hj:L[j]? = some (YtllebkdchemabaaGreatDoor.mapI b f)):n0<=b/\∃es c,u.heap[b]? = some (.map es c)/\MapI es f:=by
 obtain⟨T,h1,h2,h3⟩:=h.get hj;exact⟨h1 b ((h2 b).2 rfl),h3⟩
theorem St.mapSet (h:St n0 w0 L u) (hj:L[j]? = some (YtllebkdchemabaaGreatDoor.mapI b f)) {c:Nat} {f':Int->Int} (hm:MapI es f'):St n0 w0 (L.set j (YtllebkdchemabaaGreatDoor.mapI b f')) {u with heap:=u.heap.setIfInBounds b (.map es c)}:=by
 obtain⟨T,hT,⟨hS,es0,c0,hb,_⟩,hc⟩:=h.upd hj;have hlt:b<u.heap.size:=(Array.getElem?_eq_some_iff.1 hb).1;refine hc _ _ (fun k=>k=b) ⟨rfl,rfl,rfl,by simp,fun k hk=>?_⟩ (fun k hk o' hcell=>?_) ⟨fun k=>Iff.rfl,es,c,?_,hm⟩ (fun k hk=>by subst hk;exact⟨hT _ ((hS _).2 rfl),.inl ((hS _).2 rfl)⟩)
 ·have:=hT b ((hS b).2 rfl);simp only[Array.getElem?_setIfInBounds];rw[if_neg (by omega)]
 ·simp only[Array.getElem?_setIfInBounds];rw[if_neg (fun e=>hk.2.2 ((hS k).2 e.symm))];exact hcell
 simp[hlt]
theorem WS.makeMap {i:Nat} {l':Nat->List Value} (hl:∀b,lset l i (.map (some b))=some (l' b)) (kk:∀b,n0<=b->WS P ro n0 w0 ds ops Q (YtllebkdchemabaaGreatDoor.mapI b (fun _=>0)::L) rest (l' b)):
  WS P ro n0 w0 ds ops Q L (⟨some i,.makeMap T none,ty,ps,af,none⟩::rest) l:=by
 refine WS.world rfl rfl fun u hu=>?_;refine⟨.map (some u.heap.size),u.alloc (.map #[] 0),?_,?_⟩
 ·simp[execOp,Instr.makeMap]
 rw[AL,Aq (hl _)];exact kk _ hu.size _ (hu.cons (T:=fun k=>k=u.heap.size) ((Below.refl _ u).alloc (Nat.le_refl _) _) ⟨fun k=>Iff.rfl,_,_,World.alloc_heap_new u _,MapI.nil⟩ (fun k hk=>by omega))
theorem C3 (hT:P.underlying T=some (.map K E)) (hK:P.underlying K=some (.int .i64)) (hz:zo P E=some (.int .i64 0)) (hx:evo l x=some (.map (some b))) (hj:L[j]? = some (YtllebkdchemabaaGreatDoor.mapI b f)) (hy:evo l y=some (.int .i64 k)):
  Det P (St n0 w0 L) ⟨d,.lookup T x y false,ty,ps,af,g⟩ l (.int .i64 (f k)):=fun u hu=>by
 (replace hx:=Am hx;replace hy:=Am hy)
 obtain⟨_,es,c,hb,hm⟩:=hu.mapI hj;have hkey:IsKey (.int .i64) (.int .i64 k):=rfl;rcases findNow_spec hkey es.toList 0 hm.keys with⟨h1,h2⟩|⟨q,e,h1,h2,h3⟩
 ·have h0:f k=0:=hm.non k h2;unfold zo at hz;cases hi:P.info? E with
  |none=>simp[hi]at hz
  |some inf=>
   have hz2:inf.zero=some (.int .i64 0):=by simpa [hi]using hz
   simp[execOp,Ap,hx,hy,Instr.lookup,run_underlying hT,MapKept.run_getObj_map hb,run_checkKey hK hkey,run_findKey hK h1,Result.andThen,zeroValue,typeInfo,hi,hz2,h0]
 have hv:=hm.at h2 h3;simp[execOp,Ap,hx,hy,Instr.lookup,run_underlying hT,MapKept.run_getObj_map hb,run_checkKey hK hkey,run_findKey hK h1,Result.andThen,hv]
theorem WS.mapUpdate (hT:P.underlying T=some (.map K E)) (hK:P.underlying K=some (.int .i64)) (hx:evo l x=some (.map (some b))) (hj:L[j]? = some (YtllebkdchemabaaGreatDoor.mapI b f)) (hy:evo l y=some (.int .i64 k)) (hz:evo l z=some (.int .i64 v))
  (hL:lset L j (YtllebkdchemabaaGreatDoor.mapI b (updI f k v))=some L') (kk:WS P ro n0 w0 ds ops Q L' rest l):WS P ro n0 w0 ds ops Q L (⟨none,.mapUpdate T x y z,ty,ps,af,none⟩::rest) l:=by
 (replace hx:=Am hx;replace hy:=Am hy;replace hz:=Am hz)
 rw[<-Aq hL]at kk;refine WS.world_skip rfl rfl rfl fun u hu=>?_;obtain⟨_,es,c,hb,hm⟩:=hu.mapI hj;have hkey:IsKey (.int .i64) (.int .i64 k):=rfl;rcases findNow_spec hkey es.toList 0 hm.keys with⟨h1,h2⟩|⟨q,e,h1,h2,h3⟩
 ·refine⟨_,?_,kk _ (hu.mapSet hj (c:=c+1) (hm.new h2 v c))⟩;simp[execOp,hx,hy,hz,Instr.mapUpdate,run_underlying hT,MapKept.run_getObj_map hb,run_checkKey hK hkey,run_findKey hK h1,MapKept.run_setObj_map _ hb,Result.andThen]
 have hq:es[q]? = some e:=by simpa using h2
 refine⟨_,?_,kk _ (hu.mapSet hj (c:=c) (hm.old h2 h3 v))⟩;simp[execOp,hx,hy,hz,Instr.mapUpdate,run_underlying hT,MapKept.run_getObj_map hb,run_checkKey hK hkey,run_findKey hK h1,hq,h3,run_keyThatStays hkey,MapKept.run_setObj_map _ hb,Result.andThen]
theorem WS.mapDelete {T1 T2:TypeId} (hT:P.underlying T=some (.map K E)) (hK:P.underlying K=some (.int .i64)) (hx:evo l x=some (.map (some b))) (hj:L[j]? = some (YtllebkdchemabaaGreatDoor.mapI b f)) (hy:evo l y=some (.int .i64 k))
  (hL:lset L j (YtllebkdchemabaaGreatDoor.mapI b (updI f k 0))=some L') (kk:WS P ro n0 w0 ds ops Q L' rest l):WS P ro n0 w0 ds ops Q L (⟨none,.call ⟨.builtin .delete,#[x,y],#[T,T1]⟩,ty,ps,af,none⟩::rest) l:=by
 (replace hx:=Am hx;replace hy:=Am hy)
 rw[<-Aq hL]at kk;refine WS.world rfl rfl fun u hu=>?_;obtain⟨_,es,c,hb,hm⟩:=hu.mapI hj;have hkey:IsKey (.int .i64) (.int .i64 k):=rfl;rcases findNow_spec hkey es.toList 0 hm.keys with⟨h1,h2⟩|⟨q,e,h1,h2,h3⟩
 ·have h0:=S2 (hm.non k h2);rw[h0]at kk;refine⟨.tuple #[],_,?_,kk _ (hu.mapSet hj (c:=c) hm)⟩;simp[execOp,hx,hy,resolve,invoke,builtin,Builtin.delete_,run_underlying hT,MapKept.run_getObj_map hb,run_checkKey hK hkey,run_findKey hK h1,MapKept.run_setObj_map _ hb,Result.andThen]
 refine⟨.tuple #[],_,?_,kk _ (hu.mapSet hj (c:=c) (hm.drop h2 h3))⟩;simp[execOp,hx,hy,resolve,invoke,builtin,Builtin.delete_,run_underlying hT,MapKept.run_getObj_map hb,run_checkKey hK hkey,run_findKey hK h1,MapKept.run_setObj_map _ hb,Result.andThen]
end
end Go.Proofs.YtllebkdchemabaaGreatDoor
namespace Go.Proofs.YtllebkdchemabaaGreatDoor
set_option linter.unusedVariables false
set_option linter.unusedSimpArgs false
open Go.RowKit Go.Proofs
def putL:Nat->List Value->List Value->Option (List Value)
 |0,[],z=>some z
 |0,c::cs,_::z=>match putL 0 cs z with
  |some r=>some (c::r)
  |none=>none
 |o+1,cs,x::z=>match putL o cs z with
  |some r=>some (x::r)
  |none=>none
 |_,_,[]=>none
theorem F3:∀{o:Nat} {cs z r:List Value},putL o cs z=some r->o+cs.length<=z.length/\r=z.take o++(cs++z.drop (o+cs.length))
 |0,[],z,r,h=>by simp[putL]at h;subst h;simp
 |0,c::cs,[],r,h=>by simp[putL]at h
 |0,c::cs,y::z,r,h=>by
  unfold putL at h;split at h
  ·rename_i r' hr;simp at h;subst h;have:=F3 hr;simp at this⊢;obtain⟨h1,h2⟩:=this;exact⟨by omega,by rw[h2]⟩
  simp at h
 |o+1,cs,[],r,h=>by cases cs<;>simp[putL]at h
 |o+1,cs,x::z,r,h=>by
  have h':(match putL o cs z with|some r=>some (x::r)|none=>none)=some r:=by cases cs<;>exact h
  split at h'
  ·rename_i r' hr;simp at h';subst h';have:=F3 hr;obtain⟨h1,h2⟩:=this;refine⟨by simp;omega,?_⟩;rw[show o+1+cs.length=o+cs.length+1 by omega];simp[h2]
  simp at h'
def bldG (pls:List (Nat×Nat)):List Value->List (Nat×List Value)->Option (List Value)
 |z,[]=>some z
 |z,(i,cs)::r=>match pls[i]? with
  |some (o,n)=>match Nat.beq cs.length n with
   |true=>match putL o cs z with
    |some z'=>bldG pls z' r
    |none=>none
   |false=>none
  |none=>none
inductive CellsOf:List (Nat×Value)->List (Nat×List Value)->Prop
 |nil:CellsOf [] []
 |agg {i:Nat} {c:List Value} {r:List (Nat×Value)} {s:List (Nat×List Value)} (h:CellsOf r s):CellsOf ((i,.agg c.toArray)::r) ((i,c)::s)
 |one {i:Nat} {v:Value} {r:List (Nat×Value)} {s:List (Nat×List Value)} (h1:v.oneCell'=true) (h:CellsOf r s):CellsOf ((i,v)::r) ((i,[v])::s)
variable {v:Value}
theorem UP (h:v.oneCell'=true):v.cells = #[v]:=by cases v<;>simp_all [Value.cells,Value.oneCell']
theorem RV (pls:List (Nat×Nat)):∀{ps:List (Nat×Value)} {pcs:List (Nat×List Value)} {z cs:List Value},CellsOf ps pcs->bldG pls z pcs=some cs->Instr.fill (pls.toArray[·]?) z.toArray ps=some cs.toArray:=by
 have step:∀{i:Nat} {v:Value} {c:List Value} {ps:List (Nat×Value)} {pcs:List (Nat×List Value)} {z cs:List Value},v.cells=c.toArray->
   (∀{z cs:List Value},bldG pls z pcs=some cs->Instr.fill (pls.toArray[·]?) z.toArray ps=some cs.toArray)->bldG pls z ((i,c)::pcs)=some cs->Instr.fill (pls.toArray[·]?) z.toArray ((i,v)::ps)=some cs.toArray:=by
  intro i v c ps pcs z cs hv ih h;unfold bldG at h;split at h
  ·rename_i o n ho;split at h
   ·rename_i hn;have hn':c.length=n:=Nat.eq_of_beq_eq_true hn;split at h
    ·rename_i z' hz;obtain⟨h1,h2⟩:=F3 hz;have h3:=ih h;have ho':pls.toArray[i]? = some (o,n):=by simpa using ho
     simp only[Instr.fill,ho',hv];rw[if_neg (by simp[hn'];omega)];have h4:=NL c ((z.drop o).take c.length) (z.take o) (z.drop (o+c.length)) o 0 (by simp;omega) (by simp;omega)
     have h5:z.take o++((z.drop o).take c.length++z.drop (o+c.length))=z:=by
      rw[<-List.drop_drop,List.take_append_drop,List.take_append_drop]
     rw[h5]at h4
     have h6:(c.toArray.zipIdx.foldl (fun(cs:Array Value) (x:Value×Nat)=>cs.setIfInBounds (o+x.2) x.1) z.toArray)=z'.toArray:=by
      rw[h2,<-h4];simp[<-Array.foldl_toList]
     show Instr.fill _ (Array.foldl (fun cs (x:Value×Nat)=>cs.setIfInBounds (o+x.2) x.1) z.toArray c.toArray.zipIdx) ps=_;rw[h6];exact h3
    simp at h
   simp at h
  simp at h
 intro ps pcs z cs hc
 induction hc generalizing z cs with
 |nil=>intro h;simp[bldG]at h;subst h;simp[Instr.fill]
 |agg hc ih=>exact fun h=>step rfl ih h
 |one h1 hc ih=>exact fun h=>step (by rw[UP h1]) ih h
variable {T:TypeId} {pl:List (Nat×Operand)} {pls:List (Nat×Nat)} {cs:List Value}
variable {y:Operand} {j:Nat} {vs:List Value} {n:Nat}
variable {β:Type} {args:List Operand} {ts:Array TypeId} {fn:FuncId} {cap:List Value} {L':β->List SA} {want:Bool}
section
variable {P:Program} {ro:Option Nat} {n0:Nat} {w0:World} {ds:List Deferred} {ops:Array Oper} {Q:Exit->Act->World->Prop} {L:List SA}
 {rest:List Oper} {l:List Value} {d:Option Tmp} {ty:TypeId} {ps:String} {af:Array Edge} {g:Option (Nat×Bool)} {C:World->Prop}
theorem AF {z:List Value} {parts:List (Nat×Value)} {pcs:List (Nat×List Value)} (hp:plc P T=some pls) (hz:zv P T=some z) (hv:evp l pl=some parts) (hc:CellsOf parts pcs)
  (hf:bldG pls z pcs=some cs):Det P C ⟨d,.build T pl.toArray,ty,ps,af,g⟩ l (.agg cs.toArray):=Js hp hz hv (RV pls hc hf)
theorem WS.storeP {x:Operand} {b i:Nat} {c c':List Value} {e:TypeId} (hx:evo l x=some (.pointer (some ⟨b,i,none⟩))) (hj:L[j]? = some (blk b c e)) (hy:evo l y=some (.agg vs.toArray))
  (hc:putL i vs c=some c') (h1:∀v∈vs,v.oneCell'=true) (hT:tk P T=some (true,n)) (hnn:vs.length=n) {L':List SA} (hL:lset L j (blk b c' e)=some L') (k:WS P ro n0 w0 ds ops Q L' rest l):
  WS P ro n0 w0 ds ops Q L (⟨none,.store T x y,ty,ps,af,none⟩::rest) l:=by
 subst hnn;rw[<-Aq hL]at k;replace hx:=Am hx;replace hy:=Am hy;obtain⟨hle,hcc⟩:=F3 hc;refine WS.world_skip rfl rfl rfl fun u hu=>?_;obtain⟨S,hS,⟨hS1,hb⟩,hupd⟩:=hu.upd hj;have hst:=run_storeCells_at P b i e vs 0 c.toArray u hb (by simp;omega) h1;refine⟨u.setRow b c'.toArray,?_,?_⟩
 ·simp only[Nat.add_zero]at hst;have e2:(c.toArray.toList.take i++vs++c.toArray.toList.drop (i+vs.length)).toArray=c'.toArray:=by rw[hcc];simp
  rw[e2]at hst;simp[execOp,hx,hy,Instr.storeAt,Instr.sureAddr,storeVar,(CV hT u).2,Value.cells,hst]
 refine k _ (hupd _ _ (fun k=>k=b) ⟨rfl,rfl,rfl,by simp,fun k hk=>setRow_other u b k _ (fun e=>by have:=hS b ((hS1 b).2 rfl);omega)⟩ (fun k hk o' hcell=>?_) ⟨fun k=>Iff.rfl,?_⟩ (fun k hk=>by subst hk;exact⟨hS _ ((hS1 _).2 rfl),.inl ((hS1 _).2 rfl)⟩))
 ·rw[setRow_other u b k _ (fun e=>hk.2.2 ((hS1 k).2 e))];exact hcell
 exact setRow_heap u b c.toArray c'.toArray e _ hb
theorem WS.callSg {f:Operand} {v:β->Value} {p:β->Prop} {i:Nat} {l':β->List Value}
  (hw:yielded ops l.toArray j=some want)
  (hf:evo l f=some (.func (.func fn) #[] cap.toArray)) (hv:evs l args=some vs) (he:Ent P fn)
  (hc:∀u,St n0 w0 L u->Calls P fn (vs++cap).toArray u (fun e u'=>∃x,p x/\e = .returned (v x)/\St n0 w0 (L' x) u'))
  (hl:∀x,lset l i (v x)=some (l' x)) (k:∀x,p x->WS P ro n0 w0 ds ops Q (L' x) rest (l' x)):
  WS P ro n0 w0 ds ops Q L (⟨some i,.call ⟨.value f,args.toArray,ts⟩,ty,ps,af,some (j,want)⟩::rest) l:=by
 intro u hu;have hn:=WS.callS (ds:=ds) (ops:=ops) (Q:=Q) (ro:=ro) (rest:=rest) (ty:=ty) (ps:=ps) (af:=af) (ts:=ts) hf hv he hc hl k u hu;unfold wpListIn at hn⊢;rw[if_pos (by simp[Region.wanted])]at hn
 rw[if_pos (by
  have hw':yielded ops (Act.mk l.toArray ds).tmps j=some want:=hw
  simp[Region.wanted,hw'])]
 exact hn
end
structure GoodG (G:Game):Prop where
 ck:checkE G.rm=0
 nl:G.lks.l.length<=8
 nn:G.nts.l.length<=16
 lk:∀j:Int,0<=j->j<G.lks.l.length->Bg (nth G.lks.l j).w (nth G.lks.l j).s=true
 cl:G.cds.l.length=G.lks.l.length
 cd:∀j:Int,0<=j->j<G.lks.l.length->Ep (nth G.lks.l j).w (nth G.lks.l j).s (nth G.cds.l j).l=0
 al:∀j:Int,0<=j->j<G.rm.acs.l.length->(nth G.rm.acs.l j).lk<G.lks.l.length
 nt:∀j:Int,0<=j->j<G.nts.l.length->ntG G j=true
 wh:∀j:Int,0<=j->j<G.nts.l.length->FD G.rm.ths.l (nth G.nts.l j).wh.l=true
 tr:1<=G.tr/\G.tr<=100
variable {G:Game}
theorem UJ (h:Bo G.p=0):GoodG G:=by
 rw[EU]at h;obtain⟨h0,h⟩:=B1 h;rw[LP]at h;split at h
 ·cases h
 rename_i hm;simp only[Bool.or_eq_true,decide_eq_true_eq]at hm;rw[Lu]at h;obtain⟨h1,h⟩:=B1 h;rw[Lb]at h;split at h
 case isFalse=>cases h
 rename_i hcl;obtain⟨h2,h⟩:=B1 h;rw[Ms]at h;obtain⟨h3,h⟩:=B1 h;rw[Is]at h;obtain⟨h4,h⟩:=B1 h;rw[L9]at h
 have ht:1<=G.tr/\G.tr<=100:=by
  split at h
  ·rename_i h5;simpa using h5
  cases h
 have hnt:∀j:Int,0<=j->j<G.nts.l.length->ntG G j=true/\FD G.rm.ths.l (nth G.nts.l j).wh.l=true:=fun j a b=>by
  have q:=Bj h4 j a b;rw[NK]at q;obtain⟨q1,q2⟩:=B1 q;refine⟨?_,Q4 q2⟩;split at q1
  ·assumption
  cases q1
 refine⟨h0,by omega,by omega,fun j a b=>?_,hcl,fun j a b=>?_,fun j a b=>?_,fun j a b=>(hnt j a b).1,fun j a b=>(hnt j a b).2,ht⟩
 ·have q:=Bj h1 j a b;rw[Jhk]at q
  simpa [Cc]using q
 ·have q:=Bj h2 j a b;rw[NG]at q;split at q
  ·assumption
  cases q
 have q:=Bj h3 j a b;rw[Tw]at q;split at q
 ·assumption
 cases q
structure GoodP (G:Game) (p:Pos):Prop extends GoodG G where
 inn:StIn G.rm p.st.x
 ln:p.rd.l.length=G.nts.l.length
theorem KO {p:Pos} (h:posG G.p p.x=0):GoodP G p:=by
 rw[LI]at h;obtain⟨h1,h⟩:=B1 h;obtain⟨h2,h⟩:=B1 h;refine⟨UJ h1,?_,?_⟩
 ·exact(E4.1 (show stL G.rm p.st.x=0 from h2)).2
 split at h
 ·omega
 cases h
theorem GoodG.ready (h:GoodG G):Ready G.rm:=D0 h.ck
theorem GoodG.cond (h:GoodG G) {j:Int} (h0:0<=j) (h1:j<G.nts.l.length):E8 G.rm.ths.l.length (nth G.nts.l j).wh.l:=Ft (h.wh j h0 h1)
def RetP (w:World) (x:PX) (f:Value->Value):Ending->World->Prop:=fun e w'=>∃y:Pos,(y.x=x/\∃u0,PosOk u0 y)/\RetF w (f (.agg #[y.st.ths.v,y.st.prs.v,y.st.pls.v,y.rd.v])) (roS fun u=>PosOk u y) e w'
variable {w:World}
theorem Jhr {xs:List Bool} (h:SlC w v xs.length 1 (A1 BO xs)):SlT BO w ⟨v,xs⟩:=⟨h,fun _ _=>trivial⟩
variable {w0 u:World} {L:List SA}
theorem Jev {y:Pos} {x:PX} {f:Value->Value} (hj:L[j]? = some (roS fun u=>PosOk u y)) (hx:y.x=x) (hu:St w0.heap.size w0 L u):
  RetP w0 x f (.returned (f (.agg #[y.st.ths.v,y.st.prs.v,y.st.pls.v,y.rd.v]))) u:=⟨y,⟨hx,u,hu.ro hj⟩,retF hj u hu⟩
theorem PosOk.nil (w:World):PosOk w ⟨⟨⟨.slice none 0 0,[]⟩,⟨.slice none 0 0,[]⟩,⟨.slice none 0 0,[]⟩⟩,⟨.slice none 0 0,[]⟩⟩:=⟨⟨SlT.nil _ _,SlT.nil _ _,SlT.nil _ _⟩,SlT.nil _ _⟩
theorem Jcw {f:Value->Value} (hu:St w0.heap.size w0 L u):RetP w0 noP f (.returned (f (.agg #[.slice none 0 0,.slice none 0 0,.slice none 0 0,.slice none 0 0]))) u:=
 ⟨⟨⟨⟨_,[]⟩,⟨_,[]⟩,⟨_,[]⟩⟩,⟨_,[]⟩⟩,⟨rfl,u,PosOk.nil u⟩,retR (fun S u h=>PosOk.nil u) u hu⟩
structure ReadTo (G:GP) (x:P3) (rd:List Bool) (i:Int) (s:List Bool):Prop where
 len:s.length=rd.length
 lo:∀j:Int,0<=j->j<i->nth s j=(nth rd j||Mo x (nth G.nts j))
 hi:∀j:Int,i<=j->0<=j->nth s j=nth rd j
variable {rd:List Bool}
theorem ReadTo.zero {G:GP} {x:P3}:ReadTo G x rd 0 rd:=⟨rfl,fun j a b=>by omega,fun j a b=>rfl⟩
variable {i:Int}
theorem V7 (h0:0<=i) (h1:i<n):nth (Et n) i=i:=by
 have h2:i.toNat<n:=by omega
 simp[Et,nth,List.getD,h2];omega
variable {α:Type} {l:List α}
theorem JZ [Inhabited α] [Inhabited β] (f:α->β) (h0:0<=i) (h1:i<l.length):nth (l.map f) i=f (nth l i):=by
 have h2:i.toNat<l.length:=by omega
 simp[nth,List.getD,h2]
theorem Sr {G:GP} {x:P3} (h0:0<=i) (h1:i<rd.length):nth (CM G x rd) i=(nth rd i||Mo x (nth G.nts i)):=by
 unfold CM;have h2:i<((Et rd.length).length:Int):=by simp[Et];omega
 rw[JZ _ h0 h2,V7 h0 h1]
theorem Im {G:GP} {x:P3}:(CM G x rd).length=rd.length:=by simp[CM,Et]
theorem ReadTo.done {G:GP} {x:P3} {s:List Bool} (h:ReadTo G x rd i s) (hi:rd.length<=i):s=CM G x rd:=by
 refine P0 (by rw[h.len,Im]) fun j h0 h1=>?_;rw[h.len]at h1;rw[h.lo j h0 (by omega),Sr h0 h1]
theorem ReadTo.next {G:GP} {x:P3} {s s':List Bool} (h:ReadTo G x rd i s) (h0:0<=i) (h1:i<rd.length) (hs:s'=if Mo x (nth G.nts i)=true then s.set i.toNat true else s):ReadTo G x rd (i+1) s':=by
 subst hs;have hl:=h.len
 by_cases hc:Mo x (nth G.nts i)=true
 ·rw[if_pos hc];refine⟨by simp[hl],fun j a b=>?_,fun j a b=>?_⟩
  ·by_cases e:j=i
   ·subst e;rw[GF h0 (by omega),hc];simp
   rw[DJ h0 a e];exact h.lo j a (by omega)
  rw[DJ h0 b (by omega)];exact h.hi j (by omega) b
 rw[if_neg hc];refine⟨hl,fun j a b=>?_,fun j a b=>h.hi j (by omega) b⟩
 by_cases e:j=i
 ·subst e;have hc':Mo x (nth G.nts j)=false:=by simpa using hc
  rw[h.hi j (Int.le_refl _) a,hc'];simp
 exact h.lo j a (by omega)
theorem KQ (G:Game) (lk:Int) (p:Int->Bool):E9 G.p lk p=filI G.nts.l.length fun i=>decide ((nth G.nts.l i).lk=lk)&&p i:=by
 unfold E9;rw[Game.p_nlen];congr 1;funext i;rw[Game.p_nts];rfl
theorem RF (G:GP) (rd:List Bool) (lk:Int):E9 G lk (fun i=>nth rd i)=cluN G rd lk:=by
 unfold E9 cluN;congr 1;funext i;exact Bool.and_comm _ _
def clsG (G:Game) (ns:List Int):List Clue:=ns.map fun i=>(nth G.nts.l i).cl
def gvsG (G:Game) (ns:List Int):List Value:=ns.map fun i=>(nth G.nts.l i).gv
theorem Je7 (G:Game) (ns:List Int):clsN G.p ns=clsG G ns:=by
 unfold clsN clsG;congr 1;funext i;rw[Game.p_nts];rfl
theorem Y8 (G:Game) (lk:Int) (ns:List Int):Qg G.p lk ns=((NE (nth G.lks.l lk).w (nth G.lks.l lk).s (clsG G ns)).length:Int):=by unfold Qg;rw[Je7];rfl
def NU (G:Game) (lk:Int) (ns:List Int):Prop:=∀k∈ns,(0<=k/\k<G.nts.l.length)/\(nth G.nts.l k).lk=lk
theorem Vr {n k:Int} {p:Int->Bool} (h:k∈filI n p):(0<=k/\k<n)/\p k=true:=by
 unfold filI at h;rw[List.mem_filter]at h;obtain⟨h1,h2⟩:=h;unfold Et at h1;rw[List.mem_map]at h1;obtain⟨i,hi,rfl⟩:=h1;have:=List.mem_range.1 hi;exact⟨by omega,h2⟩
variable {lk:Int}
theorem O2 {p:Int->Bool}:NU G lk (E9 G.p lk p):=fun k hk=>by
 rw[KQ]at hk;obtain⟨h1,h2⟩:=Vr hk;simp only[Bool.and_eq_true,decide_eq_true_eq]at h2;exact⟨h1,h2.1⟩
theorem RA (hV:GoodG G) (p:Int->Bool) (lk:Int):(E9 G.p lk p).length<=16:=by
 have:=hV.nn;rw[KQ];have:=PM (n:=(G.nts.l.length:Int)) (p:=fun i=>decide ((nth G.nts.l i).lk=lk)&&p i) (by omega);omega
theorem GoodG.says (hV:GoodG G) {k:Int} (h0:0<=k) (h1:k<G.nts.l.length) (hl:0<=(nth G.nts.l k).lk):
  Bd (nth G.lks.l (nth G.nts.l k).lk).w (nth G.lks.l (nth G.nts.l k).lk).s (nth G.nts.l k).cl=true/\Fj (nth G.nts.l k).cl (nth G.cds.l (nth G.nts.l k).lk).l=true:=by
 have h:=hV.nt k h0 h1;unfold ntG at h;simp only[Bool.and_eq_true,decide_eq_true_eq]at h;obtain⟨_,_,_,h3,h4⟩:=h;rw[GR (by omega)]at h4;simp only[Bool.and_eq_true,decide_eq_true_eq]at h4;refine⟨?_,h4.2⟩;have h5:=h4.1;unfold DP at h5;rw[if_pos (hV.lk _ hl (by omega))]at h5;split at h5
 ·assumption
 cases h5
variable {ns:List Int}
theorem Sd (hV:GoodG G) (h0:0<=lk) (h1:lk<G.lks.l.length) (hns:NU G lk ns) (hl:ns.length<=20):DE (nth G.lks.l lk).w (nth G.lks.l lk).s (clsG G ns)=0:=by
 unfold DE;rw[if_pos (hV.lk lk h0 h1),if_neg (by simp[clsG];omega),if_pos];rw[List.all_eq_true];intro c hc;unfold clsG at hc;rw[List.mem_map]at hc;obtain⟨k,hk,rfl⟩:=hc;obtain⟨⟨a,b⟩,e⟩:=hns k hk;have:=(hV.says a b (by omega)).1
 rwa [e]at this
theorem Jf6 (hG:GameOk u G) (hns:NU G lk ns) (h:SlC u v (clsG G ns).length 7 (B2 (clsG G ns) (gvsG G ns))):ClS u v (clsG G ns) (gvsG G ns):=by
 refine⟨h,by simp[clsG,gvsG],fun i a b=>?_⟩;have b':i<(ns.length:Int):=by simpa [clsG]using b
 obtain⟨⟨c,d⟩,_⟩:=hns _ (Ai a b');unfold gvsG clsG;rw[JZ _ a b',JZ _ a b'];exact(hG.nts.at c d:cNote.ok u _).2
theorem GoodG.alk (hV:GoodG G) {n:Int} (h0:0<=n) (h1:n<G.rm.acs.l.length):(nth G.rm.acs.l n).lk<G.lks.l.length:=hV.al n h0 h1
theorem WP (G:Game) (x:P3):Bt G.p.rm x=Bt G.rm x:=by
 unfold Bt;rw[<-G.p_alike.ply];congr 1;funext m;exact(G.p_alike.legalB x m).symm
theorem Ke (G:Game) (x:P3) (m:Move):I2 G.p x m=if legalB G.rm x m=true then settleV G.rm (moveX G.rm x m)else none:=by
 unfold I2;rw[<-G.p_alike.legalB,<-G.p_alike.settleV,<-G.p_alike.moveX]
theorem VZ (G:Game) (x:PX):PB G.p x=(Bt G.rm x.1).filter (Be G.p x):=by unfold PB;rw[WP]
theorem W4 [Inhabited α] {p:α->Bool} (h0:0<=i) (h1:i<l.length) (h:p (nth l i)=true):(l.take i.toNat).filter p++[nth l i]=(l.take (i+1).toNat).filter p:=by
 rw[AG l h0 h1,List.filter_append];simp[h]
theorem YQ [Inhabited α] {p:α->Bool} (h0:0<=i) (h1:i<l.length) (h:p (nth l i)=false):(l.take i.toNat).filter p=(l.take (i+1).toNat).filter p:=by
 rw[AG l h0 h1,List.filter_append];simp[h]
theorem VO {p:α->Bool}:((l.take n).filter p).length<=l.length:=by
 have:=List.length_filter_le p (l.take n);have:=List.length_take_le n l;have:=List.length_take_le' n l;omega
variable {r:Room}
theorem S3 (hR:Ready r) (x:P3):(Bt r x).length<=384:=by
 have:=List.length_filter_le (legalB r x) (NF r.ply.toNat);rw[L4]at this;have:=hR.ply;unfold Bt;omega
theorem VG {x:P3} {m:Move} (hR:Ready r) (hI:StIn r x) (hL:legalB r x m=true) (h:m.k=4):0<=m.n/\m.n<r.acs.l.length:=(ND hR hI hL).ac h
variable {P:Program} {n0:Nat} {ops:Array Oper} {fuel k:Nat}
theorem AS.three {ro:Option Nat} {ds:List Deferred} {Q:Exit->Act->World->Prop} {C:World->Prop} {l:List Value} {bl:List Bool} {i:Nat} {o p q:Oper} {bi bj bk:List Bool}
  (hr:Region.ready .any ops bl.toArray=[i,j,k]) (hi:ops[i]? = some o) (hj:ops[j]? = some p) (hk:ops[k]? = some q) (hC:∀u,St n0 w0 L u->C u) (hbi:lset bl i true=some bi) (hbj:lset bl j true=some bj) (hbk:lset bl k true=some bk)
  (h1:WS P ro n0 w0 ds ops (Exit.then (AH P ro ops (NP ops Q) C fuel bi.toArray) (NP ops Q)) L [o] l) (h2:WS P ro n0 w0 ds ops (Exit.then (AH P ro ops (NP ops Q) C fuel bj.toArray) (NP ops Q)) L [p] l)
  (h3:WS P ro n0 w0 ds ops (Exit.then (AH P ro ops (NP ops Q) C fuel bk.toArray) (NP ops Q)) L [q] l):AS P ro n0 w0 ds ops Q C L (fuel+1) bl l:=fun u hu u' hu'=>by
 have hst:=hu.ext hu';refine⟨hC _ hst,fun h0=>by rw[hr]at h0;simp at h0,fun x hx=>?_⟩;rw[hr]at hx;simp at hx;rcases hx with rfl|rfl|rfl
 ·have:=BH hi (h1 u' hst);rw[<-Aq hbi]at this
  simpa using this
 ·have:=BH hj (h2 u' hst);rw[<-Aq hbj]at this
  simpa using this
 have:=BH hk (h3 u' hst);rw[<-Aq hbk]at this
 simpa using this
end Go.Proofs.YtllebkdchemabaaGreatDoor
