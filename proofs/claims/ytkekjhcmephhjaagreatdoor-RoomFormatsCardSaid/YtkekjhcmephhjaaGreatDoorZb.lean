/- Merged texts of this proof (walks and plain laws), printed by a program of the prover. -/
import Derived.Test.YtkekjhcmephhjaaGreatDoorZa
import Derived.DefersIn
import Derived.Recover
import Derived.Lib.ItoaLen
import Derived.Lib.Join
import Derived.Lib.SplitLaws
import Derived.Lib.SlTrimSet
import Derived.Lib.Atoi
import Derived.Lib.AtoiErrMem
import Derived.Lib.SlicesS
import Derived.Laws.StructEq
import Derived.ChangeKeysEq
import Derived.WideLaws
import Derived.MapKept
import Derived.Lib.IndexLaws
import Derived.ProofKit
import Derived.Deep.Slices
import Derived.Lib.SmallJoins
import Derived.MakeChecks
import Derived.ChangeVars
import Derived.LaidMore
import Derived.Lay
import Derived.LaidOnce
import Derived.SevenTiedAt
import Derived.Handed
import Derived.OpenShut
import Derived.Shelf.Vars
namespace Go.Proofs.YtkekjhcmephhjaaGreatDoor
set_option linter.unusedVariables false
set_option linter.unusedSimpArgs false
open Go.RowKit
structure Cel (α:Type) where
 k:Nat
 cells:α→List Value
 ok:World→α→Prop
 len:∀ a,(cells a).length=k
 ext:∀ (w u:World) (a:α),ok w a→Below w.heap.size w u→ok u a
 one:∀ (w:World) (a:α),ok w a→∀ v∈cells a,v.oneCell'=true
structure Sl (α:Type) where
 v:Value
 l:List α
instance {α:Type}:Inhabited (Sl α):=⟨⟨.slice none 0 0,[]⟩⟩
section
variable {α:Type} (C:Cel α)
def Jax (l:List α):List Value:=(l.map C.cells).flatten
theorem Jbx (l:List α):(Jax C l).length=l.length * C.k:=by
 unfold Jax
 rw [Jpr C.k _ (by intro x hx; obtain ⟨a,_,rfl⟩:=List.mem_map.1 hx; exact C.len a),List.length_map]
theorem Jex (l m:List α):Jax C (l++m)=Jax C l++Jax C m:=by simp [Jax]
theorem Jmm (a:α):Jax C [a]=C.cells a:=by simp [Jax]
theorem Jco [Inhabited α] {l:List α} {i:Int} (h0:0≤i) (h1:i < l.length) (j:Nat) (hj:j < C.k):(Jax C l)[i.toNat * C.k+j]? = (C.cells (nth l i))[j]?:=by
 have hc:i.toNat < l.length:=by omega
 unfold Jax
 rw [Jtk C.k _ (by intro x hx; obtain ⟨a,_,rfl⟩:=List.mem_map.1 hx; exact C.len a) _ _ hj]
 simp [nth,List.getD,hc]
theorem Jpz {l:List α} (h:∀ a∈l,∀ v∈C.cells a,v.oneCell'=true):∀ v∈Jax C l,v.oneCell'=true:=fun v hv=>by
 unfold Jax at hv
 rw [List.mem_flatten] at hv
 obtain ⟨x,hx,hv⟩:=hv
 obtain ⟨a,ha,rfl⟩:=List.mem_map.1 hx
 exact h a ha v hv
theorem Jsw {l:List α} {i j:Nat} {a:α} {v:Value} (hi:i < l.length) (hj:j < C.k) (ha:C.cells a=(C.cells l[i]).set j v):(Jax C l).set (i * C.k+j) v=Jax C (l.set i a):=by
 induction l generalizing i with
 | nil=>simp at hi
 | cons b l ih =>
  cases i with
  | zero =>
   have hb:=C.len b
   simp only [Jax,List.map_cons,List.flatten_cons,List.set_cons_zero,Nat.zero_mul,Nat.zero_add] at ha ⊢
   rw [List.set_append_left _ _ (by omega)]
   congr 1
   exact ha.symm
  | succ i =>
   have hb:=C.len b
   have h1:=ih (i:=i) (by simpa using hi) (by simpa using ha)
   simp only [Jax,List.map_cons,List.flatten_cons,List.set_cons_succ] at h1 ⊢
   rw [← h1,List.set_append_right _ _ (by rw [hb,Nat.succ_mul]; omega)]
   congr 2
   rw [hb,Nat.succ_mul]; omega
structure SlT (w:World) (s:Sl α):Prop where
 sp:SlC w s.v s.l.length C.k (Jax C s.l)
 el:∀ a∈s.l,C.ok w a
end
theorem Jj5 {α:Type} (C:Cel α) (l:List α) (n:Nat):Jax C (l.take n)=(Jax C l).take (n * C.k):=by
 induction l generalizing n with
 | nil=>simp [Jax]
 | cons a l ih =>
  cases n with
  | zero=>simp [Jax]
  | succ n =>
   have h:=C.len a
   have:=ih n
   simp only [Jax,List.map_cons,List.flatten_cons,List.take_succ_cons] at this ⊢
   rw [this,List.take_append,h,Nat.succ_mul,List.take_of_length_le (l:=C.cells a) (by omega)]
   congr 2; omega
theorem Jju {α:Type} (C:Cel α) (l:List α) (n:Nat):Jax C (l.drop n)=(Jax C l).drop (n * C.k):=by
 induction l generalizing n with
 | nil=>simp [Jax]
 | cons a l ih =>
  cases n with
  | zero=>simp [Jax]
  | succ n =>
   have h:=C.len a
   have:=ih n
   simp only [Jax,List.map_cons,List.flatten_cons,List.drop_succ_cons] at this ⊢
   rw [this,List.drop_append,h,Nat.succ_mul,List.drop_of_length_le (l:=C.cells a) (by omega),List.nil_append]
   congr 1; omega
section
variable {α:Type} {C:Cel α} {w u:World} {s:Sl α}
theorem SlT.ext (h:SlT C w s) (hb:Below w.heap.size w u):SlT C u s:=⟨h.sp.ext hb,fun a ha=>C.ext _ _ a (h.el a ha) hb⟩
theorem SlT.st {w0:World} {L:List SA} (h:SlT C w0 s) (hu:St w0.heap.size w0 L u):SlT C u s:=h.ext hu.below
theorem SlT.le (h:SlT C w s):s.l.length≤9223372036854775807:=h.sp.le
theorem SlT.one (h:SlT C w s):∀ v∈Jax C s.l,v.oneCell'=true:=Jpz C fun a ha=>C.one w a (h.el a ha)
theorem SlT.at [Inhabited α] (h:SlT C w s) {i:Int} (h0:0≤i) (h1:i < s.l.length):C.ok w (nth s.l i):=h.el _ (Jak h0 h1)
def Sl.cut {α:Type} (k:Nat) (s:Sl α) (lo hi:Nat):Sl α:=⟨sub2 k s.v lo hi,(s.l.drop lo).take (hi - lo)⟩
theorem SlT.cut (h:SlT C w s) {lo hi:Nat} (h0:lo≤hi) (h1:hi≤s.l.length):SlT C w (s.cut C.k lo hi):=by
 have h2:=h.sp.sub2 h0 h1
 refine ⟨?_,fun a ha=>h.el a (List.mem_of_mem_drop (List.mem_of_mem_take ha))⟩
 unfold Sl.cut
 simp only
 rw [Jj5,Jju]
 rwa [show ((s.l.drop lo).take (hi - lo)).length=hi - lo by simp; omega]
theorem SlT.nil (C:Cel α) (w:World):SlT C w ⟨.slice none 0 0,[]⟩:=⟨⟨by simp [Jax],none,0,rfl,⟨Nat.le_refl 0,by decide⟩,.inl rfl⟩,fun a ha=>by cases ha⟩
end
def cSl {α:Type} (C:Cel α):Cel (Sl α) where
 k:=1
 cells s:=[s.v]
 ok:=SlT C
 len _:=rfl
 ext _ _ _ h hb:=h.ext hb
 one w s h v hv:=by
  simp at hv
  subst hv
  obtain ⟨_,p,cap,e,_⟩:=h.sp
  rw [e]; rfl
def cInt:Cel Int:=⟨1,fun x=>[.int .i64 x],fun _ _=>True,fun _=>rfl,fun _ _ _ _ _=>trivial,fun _ _ _ v hv=>by simp at hv; subst hv; rfl⟩
def cBool:Cel Bool:=⟨1,fun x=>[.bool x],fun _ _=>True,fun _=>rfl,fun _ _ _ _ _=>trivial,fun _ _ _ v hv=>by simp at hv; subst hv; rfl⟩
def cStr:Cel ByteArray:=⟨1,fun x=>[.string x],fun _ _=>True,fun _=>rfl,fun _ _ _ _ _=>trivial,fun _ _ _ v hv=>by simp at hv; subst hv; rfl⟩
theorem Jmf (xs:List Int):Jax cInt xs=xs.map (Value.int .i64):=by
 unfold Jax
 induction xs with
 | nil=>rfl
 | cons x xs ih=>rw [List.map_cons,List.flatten_cons,ih]; rfl
theorem SlT.ints {w:World} {s:Sl Int} (h:SlT cInt w s):SlI w s.v s.l:=by
 have:=h.sp
 rw [Jmf] at this
 exact this
theorem SlI.tree {w:World} {v:Value} {xs:List Int} (h:SlI w v xs):SlT cInt w ⟨v,xs⟩:=⟨by rw [Jmf]; exact h,fun _ _=>trivial⟩
section
variable {P:Program} {ro:Option Nat} {n0:Nat} {w0:World} {ds:List Deferred} {ops:Array Oper} {Q:Exit→Act→World→Prop} {L:List SA}
 {rest:List Oper} {l:List Value} {d:Option Tmp} {ty:TypeId} {ps:String} {af:Array Edge} {g:Option (Nat × Bool)} {D:World→Prop}
 {α:Type} {C:Cel α}
theorem Jeh {T e:TypeId} {by_ k:Nat} {x y:Operand} {v:Value} {i:Int} {w:World} {s:Sl α} (hT:sl P T=some (e,k,by_)) (hx:evo l x=some v) (hy:evo l y=some (.int .i64 i))
  (hv:s.v=v) (hk:C.k=k) (hs:SlT C w s) (h0:0≤i) (h1:i < s.l.length):Det P D ⟨d,.indexAddr T x y,ty,ps,af,g⟩ l (.pointer (some (sla v (i.toNat * k)))):=by
 subst hv
 exact Jha hT hx hy hs.sp h0 h1
theorem Jkp {T e:TypeId} {by_ k:Nat} {x y:Operand} {i:Int} {w:World} {s:Sl α} (hT:sl P T=some (e,k,by_)) (hx:evo l x=some s.v) (hy:evo l y=some (.int .i64 i))
  (hs:SlT C w s) (hk:C.k=k) (h0:0≤i) (h1:i < s.l.length):Det P D ⟨d,.indexAddr T x y,ty,ps,af,g⟩ l (.pointer (some (sla s.v (i.toNat * k)))):=Jeh hT hx hy rfl hk hs h0 h1
theorem Jv6 {T e:TypeId} {a b:Nat} {x:Operand} {w:World} {s:Sl α} (hT:sl P T=some (e,a,b)) (hx:evo l x=some s.v) (hs:SlT C w s) :
  Det P D ⟨d,.call ⟨.builtin .len, #[x], #[T]⟩,ty,ps,af,g⟩ l (.int .i64 s.l.length):=Jdw hT hx hs.sp
variable [Inhabited α]
theorem J0v {T:TypeId} {k:Nat} {x:Operand} {v:Value} {s:Sl α} {i:Int} {cs:List Value} (hx:evo l x=some (.pointer (some (sla v (i.toNat * k))))) (hv:s.v=v) (hk:C.k=k) (hs:SlT C w0 s) (h:0≤i∧i < s.l.length)
  (hc:C.cells (nth s.l i)=cs) (hT:tk P T=some (true,k)):Det P (St w0.heap.size w0 L) ⟨d,.load T x,ty,ps,af,g⟩ l (.agg cs.toArray):=by
 subst hv; subst hk; subst hc
 refine Jfc hx (fun _ hu=>hs.sp.st hu) (fun j y hy=>?_) (by rw [C.len]; exact hT)
 have hj:j < C.k:=by have:=(List.getElem?_eq_some_iff.1 hy).1; rwa [C.len] at this
 rw [Jco C h.1 h.2 j hj]; exact hy
theorem Jgl {T:TypeId} {k z j:Nat} {x:Operand} {v y:Value} {s:Sl α} {i:Int} (hx:evo l x=some (.pointer (some (sla v (i.toNat * k+j))))) (hv:s.v=v) (hk:C.k=k) (hs:SlT C w0 s) (h:0≤i∧i < s.l.length) (hj:j < k)
  (hc:(C.cells (nth s.l i))[j]? = some y) (hT:tk P T=some (false,z)):Det P (St w0.heap.size w0 L) ⟨d,.load T x,ty,ps,af,g⟩ l y:=by
 subst hv; subst hk
 exact Jd3 hx (fun _ hu=>hs.sp.st hu) (by rw [Jco C h.1 h.2 j hj]; exact hc) hT
theorem Jkx {T:TypeId} {z:Nat} {x:Operand} {v y:Value} {s:Sl α} {i:Int} (hx:evo l x=some (.pointer (some (sla v (i.toNat * 1))))) (hv:s.v=v) (hk:C.k=1) (hs:SlT C w0 s) (h:0≤i∧i < s.l.length)
  (hc:(C.cells (nth s.l i))[0]? = some y) (hT:tk P T=some (false,z)):Det P (St w0.heap.size w0 L) ⟨d,.load T x,ty,ps,af,g⟩ l y:=Jgl (j:=0) hx hv hk hs h (by decide) hc hT
theorem J0s {T:TypeId} {k:Nat} {x:Operand} {s:Sl α} {i:Int} {cs:List Value} (hx:evo l x=some (.pointer (some (sla s.v (i.toNat * k))))) (hs:SlT C w0 s) (hk:C.k=k) (h:0≤i∧i < s.l.length)
  (hc:C.cells (nth s.l i)=cs) (hT:tk P T=some (true,k)):Det P (St w0.heap.size w0 L) ⟨d,.load T x,ty,ps,af,g⟩ l (.agg cs.toArray):=J0v hx rfl hk hs h hc hT
theorem Jve {T:TypeId} {z:Nat} (k j:Nat) {x:Operand} {y:Value} {s:Sl α} {i:Int} (hx:evo l x=some (.pointer (some ⟨slb s.v,slo s.v+i.toNat * k+j,none⟩))) (hs:SlT C w0 s) (hk:C.k=k) (h:0≤i∧i < s.l.length) (hj:j < k)
  (hc:(C.cells (nth s.l i))[j]? = some y) (hT:tk P T=some (false,z)):Det P (St w0.heap.size w0 L) ⟨d,.load T x,ty,ps,af,g⟩ l y:=Jgl (by rw [hx,sla,Nat.add_assoc]) rfl hk hs h hj hc hT
theorem Jxk {T:TypeId} {z:Nat} {x:Operand} {y:Value} {s:Sl α} {i:Int} (hx:evo l x=some (.pointer (some (sla s.v (i.toNat * 1))))) (hs:SlT C w0 s) (hk:C.k=1) (h:0≤i∧i < s.l.length)
  (hc:(C.cells (nth s.l i))[0]? = some y) (hT:tk P T=some (false,z)):Det P (St w0.heap.size w0 L) ⟨d,.load T x,ty,ps,af,g⟩ l y:=Jkx hx rfl hk hs h hc hT
end
section
variable {n0:Nat} {w0:World} {L:List SA} {α:Type}
def roT (C:Cel α) (s:Sl α):SA:=roS fun u=>SlT C u s
theorem Jpk {P:Program} {l:List Value} {d:Option Tmp} {ty:TypeId} {ps:String} {af:Array Edge} {g:Option (Nat × Bool)} [Inhabited α] {C:Cel α} {T:TypeId} {k z j jj:Nat} {x:Operand} {v y:Value} {s:Sl α} {i:Int}
  (hj':L[jj]? = some (roT C s)) (hx:evo l x=some (.pointer (some (sla v (i.toNat * k+j))))) (hv:s.v=v) (hk:C.k=k) (h:0≤i∧i < s.l.length) (hj:j < k)
  (hc:(C.cells (nth s.l i))[j]? = some y) (hT:tk P T=some (false,z)):Det P (St n0 w0 L) ⟨d,.load T x,ty,ps,af,g⟩ l y:=by
 subst hv; subst hk
 exact Jd3 hx (fun _ hu=>(St.ro hj' hu).sp) (by rw [Jco C h.1 h.2 j hj]; exact hc) hT
theorem Jpm {P:Program} {l:List Value} {d:Option Tmp} {ty:TypeId} {ps:String} {af:Array Edge} {g:Option (Nat × Bool)} [Inhabited α] {C:Cel α} {T:TypeId} {z jj:Nat} {x:Operand} {v y:Value} {s:Sl α} {i:Int}
  (hj':L[jj]? = some (roT C s)) (hx:evo l x=some (.pointer (some (sla v (i.toNat * 1))))) (hv:s.v=v) (hk:C.k=1) (h:0≤i∧i < s.l.length)
  (hc:(C.cells (nth s.l i))[0]? = some y) (hT:tk P T=some (false,z)):Det P (St n0 w0 L) ⟨d,.load T x,ty,ps,af,g⟩ l y:=Jpk (j:=0) hj' hx hv hk h (by decide) hc hT
theorem Jws {P:Program} {l:List Value} {d:Option Tmp} {ty:TypeId} {ps:String} {af:Array Edge} {g:Option (Nat × Bool)} [Inhabited α] {C:Cel α} {T:TypeId} {z jj:Nat} (k j:Nat) {x:Operand} {y:Value} {s:Sl α} {i:Int}
  (hj':L[jj]? = some (roT C s)) (hx:evo l x=some (.pointer (some ⟨slb s.v,slo s.v+i.toNat * k+j,none⟩))) (hk:C.k=k) (h:0≤i∧i < s.l.length) (hj:j < k)
  (hc:(C.cells (nth s.l i))[j]? = some y) (hT:tk P T=some (false,z)):Det P (St n0 w0 L) ⟨d,.load T x,ty,ps,af,g⟩ l y:=Jpk hj' (by rw [hx,sla,Nat.add_assoc]) rfl hk h hj hc hT
theorem Jxh {P:Program} {l:List Value} {d:Option Tmp} {ty:TypeId} {ps:String} {af:Array Edge} {g:Option (Nat × Bool)} [Inhabited α] {C:Cel α} {T:TypeId} {k jj:Nat} {x:Operand} {s:Sl α} {i:Int} {cs:List Value}
  (hj':L[jj]? = some (roT C s)) (hx:evo l x=some (.pointer (some (sla s.v (i.toNat * k))))) (hk:C.k=k) (h:0≤i∧i < s.l.length)
  (hc:C.cells (nth s.l i)=cs) (hT:tk P T=some (true,k)):Det P (St n0 w0 L) ⟨d,.load T x,ty,ps,af,g⟩ l (.agg cs.toArray):=by
 subst hk; subst hc
 refine Jfc hx (fun _ hu=>(St.ro hj' hu).sp) (fun j y hy=>?_) (by rw [C.len]; exact hT)
 have hj:j < C.k:=by have:=(List.getElem?_eq_some_iff.1 hy).1; rwa [C.len] at this
 rw [Jco C h.1 h.2 j hj]; exact hy
theorem St.roAnd {p q:World→Prop} {u:World} (h:St n0 w0 (roS p::roS q::L) u):St n0 w0 (roS (fun u=>p u∧q u)::L) u:=by
 obtain ⟨h1,h2,T,h3,h4,T',h5,h6,h7⟩:=h
 refine ⟨h1,h2,fun k=>T k∨T' k,fun k hk=>hk.elim (h3 k) fun h=>(h5 k h).1,⟨fun u' hk=>⟨h4.1 u' fun k hS=>hk k (.inl hS),h6.1 u' fun k hS=>hk k (.inr hS)⟩,fun k hS=>hS.elim (h4.2 k) (h6.2 k)⟩,?_⟩
 exact h7.sup fun k hk=>⟨hk.1.1,fun h=>h.elim hk.1.2 hk.2⟩
end
def seq (a b:ByteArray):Bool:=a.toList == b.toList
theorem Jcy (a:ByteArray):seq a a=true:=by simp [seq]
theorem Jkv (a b:ByteArray):seq a b=seq b a:=by unfold seq; exact BEq.comm
def byt (s:ByteArray) (i:Int):Int:=match s[i.toNat]? with | some b=>b.toNat | none=>0
section
variable {P:Program} {l:List Value} {d:Option Tmp} {ty:TypeId} {ps:String} {af:Array Edge} {g:Option (Nat × Bool)} {C:World→Prop}
theorem Ja2 {T T':TypeId} {x y:Operand} {a b:ByteArray} (hx:evo l x=some (.string a)) (hy:evo l y=some (.string b)) :
  Det P C ⟨d,.binOp .eql T x y T',ty,ps,af,g⟩ l (.bool (seq a b)):=fun u _=>by
 (replace hx:=Jan hx; replace hy:=Jan hy)
 simp [execOp,Jap,hx,hy,eqGuard,binOp,Op.stringOp,seq]
theorem Jcm {T T':TypeId} {x y:Operand} {a b:ByteArray} (hx:evo l x=some (.string a)) (hy:evo l y=some (.string b)) :
  Det P C ⟨d,.binOp .neq T x y T',ty,ps,af,g⟩ l (.bool (!seq a b)):=fun u _=>by
 (replace hx:=Jan hx; replace hy:=Jan hy)
 simp [execOp,Jap,hx,hy,eqGuard,binOp,Op.stringOp,seq]
theorem Jbb {T:TypeId} {x:Operand} {a:ByteArray} (hT:P.underlying T=some .string) (hx:evo l x=some (.string a)) :
  Det P C ⟨d,.call ⟨.builtin .len, #[x], #[T]⟩,ty,ps,af,g⟩ l (.int .i64 a.size):=fun u _=>by
 (replace hx:=Jan hx)
 simp [execOp,Jap,hx,resolve,invoke,builtin,Builtin.len_,run_underlying hT,goInt]
theorem Jcl {T:TypeId} {x y:Operand} {a:ByteArray} {i:Int} (hT:P.underlying T=some .string) (hx:evo l x=some (.string a)) (hy:evo l y=some (.int .i64 i)) (h0:0≤i) (h1:i < a.size) :
  Det P C ⟨d,.index T x y,ty,ps,af,g⟩ l (.int .u8 (byt a i)):=fun u _=>by
 (replace hx:=Jan hx; replace hy:=Jan hy)
 have hi:i.toNat < a.size:=by omega
 simp [execOp,Jap,hx,hy,Instr.index,asIntOf,run_underlying hT,h0,byt,hi]
end
structure Lit where
 t:Int
 s:Int
 nt:Bool
 deriving Inhabited,DecidableEq
structure Put where
 t:Int
 s:Int
 deriving Inhabited,DecidableEq
structure Thing where
 nm:ByteArray
 pl:Int
 st:Int
 sr:Int
 deriving Inhabited
structure Pro where
 nm:ByteArray
 pl:Int
 wh:Sl Lit
 deriving Inhabited
structure Way where
 a:Int
 b:Int
 wh:Sl Lit
 deriving Inhabited
structure Actn where
 nm:ByteArray
 pl:Int
 lk:Int
 us:Sl Int
 wh:Sl Lit
 se:Sl Put
 sp:Sl Int
 br:Sl Int
 deriving Inhabited
structure Auto where
 wh:Sl Lit
 t:Int
 s:Int
 deriving Inhabited
structure Room where
 pls:Sl ByteArray
 ths:Sl Thing
 prs:Sl Pro
 wys:Sl Way
 acs:Sl Actn
 aus:Sl Auto
 ply:Int
 gl:Sl Lit
 deriving Inhabited
structure Move where
 p:Int
 k:Int
 n:Int
 deriving Inhabited,DecidableEq
structure Stt where
 ths:Sl Int
 prs:Sl Int
 pls:Sl Int
 deriving Inhabited
theorem Sl.one {α:Type} {C:Cel α} {w:World} {s:Sl α} (h:SlT C w s):s.v.oneCell'=true:=(cSl C).one w s h s.v (by simp [cSl])
def cLit:Cel Lit:=⟨3,fun a=>[.int .i64 a.t,.int .i64 a.s,.bool a.nt],fun _ _=>True,fun _=>rfl,fun _ _ _ _ _=>trivial,fun _ _ _ v hv=>by simp at hv; rcases hv with rfl | rfl | rfl <;> rfl⟩
def cPut:Cel Put:=⟨2,fun a=>[.int .i64 a.t,.int .i64 a.s],fun _ _=>True,fun _=>rfl,fun _ _ _ _ _=>trivial,fun _ _ _ v hv=>by simp at hv; rcases hv with rfl | rfl <;> rfl⟩
def cMove:Cel Move:=⟨3,fun a=>[.int .i64 a.p,.int .i64 a.k,.int .i64 a.n],fun _ _=>True,fun _=>rfl,fun _ _ _ _ _=>trivial,fun _ _ _ v hv=>by simp at hv; rcases hv with rfl | rfl | rfl <;> rfl⟩
def cThing:Cel Thing:=⟨4,fun a=>[.string a.nm,.int .i64 a.pl,.int .i64 a.st,.int .i64 a.sr],fun _ _=>True,fun _=>rfl,fun _ _ _ _ _=>trivial,fun _ _ _ v hv=>by simp at hv; rcases hv with rfl | rfl | rfl | rfl <;> rfl⟩
def cPro:Cel Pro:=⟨3,fun a=>[.string a.nm,.int .i64 a.pl,a.wh.v],fun w a=>SlT cLit w a.wh,fun _=>rfl,fun _ _ _ h hb=>h.ext hb,fun _ _ h v hv=>by
 simp at hv; rcases hv with rfl | rfl | rfl
 ·
  rfl
 ·
  rfl
 exact Sl.one h⟩
def cWay:Cel Way:=⟨3,fun a=>[.int .i64 a.a,.int .i64 a.b,a.wh.v],fun w a=>SlT cLit w a.wh,fun _=>rfl,fun _ _ _ h hb=>h.ext hb,fun _ _ h v hv=>by
 simp at hv; rcases hv with rfl | rfl | rfl
 ·
  rfl
 ·
  rfl
 exact Sl.one h⟩
def cAuto:Cel Auto:=⟨3,fun a=>[a.wh.v,.int .i64 a.t,.int .i64 a.s],fun w a=>SlT cLit w a.wh,fun _=>rfl,fun _ _ _ h hb=>h.ext hb,fun _ _ h v hv=>by
 simp at hv; rcases hv with rfl | rfl | rfl
 ·
  exact Sl.one h
 ·
  rfl
 rfl⟩
structure ActOk (w:World) (a:Actn):Prop where
 us:SlT cInt w a.us
 wh:SlT cLit w a.wh
 se:SlT cPut w a.se
 sp:SlT cInt w a.sp
 br:SlT cInt w a.br
def cAct:Cel Actn:=⟨8,fun a=>[.string a.nm,.int .i64 a.pl,.int .i64 a.lk,a.us.v,a.wh.v,a.se.v,a.sp.v,a.br.v],ActOk,fun _=>rfl,fun _ _ _ h hb=>⟨h.us.ext hb,h.wh.ext hb,h.se.ext hb,h.sp.ext hb,h.br.ext hb⟩,fun _ _ h v hv=>by
 simp at hv; rcases hv with rfl | rfl | rfl | rfl | rfl | rfl | rfl | rfl
 ·
  rfl
 ·
  rfl
 ·
  rfl
 ·
  exact Sl.one h.us
 ·
  exact Sl.one h.wh
 ·
  exact Sl.one h.se
 ·
  exact Sl.one h.sp
 exact Sl.one h.br⟩
structure RoomOk (w:World) (r:Room):Prop where
 pls:SlT cStr w r.pls
 ths:SlT cThing w r.ths
 prs:SlT cPro w r.prs
 wys:SlT cWay w r.wys
 acs:SlT cAct w r.acs
 aus:SlT cAuto w r.aus
 gl:SlT cLit w r.gl
theorem RoomOk.ext {w u:World} {r:Room} (h:RoomOk w r) (hb:Below w.heap.size w u):RoomOk u r:=⟨h.pls.ext hb,h.ths.ext hb,h.prs.ext hb,h.wys.ext hb,h.acs.ext hb,h.aus.ext hb,h.gl.ext hb⟩
theorem RoomOk.st {w u:World} {L:List SA} {r:Room} (h:RoomOk w r) (hu:St w.heap.size w L u):RoomOk u r:=h.ext hu.below
def Room.cells (r:Room):List Value:=[r.pls.v,r.ths.v,r.prs.v,r.wys.v,r.acs.v,r.aus.v,.int .i64 r.ply,r.gl.v]
structure SttOk (w:World) (s:Stt):Prop where
 ths:SlT cInt w s.ths
 prs:SlT cInt w s.prs
 pls:SlT cInt w s.pls
theorem SttOk.ext {w u:World} {r:Stt} (h:SttOk w r) (hb:Below w.heap.size w u):SttOk u r:=⟨h.ths.ext hb,h.prs.ext hb,h.pls.ext hb⟩
theorem SttOk.st {w u:World} {L:List SA} {r:Stt} (h:SttOk w r) (hu:St w.heap.size w L u):SttOk u r:=h.ext hu.below
def Stt.cells (s:Stt):List Value:=[s.ths.v,s.prs.v,s.pls.v]
def Sl.e {α β:Type} (f:α→β) (s:Sl α):Sl β:=⟨.slice none 0 0,s.l.map f⟩
def Pro.e (p:Pro):Pro:={ p with wh:=p.wh.e id }
def Way.e (p:Way):Way:={ p with wh:=p.wh.e id }
def Auto.e (p:Auto):Auto:={ p with wh:=p.wh.e id }
def Actn.e (p:Actn):Actn:={ p with us:=p.us.e id,wh:=p.wh.e id,se:=p.se.e id,sp:=p.sp.e id,br:=p.br.e id }
def Room.e (r:Room):Room:=⟨r.pls.e id,r.ths.e id,r.prs.e Pro.e,r.wys.e Way.e,r.acs.e Actn.e,r.aus.e Auto.e,r.ply,r.gl.e id⟩
def Stt.e (s:Stt):Stt:=⟨s.ths.e id,s.prs.e id,s.pls.e id⟩
def wordL:List ByteArray:=[⟨#[97,116]⟩,⟨#[115,116,97,116,101,115]⟩,⟨#[115,116,97,114,116]⟩,⟨#[103,111,110,101]⟩,⟨#[105,102]⟩,⟨#[108,111,99,107]⟩,⟨#[119,105,116,104]⟩,⟨#[115,101,116,115]⟩,⟨#[115,112,101,110,100,115]⟩,⟨#[98,114,105,110,103,115]⟩]
def lowB (t:ByteArray):Bool:=(List.range t.size).all fun i=>decide (97≤byt t i) && decide (byt t i≤122)
def Ja7 (t:ByteArray):Bool:=lowB t && (!(wordL.any fun x=>seq x t) && !seq t ⟨#[]⟩)
def Jay (t:ByteArray):Bool:=decide ((t.size:Int)≤12) && Ja7 t
def putB (ths:List Thing) (a b:Int):Bool:=(decide (0≤a) && decide (a≤ths.length - 1)) && (decide (0≤b) && decide (b≤IntKind.i64.wrap ((nth ths a).st - 1)))
def Jeg (ths:List Thing) (c:List Lit):Bool:=c.all (fun x=>putB ths x.t x.s) && decide ((c.length:Int)≤8)
def Jfo (ths:List Int) (c:List Lit):Bool:=c.all fun x => !(decide (nth ths x.t=x.s) == x.nt)
theorem Jdz {α:Type} [Inhabited α] {p:α→Bool} {l:List α} {i j:Int} (h0:0≤j) (h1:j < i) (h2:i≤l.length) (h:p (nth l j)=true):(l.take i.toNat).any p=true:=by
 refine List.any_eq_true.2 ⟨nth l j,?_,h⟩
 have hj:j.toNat < l.length:=by omega
 rw [List.mem_take_iff_getElem]
 exact ⟨j.toNat,by omega,by simp [nth,List.getD,hj]⟩
theorem Jf5 {α:Type} [Inhabited α] {p:α→Bool} {l:List α} {i:Int} (h:∀ j:Int,0≤j→j < i→p (nth l j)=false):(l.take i.toNat).any p=false:=by
 rw [List.any_eq_false]
 intro x hx
 obtain ⟨k,hk,rfl⟩:=List.mem_take_iff_getElem.1 hx
 have:=h k (by omega) (by omega)
 have hk2:k < l.length:=by omega
 simpa [nth,List.getD,hk2] using this
theorem Jn8 {t:ByteArray} (h:∀ j:Int,0≤j→j < t.size→97≤byt t j∧byt t j≤122):lowB t=true:=by
 unfold lowB
 rw [List.all_eq_true]
 intro i hi
 have:=h i (by omega) (by simp at hi; omega)
 simp; omega
theorem Js7 {t:ByteArray} {i:Int} (h0:0≤i) (h1:i < t.size) (h:¬ (97≤byt t i∧byt t i≤122)):lowB t=false:=by
 unfold lowB
 rw [List.all_eq_false]
 refine ⟨i.toNat,by simp; omega,?_⟩
 rw [show ((i.toNat:Nat):Int)=i by omega]
 simp; omega
structure Fill (k:Nat) (s n i m:Int) (xs:List Int):Prop where
 lo : -1≤i
 hi:i < k
 pos:0≤m∧m≤n
 ex:∃ T,xs=List.replicate (i+1).toNat 0++T∧digs k s n=digs (i+1).toNat s m++T
section
variable {k:Nat} {s n i m:Int} {xs:List Int}
theorem Fill.start {w:Int} (hk:(k:Int)=w) (hw:0≤w) (hn:0≤n):Fill k s n (w - 1) n (List.replicate w.toNat 0):=by
 subst hk
 refine ⟨by omega,by omega,⟨hn,Int.le_refl _⟩,[],?_,?_⟩ <;> simp
theorem Fill.len (h:Fill k s n i m xs):xs.length=k:=by
 obtain ⟨T,h1,h2⟩:=h.ex
 have:=congrArg List.length h2
 simp [Jfi] at this
 rw [h1]; simp; omega
theorem Fill.step (h:Fill k s n i m xs) (h0:0≤i) (hs:2≤s):Fill k s n (i - 1) (m / s) (xs.set i.toNat (m % s)):=by
 obtain ⟨T,h1,h2⟩:=h.ex
 have e:(i+1).toNat=i.toNat+1:=by omega
 have e2:(i - 1+1).toNat=i.toNat:=by omega
 have hp:=h.pos
 refine ⟨by omega,by have:=h.hi; omega,⟨Int.ediv_nonneg hp.1 (by omega),Int.le_trans (Int.ediv_le_self s hp.1) hp.2⟩,m % s::T,?_,?_⟩
 ·
  rw [h1,e,e2,List.replicate_succ',List.append_assoc]
  exact Jm3 (by simp)
 rw [h2,e,e2,digs]; simp
end
theorem Jqe {α:Type} {xs:List α} {m:Int} (h:(xs.length:Int)≤m):xs.take m.toNat=xs:=List.take_of_length_le (by omega)
theorem Jxo {α:Type} [Inhabited α] {xs ys:List α} (hl:xs.length=ys.length) (h:∀ i:Int,0≤i→i < xs.length→nth xs i=nth ys i):xs=ys:=by
 apply List.ext_getElem hl
 intro i h1 h2
 have:=h i (by omega) (by omega)
 simpa [nth,List.getD,h1,h2] using this
def comN (y x:List Int):Int:=Jni y x 10 - Jj0 y x
def J32 (L:List (List Int)) (x:List Int) (r c:Int):Int:=((L.filter fun y=>decide (Jj0 y x=r) && decide (comN y x=c)).length:Int)
def maxL:List Int→Int
 | []=>0
 | a::l=>max a (maxL l)
def cA (L:List (List Int)) (x y:List Int):Int:=J32 L x (Jj0 y x) (comN y x)
def wN (L:List (List Int)) (x:List Int):Int:=maxL (L.map (cA L x))
def Jhy (L:List (List Int)):Nat→Nat
 | 0=>0
 | i+1=>if i=0 then 0 else if wN L (nth L i) < wN L (nth L (Jhy L i)) then i else Jhy L i
theorem Jor (L:List (List Int)):∀ i,0 < i→Jhy L i < i
 | 0,h=>by omega
 | i+1,_=>by
  simp only [Jhy]
  split
  ·
   omega
  split
  ·
   omega
  have:=Jor L i (by omega); omega
structure NextI (L:List (List Int)) (gs:List Value) (i:Int) (v:Value) (m:Int):Prop where
 lo:i=0→v = .slice none 0 0∧m=0
 hi:0 < i→v=nth gs (Jhy L i.toNat)∧m=wN L (nth L (Jhy L i.toNat))
def nilB:Value→Bool
 | .slice none _ _=>true
 | _=>false
theorem Jrb {u:World} {v:Value} {xs:List Int} (h:SlI u v xs) (h0:0 < xs.length):nilB v=false∧∃ p n c,v = .slice p n c:=by
 obtain ⟨_,p,cap,rfl,_,h2⟩:=h
 rcases h2 with h2 | ⟨b,o,rfl,_⟩
 ·
  omega
 exact ⟨rfl,_,_,_,rfl⟩
section
variable {L:List (List Int)} {gs:List Value} {i m:Int} {v:Value}
theorem NextI.start:NextI L gs 0 (.slice none 0 0) 0:=⟨fun _=>⟨rfl,rfl⟩,fun h=>by omega⟩
theorem NextI.nil {u:World} {lv:Value} (h:NextI L gs i v m) (hs:SlL u lv L gs) (h0:0≤i) (h1:i≤L.length) (hp:∀ j:Int,0≤j→j < L.length→0 < (nth L j).length):nilB v=decide (i=0)∧∃ p n c,v = .slice p n c:=by
 by_cases hi:i=0
 ·
  obtain ⟨rfl,_⟩:=h.lo hi
  exact ⟨by simp [hi,nilB],_,_,_,rfl⟩
 obtain ⟨rfl,_⟩:=h.hi (by omega)
 have hb:=Jor L i.toNat (by omega)
 have:=Jrb (hs.el (Jhy L i.toNat) (by omega) (by omega)) (hp _ (by omega) (by omega))
 exact ⟨by rw [this.1]; simp [hi],this.2⟩
theorem NextI.take (h:NextI L gs i v m) (h0:0≤i) (hc:nilB v=true∨wN L (nth L i) < m) (hn:nilB v=decide (i=0)):NextI L gs (i+1) (nth gs i) (wN L (nth L i)):=by
 have e:(i+1).toNat=i.toNat+1:=by omega
 have e2:((i.toNat:Nat):Int)=i:=by omega
 refine ⟨fun h=>by omega,fun _=>?_⟩
 have:Jhy L (i+1).toNat=i.toNat:=by
  rw [e,Jhy]
  by_cases hi:i.toNat=0
  ·
   rw [if_pos hi,hi]
  rw [if_neg hi,if_pos]
  have h2:=(h.hi (by omega)).2
  rw [hn] at hc
  rcases hc with hc | hc
  ·
   simp at hc; omega
  rw [e2, ← h2]; exact hc
 rw [this,e2]
 exact ⟨rfl,rfl⟩
theorem NextI.leave (h:NextI L gs i v m) (h0:0≤i) (hc:nilB v=false∧¬ wN L (nth L i) < m) (hn:nilB v=decide (i=0)):NextI L gs (i+1) v m:=by
 have e:(i+1).toNat=i.toNat+1:=by omega
 have e2:((i.toNat:Nat):Int)=i:=by omega
 have hi:¬ i.toNat=0:=by rw [hn] at hc; simp at hc; omega
 refine ⟨fun h=>by omega,fun _=>?_⟩
 have h2:=h.hi (by omega)
 have:Jhy L (i+1).toNat=Jhy L i.toNat:=by
  rw [e,Jhy,if_neg hi,if_neg]
  rw [e2, ← h2.2]; exact hc.2
 rw [this]
 exact h2
end
end Go.Proofs.YtkekjhcmephhjaaGreatDoor
namespace Go.Proofs.YtkekjhcmephhjaaGreatDoor
set_option linter.unusedVariables false
set_option linter.unusedSimpArgs false
open Go.RowKit Go.Proofs
section
variable {P:Program} {ro:Option Nat} {n0:Nat} {w0:World} {ds:List Deferred} {ops:Array Oper} {Q:Exit→Act→World→Prop} {L:List SA}
 {rest:List Oper} {l:List Value} {d:Option Tmp} {ty:TypeId} {ps:String} {af:Array Edge} {g:Option (Nat × Bool)} {C:World→Prop} {u:World}
theorem St.setRow {b j:Nat} {c c':List Value} {e:TypeId} (h:St n0 w0 L u) (hj:L[j]? = some (Go.Proofs.YtkekjhcmephhjaaGreatDoor.blk b c e)):St n0 w0 (L.set j (Go.Proofs.YtkekjhcmephhjaaGreatDoor.blk b c' e)) (u.setRow b c'.toArray):=by
 obtain ⟨S,hS,⟨hS1,hb⟩,hupd⟩:=h.upd hj
 refine hupd _ _ (fun k=>k=b) ⟨rfl,rfl,rfl,by simp,fun k hk=>setRow_other u b k _ (fun e=>by have:=hS b ((hS1 b).2 rfl); omega)⟩ (fun k hk o' hcell=>?_) ⟨fun k=>Iff.rfl,?_⟩ (fun k hk=>by subst hk; exact ⟨hS _ ((hS1 _).2 rfl),.inl ((hS1 _).2 rfl)⟩)
 ·
  rw [setRow_other u b k _ (fun e=>hk.2.2 ((hS1 k).2 e))]; exact hcell
 exact setRow_heap u b c.toArray c'.toArray e _ hb
theorem WS.build0 {T e:TypeId} {k by_ i:Nat} {zc:List Value} (hT:sl P T=some (e,k,by_)) (hz:zv P e=some zc)
  {l':Value→List Value} (hl:∀ v,lset l i v=some (l' v)) (kk:∀ v,WS P ro n0 w0 ds ops Q (osl e k v 0 []::L) rest (l' v)) :
  WS P ro n0 w0 ds ops Q L (⟨some i,.buildSlice T 0 #[],ty,ps,af,none⟩::rest) l:=by
 refine WS.world rfl rfl fun u hu=>?_
 obtain ⟨inf,hu1,hi,hs,hby⟩:=Jcc hT
 unfold zv at hz
 rw [hi] at hz
 cases hz2:inf.zero with
 | none=>simp [hz2] at hz
 | some zz =>
  refine ⟨.slice (some ⟨u.heap.size,0,none⟩) 0 0,u.alloc (.cells #[] e),?_,?_⟩
  ·
   simp [execOp,Instr.buildSlice,run_underlying hu1,sizeOf,typeInfo,hi,hs,newRow,Instr.fill,zeroValue,hz2]
   congr 2
   apply Array.ext'
   simp
  rw [Jaz,Jal (hl _)]
  refine kk _ _ (hu.cons (T:=fun k=>k=u.heap.size) ((Below.refl _ u).alloc (Nat.le_refl _) _) ⟨?_,by simp,.inr ⟨u.heap.size,0, #[],rfl,Nat.zero_le _,World.alloc_heap_new u _,Nat.le_refl _,?_,?_,?_⟩⟩ (fun k hk=>by omega))
  ·
   intro k; simp [Value.ownBlock]; exact eq_comm
  ·
   simp only [maxLen]; omega
  ·
   simp
  simp
theorem ClS.one {w:World} {v:Value} {cs:List Clue} {gs:List Value} (h:ClS w v cs gs):∀ g∈gs,g.oneCell'=true:=by
 intro g hg
 obtain ⟨i,h0,h1,rfl⟩:=Ja4 hg
 obtain ⟨_,p,cap,h2,_⟩:=h.el i h0 (by have:=h.len; omega)
 rw [h2]; rfl
end
def Jiq {α:Type} [Inhabited α] (cs:List α) (ns:List Nat):List α:=ns.map fun k=>cs.getD k default
section
variable {α:Type} [Inhabited α] {cs:List α} {ns ms:List Nat}
theorem Jmk:(Jiq cs ns).length=ns.length:=by simp [Jiq]
end
theorem ClS.pick {u:World} {v v':Value} {cs:List Clue} {gs:List Value} (h:ClS u v cs gs) {ns:List Nat} (hn:∀ k∈ns,k < cs.length) (hs:SlC u v' (Jiq cs ns).length 7 (Jmn (Jiq cs ns) (Jiq gs ns))):ClS u v' (Jiq cs ns) (Jiq gs ns):=by
 refine ⟨hs,by simp [Jmk],fun i h0 h1=>?_⟩
 rw [Jmk] at h1
 have hlt:i.toNat < ns.length:=by omega
 have hk:=hn _ (List.getElem_mem hlt)
 have e1:nth (Jiq cs ns) i=nth cs ((ns[i.toNat]:Nat):Int):=by simp [nth,List.getD,Jiq,hlt]
 have e2:nth (Jiq gs ns) i=nth gs ((ns[i.toNat]:Nat):Int):=by simp [nth,List.getD,Jiq,hlt]
 rw [e1,e2]
 exact h.el _ (by omega) (by omega)
section
variable {P:Program} {ro:Option Nat} {n0:Nat} {w0:World} {ds:List Deferred} {ops:Array Oper} {Q:Exit→Act→World→Prop} {L:List SA}
 {rest:List Oper} {l:List Value} {d:Option Tmp} {ty:TypeId} {ps:String} {af:Array Edge} {g:Option (Nat × Bool)} {C:World→Prop}
theorem WS.callS {β:Type} {f:Operand} {args:List Operand} {ts:Array TypeId} {fn:FuncId} {cap:List Value} {vs:List Value} {v:β→Value} {L':β→List SA} {p:β→Prop} {i:Nat} {l':β→List Value}
  (hf:evo l f=some (.func (.func fn) #[] cap.toArray)) (hv:evs l args=some vs) (he:Ent P fn)
  (hc:∀ u,St n0 w0 L u→Calls P fn (vs++cap).toArray u (fun e u'=>∃ x,p x∧e = .returned (v x)∧St n0 w0 (L' x) u'))
  (hl:∀ x,lset l i (v x)=some (l' x)) (k:∀ x,p x→WS P ro n0 w0 ds ops Q (L' x) rest (l' x)) :
  WS P ro n0 w0 ds ops Q L (⟨some i,.call ⟨.value f,args.toArray,ts⟩,ty,ps,af,none⟩::rest) l:=by
 intro u hu
 unfold wpListIn
 rw [if_pos (by simp [Region.wanted])]
 refine ⟨fun _ _=>trivial,?_⟩
 rw [Jba rfl,Jbq]
 have hr:(execOp (ev l) ⟨some i,.call ⟨.value f,args.toArray,ts⟩,ty,ps,af,none⟩).run P u = .ok (.enter fn (vs++cap).toArray) u:=by
  have h1:∀ (args:Array Value) (w:World),Sem.run P (callFunc fn args) w = .ok (.enter fn args) w:=he
  replace hf:=Jan hf
  replace hv:=Jg8 hv
  subst hv
  simp [execOp,hf,resolve,invoke,Deferred.ofValue,h1]
 rw [hr]
 refine ⟨fun h=>by simp [FW] at h,Jcx ((hc u hu).mono ?_)⟩
 rintro e u' ⟨x,hp,rfl,hs⟩
 show wpListIn (FW ro) 0 P ops Q rest ((Act.mk l.toArray ds).put (some i) (v x)) u'
 rw [Jaz,Jal (hl x)]
 exact k x hp u' hs
theorem Jh8 {x:Operand} {v:Value} {c b:Bool} (hg:c=true) (h:evo l x=some (cond (c && (b == true)) v undef)):evo l x=some (cond b v undef):=by subst hg; cases b <;> exact h
theorem Jpc {x:Operand} {v:Value} {c b:Bool} (hg:c=true) (h:evo l x=some (cond (c && (b == false)) v undef)):evo l x=some (cond (!b) v undef):=by subst hg; cases b <;> exact h
theorem SlI.none (u:World):SlI u (.slice none 0 0) []:=⟨by simp,Option.none,0,rfl,by simp,Or.inl rfl⟩
end
end Go.Proofs.YtkekjhcmephhjaaGreatDoor
namespace Go.Proofs.YtkekjhcmephhjaaGreatDoor
set_option linter.unusedVariables false
set_option linter.unusedSimpArgs false
open Go.RowKit
def allI (n:Nat) (p:Int→Bool):Bool:=(List.range n).all fun i=>p i
theorem Jei {n:Nat} {p:Int→Bool} (h:∀ j:Int,0≤j→j < n→p j=true):allI n p=true:=by
 unfold allI
 rw [List.all_eq_true]
 intro i hi
 exact h i (by omega) (by have:=List.mem_range.1 hi; omega)
theorem Jfy {n:Nat} {p:Int→Bool} {i:Int} (h0:0≤i) (h1:i < n) (h:p i=false):allI n p=false:=by
 unfold allI
 rw [List.all_eq_false]
 refine ⟨i.toNat,List.mem_range.2 (by omega),?_⟩
 rw [show ((i.toNat:Nat):Int)=i by omega,h]
 simp
theorem Jh9 {n:Nat} {p:Int→Bool} (h:allI n p=true) {i:Int} (h0:0≤i) (h1:i < n):p i=true:=by
 unfold allI at h
 rw [List.all_eq_true] at h
 have:=h i.toNat (List.mem_range.2 (by omega))
 rwa [show ((i.toNat:Nat):Int)=i by omega] at this
theorem Jie {α:Type} [Inhabited α] {l:List α} {p:α→Bool}:l.all p=allI l.length fun i=>p (nth l i):=by
 cases h:allI l.length fun i=>p (nth l i) with
 | true =>
  rw [List.all_eq_true]
  intro x hx
  obtain ⟨i,h0,h1,rfl⟩:=Ja4 hx
  exact Jh9 h h0 h1
 | false =>
  cases h2:l.all p with
  | false=>rfl
  | true =>
   rw [List.all_eq_true] at h2
   rw [Jei (p:=fun i=>p (nth l i)) fun j h0 h1=>h2 _ (Jak h0 h1)] at h
   exact h
def Jby (f:Int→Int):Nat→Int
 | 0=>0
 | n+1=>if Jby f n=0 then f n else Jby f n
theorem Jau {f:Int→Int}:∀ {n:Nat},(∀ j:Int,0≤j→j < n→f j=0)→Jby f n=0
 | 0,_=>rfl
 | n+1,h=>by
  have h1:=Jau (f:=f) (n:=n) fun j h0 h1=>h j h0 (by omega)
  simp [Jby,h1,h n (by omega) (by omega)]
theorem Jas {f:Int→Int} {i:Int}:∀ {n:Nat},0≤i→i < n→(∀ j:Int,0≤j→j < i→f j=0)→f i≠0→Jby f n=f i
 | 0,h0,h1,_,_=>by omega
 | n+1,h0,h1,h,hi=>by
  by_cases hn:i=n
  ·
   subst hn
   rw [Jby,if_pos (Jau h)]
  have h2:=Jas (f:=f) (n:=n) h0 (by omega) h hi
  rw [Jby,h2,if_neg hi]
theorem Ja1 {f:Int→Int}:∀ {n:Nat},Jby f n=0→∀ i:Int,0≤i→i < n→f i=0
 | 0,_,i,h0,h1=>by omega
 | n+1,h,i,h0,h1=>by
  rw [Jby] at h
  split at h
  ·
   rename_i h2
   by_cases hn:i=n
   ·
    subst hn; exact h
   exact Ja1 h2 i h0 (by omega)
  rename_i h2; exact (h2 h).elim
def or0 (a b:Int):Int:=if a=0 then b else a
theorem Jeo {a b:Int} (h:a=0):or0 a b=b:=by simp [or0,h]
theorem Jdt {a b c:Int} (h:a=c) (hc:c≠0):or0 a b=c:=by subst h; simp [or0,hc]
theorem Jb6 {a b:Int} (h:or0 a b=0):a=0∧b=0:=by
 unfold or0 at h; split at h
 ·
  exact ⟨by assumption,h⟩
 rename_i h2; exact (h2 h).elim
structure Near (r:Room):Prop where
 pls:r.pls.l.length≤12
 ths:r.ths.l.length≤15
 prs:r.prs.l.length≤14
 wys:r.wys.l.length≤20
 acs:r.acs.l.length≤30
 aus:r.aus.l.length≤15
 gl:r.gl.l.length≤20
 pl:∀ x∈r.pls.l,x.size≤100
 th:∀ x∈r.ths.l,x.nm.size≤100
 pr:∀ x∈r.prs.l,x.nm.size≤100∧x.wh.l.length≤20
 wy:∀ x∈r.wys.l,x.wh.l.length≤20
 ac:∀ x∈r.acs.l,x.nm.size≤100∧x.wh.l.length≤20∧x.us.l.length≤20∧x.se.l.length≤20∧x.sp.l.length≤20∧x.br.l.length≤20
 au:∀ x∈r.aus.l,x.wh.l.length≤20
structure NmB (r:Room):Prop where
 pl:∀ x∈r.pls.l,x.size≤70000
 th:∀ x∈r.ths.l,x.nm.size≤70000
 pr:∀ x∈r.prs.l,x.nm.size≤70000
 ac:∀ x∈r.acs.l,x.nm.size≤70000∧True
theorem Near.nm {r:Room} (h:Near r):NmB r :=
 ⟨fun x hx=>Nat.le_trans (h.pl x hx) (by decide),fun x hx=>Nat.le_trans (h.th x hx) (by decide),fun x hx=>Nat.le_trans (h.pr x hx).1 (by decide),fun x hx=>⟨Nat.le_trans (h.ac x hx).1 (by decide),trivial⟩⟩
def placeB (r:Room) (n:Int):Bool:=decide (0≤n) && decide (n≤r.pls.l.length - 1)
def ascB (n:Nat) (l:List Int):Bool:=allI l.length fun i=>(decide (0≤nth l i) && decide (nth l i≤(n:Int) - 1)) && (decide (i=0) || decide (nth l (i - 1) < nth l i))
def newB {α:Type} [Inhabited α] (f:α→ByteArray) (l:List α) (i:Int):Bool := !((l.take i.toNat).any fun x=>seq (f x) (f (nth l i)))
def act2 (r:Room) (a:Actn):Bool:=Jay a.nm && (placeB r a.pl && ((decide (-1≤a.lk) && decide (a.lk≤7)) && (ascB r.prs.l.length a.us.l && (ascB r.prs.l.length a.sp.l && (ascB r.prs.l.length a.br.l && decide ((a.se.l.length:Int)≤6))))))
def act3 (a:Actn):Bool:=allI a.sp.l.length fun k=>decide (nth a.sp.l k∈a.us.l)
def act4 (a:Actn):Bool:=allI a.br.l.length fun k => !decide (nth a.br.l k∈a.us.l)
def act5 (r:Room) (a:Actn):Bool:=allI a.se.l.length fun k=>putB r.ths.l (nth a.se.l k).t (nth a.se.l k).s && !((a.se.l.take k.toNat).any fun x=>decide (x.t=(nth a.se.l k).t))
def actB (r:Room) (i:Int):Bool:=newB Actn.nm r.acs.l i && (act2 r (nth r.acs.l i) && (act3 (nth r.acs.l i) && (act4 (nth r.acs.l i) && act5 r (nth r.acs.l i))))
def manyB (r:Room):Bool:=decide ((8:Int) < r.pls.l.length) || (decide ((12:Int) < r.ths.l.length) || (decide ((10:Int) < r.prs.l.length) || (decide ((16:Int) < r.wys.l.length) || (decide ((24:Int) < r.acs.l.length) || decide ((12:Int) < r.aus.l.length)))))
def plO (r:Room) (i:Int):Int:=if (Jay (nth r.pls.l i) && newB id r.pls.l i)=true then 0 else 22
def thB (r:Room) (x:Thing):Bool:=placeB r x.pl && ((decide (2≤x.st) && decide (x.st≤6)) && (decide (0≤x.sr) && decide (x.sr≤x.st - 1)))
def thO (r:Room) (i:Int):Int:=if (Jay (nth r.ths.l i).nm && (newB Thing.nm r.ths.l i && thB r (nth r.ths.l i)))=true then 0 else 21
def whO (r:Room) (c:List Lit):Int:=if Jeg r.ths.l c=true then 0 else 25
def prO (r:Room) (i:Int):Int:=or0 (if (Jay (nth r.prs.l i).nm && (newB Pro.nm r.prs.l i && (decide ((nth r.prs.l i).pl = -1) || placeB r (nth r.prs.l i).pl)))=true then 0 else 24) (whO r (nth r.prs.l i).wh.l)
def wyO (r:Room) (i:Int):Int:=or0 (if (placeB r (nth r.wys.l i).a && (placeB r (nth r.wys.l i).b && !decide ((nth r.wys.l i).a=(nth r.wys.l i).b)))=true then 0 else 23) (whO r (nth r.wys.l i).wh.l)
def acO (r:Room) (i:Int):Int:=or0 (if actB r i=true then 0 else 26) (whO r (nth r.acs.l i).wh.l)
def auO (r:Room) (i:Int):Int:=or0 (if putB r.ths.l (nth r.aus.l i).t (nth r.aus.l i).s=true then 0 else 27) (whO r (nth r.aus.l i).wh.l)
def glO (r:Room):Int:=or0 (if (decide (1≤r.ply) && decide (r.ply≤4))=true then 0 else 1) (whO r r.gl.l)
def Jgo (r:Room):Int:=or0 (Jby (auO r) r.aus.l.length) (glO r)
def Jg3 (r:Room):Int:=or0 (Jby (acO r) r.acs.l.length) (Jgo r)
def Jgz (r:Room):Int:=or0 (Jby (wyO r) r.wys.l.length) (Jg3 r)
def Jgg (r:Room):Int:=or0 (Jby (prO r) r.prs.l.length) (Jgz r)
def Jid (r:Room):Int:=or0 (Jby (thO r) r.ths.l.length) (Jgg r)
def Jgw (r:Room):Int:=or0 (Jby (plO r) r.pls.l.length) (Jid r)
def checkE (r:Room):Int:=if manyB r=true then 2 else if r.pls.l.length=0 then 22 else Jgw r
theorem Jf2 {r:Room} (h:checkE r=0):manyB r=false∧Jgw r=0:=by
 unfold checkE at h
 split at h
 ·
  exact absurd h (by decide)
 rename_i h1
 split at h
 ·
  exact absurd h (by decide)
 exact ⟨by simpa using h1,h⟩
theorem Jrv {r:Room} (h:checkE r=0):glO r=0:=(Jb6 (Jb6 (Jb6 (Jb6 (Jb6 (Jb6 (Jf2 h).2).2).2).2).2).2).2
theorem Jjj {r:Room} (h:checkE r=0):1≤r.ply∧r.ply≤4:=by
 have h1:=(Jb6 (Jrv h)).1
 simp at h1
 omega
def Jjb (r:Room) (l:List Int) (i:Int):Int:=if putB r.ths.l i (nth l i)=true then 0 else 28
def Jja (r:Room) (l:List Int) (i:Int):Int:=if (placeB r (nth l i) || (decide (nth l i = -1) || (decide (-2 - r.ply+1≤nth l i) && decide (nth l i ≤ -2))))=true then 0 else 28
def Ji6 (r:Room) (l:List Int) (i:Int):Int:=if placeB r (nth l i)=true then 0 else 28
def stE (r:Room) (ths prs pls:List Int):Int:=if (decide (ths.length=r.ths.l.length) && (decide (prs.length=r.prs.l.length) && decide ((pls.length:Int)=r.ply)))=true
 then or0 (Jby (Jjb r ths) ths.length) (or0 (Jby (Jja r prs) prs.length) (Jby (Ji6 r pls) pls.length)) else 28
def Jlf (r:Room) (z:Stt):Int:=or0 (checkE r) (stE r z.ths.l z.prs.l z.pls.l)
def upd (vs:Nat→Value) (i:Nat) (v:Value):Nat→Value:=fun j=>if j=i then v else vs j
theorem Jn7 {vs:Nat→Value} {i:Nat} {v:Value}:upd vs i v i=v:=by simp [upd]
theorem Jsi {vs:Nat→Value} {i j:Nat} {v:Value} (h:j≠i):upd vs i v j=vs j:=by simp [upd,h]
def Jp8 {α:Type} (l:List α) (d:Nat→Nat) (f:Nat→α):List Nat→Option (List α)
 | []=>some l
 | i::is=>match Jp8 l d f is with
  | some r=>lset r (d i) (f i)
  | none=>none
theorem Jhb {α:Type} {l:List α} {d:Nat→Nat} {f:Nat→α}:∀ {is:List Nat} {r:List α},Jp8 l d f is=some r→is.Nodup→(∀ i∈is,∀ k∈is,d i=d k→i=k) →
  r.length=l.length∧(∀ k,(∀ i∈is,d i≠k)→r[k]? = l[k]?)∧∀ i∈is,d i < l.length→r[d i]? = some (f i)
 | [],r,h,_,_=>by simp [Jp8] at h; subst h; exact ⟨rfl,fun _ _=>rfl,fun i hi=>by simp at hi⟩
 | i::is,r,h,hn,hd=>by
  unfold Jp8 at h
  split at h
  ·
   rename_i r1 h1
   have h2:=Jal h
   subst h2
   rw [List.nodup_cons] at hn
   obtain ⟨e1,e2,e3⟩:=Jhb h1 hn.2 fun a ha b hb e=>hd a (List.mem_cons_of_mem _ ha) b (List.mem_cons_of_mem _ hb) e
   refine ⟨by simpa using e1,fun k hk=>?_,fun j hj hlt=>?_⟩
   ·
    rw [List.getElem?_set_ne (hk i List.mem_cons_self)]
    exact e2 k fun a ha=>hk a (List.mem_cons_of_mem _ ha)
   by_cases hji:j=i
   ·
    subst hji
    rw [List.getElem?_set_self (by omega)]
   rcases List.mem_cons.1 hj with hj' | hj'
   ·
    exact (hji hj').elim
   rw [List.getElem?_set_ne (fun e=>hji (hd i List.mem_cons_self j hj e).symm)]
   exact e3 j hj' hlt
  cases h
def live (is:List Nat) (R:Nat→Value→List SA) (vs:Nat→Value) (p:Nat→Bool):List SA:=is.flatMap fun j=>if p j=true then R j (vs j) else []
theorem Jcv {is:List Nat} {R:Nat→Value→List SA} {vs vs':Nat→Value} {p p':Nat→Bool} (h:∀ j∈is,p j=p' j∧(p j=true→vs j=vs' j)):live is R vs p=live is R vs' p':=by
 induction is with
 | nil=>rfl
 | cons a is ih =>
  have h1:=h a List.mem_cons_self
  have h2:=ih fun j hj=>h j (List.mem_cons_of_mem _ hj)
  simp only [live,List.flatMap_cons] at h2 ⊢
  rw [h2, ← h1.1]
  congr 1
  split
  ·
   rename_i hp; rw [h1.2 hp]
  rfl
theorem Jjr (is:List Nat) (R:Nat→Value→List SA) (vs:Nat→Value) (p q:Nat→Bool):(live is R vs p).Perm (live is R vs (fun j=>p j && q j)++live is R vs (fun j=>p j && !q j)):=by
 induction is with
 | nil=>exact List.Perm.refl _
 | cons a is ih =>
  simp only [live,List.flatMap_cons] at ih ⊢
  by_cases hp:p a=true
  ·
   by_cases hq:q a=true
   ·
    simpa [hp,hq,List.append_assoc] using List.Perm.append_left (R a (vs a)) ih
   simp only [hp,hq,if_true,Bool.and_false,Bool.false_eq_true,if_false,List.nil_append,Bool.true_and,Bool.not_false]
   refine (List.Perm.append_left _ ih).trans ?_
   rw [← List.append_assoc, ← List.append_assoc]
   exact List.Perm.append_right _ List.perm_append_comm
  simpa [hp] using ih
theorem Jko {R:Nat→Value→List SA} {vs:Nat→Value}:∀ {is:List Nat},live is R vs (fun _=>false)=[]
 | []=>rfl
 | a::is=>by
  have:=Jko (R:=R) (vs:=vs) (is:=is)
  simp only [live,List.flatMap_cons] at this ⊢
  rw [this]; simp
theorem Jkm {R:Nat→Value→List SA} {vs:Nat→Value} {c:Nat}:∀ {is:List Nat},is.Nodup→c∈is→live is R vs (fun j=>decide (j=c))=R c (vs c)
 | [],_,h=>by simp at h
 | a::is,hn,h=>by
  rw [List.nodup_cons] at hn
  simp only [live,List.flatMap_cons]
  by_cases hac:a=c
  ·
   subst hac
   have:live is R vs (fun j=>decide (j=a))=live is R vs fun _=>false:=Jcv fun j hj=>⟨by simp; rintro rfl; exact hn.1 hj,fun _=>rfl⟩
   simp only [live] at this
   rw [this]
   simp
  have hc:c∈is:=by rcases List.mem_cons.1 h with e | e; exact (hac e.symm).elim; exact e
  have:=Jkm (R:=R) (vs:=vs) hn.2 hc
  simp only [live] at this
  rw [this]
  simp [hac]
theorem Jov {p:Nat→Bool} {i:Nat}:∀ {is:List Nat},is.Nodup→i∈is→p i=true→(is.filter p).length=(is.filter fun k=>p k && !decide (k=i)).length+1
 | [],_,h,_=>by simp at h
 | a::is,hn,h,hp=>by
  rw [List.nodup_cons] at hn
  by_cases hai:a=i
  ·
   subst hai
   have:is.filter p=is.filter fun k=>p k && !decide (k=a):=List.filter_congr fun k hk=>by
    have:k≠a:=by rintro rfl; exact hn.1 hk
    simp [this]
   simp [List.filter_cons,hp,this]
  have hi:i∈is:=by rcases List.mem_cons.1 h with e | e; exact (hai e.symm).elim; exact e
  have ih:=Jov hn.2 hi hp
  simp only [List.filter_cons,hai,decide_false,Bool.not_false,Bool.and_true]
  cases hpa:p a with
  | true=>simp [ih]
  | false=>simpa using ih
def Jlj (ops:Array Oper) (bl:List Bool) (is:List Nat) (d:Nat→Nat) (dep:Nat→List Nat) (cs:Nat→Option Nat) (n:Nat):Bool :=
 (is.all fun i=>bl[i]? == some false && (match ops[i]? with
  | some o=>o.dst == some (d i) && decide (d i < n) && ((dep i).all fun j=>is.contains j && o.after.toList.any fun e=>Region.binds .any e && e.on == j) &&
    (o.after.toList.all fun e => !Region.binds .any e || (is.contains e.on && decide (e.on < i)) || bl[e.on]? == some true)
  | none=>false) && (match cs i with | some c=>(dep i).contains c | none=>true) && is.all fun k=>k == i || (!(d k == d i) && !((cs i).isSome && cs k == cs i))) &&
 (List.range bl.length).all fun k=>is.contains k || bl[k]? == some true || (match ops[k]? with
  | some o=>is.all fun i=>o.after.toList.any fun e=>Region.binds .any e && e.on == i
  | none=>false)
structure ManyAt (ops:Array Oper) (bl:List Bool) (is:List Nat) (d:Nat→Nat) (dep:Nat→List Nat) (cs:Nat→Option Nat) (n i:Nat) (o:Oper):Prop where
 op:ops[i]? = some o
 un:bl[i]? = some false
 dst:o.dst=some (d i)
 lt:d i < n
 deps:∀ j∈dep i,j∈is∧∃ e∈o.after,Region.binds .any e=true∧e.on=j
 aft:∀ e∈o.after,Region.binds .any e=true→(e.on∈is∧e.on < i)∨bl[e.on]? = some true
 csd:∀ c,cs i=some c→c∈dep i
 inj:∀ k∈is,k≠i→d k≠d i∧(∀ c,cs i=some c→cs k≠some c)
theorem Jcf {ops:Array Oper} {bl:List Bool} {is:List Nat} {d:Nat→Nat} {dep:Nat→List Nat} {cs:Nat→Option Nat} {n:Nat} (h:Jlj ops bl is d dep cs n=true) {i:Nat} (hi:i∈is):∃ o,ManyAt ops bl is d dep cs n i o:=by
 unfold Jlj at h
 rw [Bool.and_eq_true,List.all_eq_true] at h
 have h1:=h.1 i hi
 cases ho:ops[i]? with
 | none=>simp [ho] at h1
 | some o =>
  simp only [ho,Bool.and_eq_true,List.all_eq_true,beq_iff_eq,decide_eq_true_eq,List.contains_iff_mem,List.any_eq_true,Bool.or_eq_true,Bool.not_eq_true'] at h1
  obtain ⟨⟨⟨h1,⟨⟨h2,h3⟩,h4⟩,h5⟩,h6⟩,h7⟩:=h1
  refine ⟨o,ho,h1,h2,h3,fun j hj=>?_,fun e he hb=>?_,fun c hc=>?_,fun k hk hki=>?_⟩
  ·
   obtain ⟨a,e,he,hb,hj⟩:=h4 j hj
   exact ⟨a,e,by simpa using he,hb,hj⟩
  ·
   rcases h5 e (by simpa using he) with (h | h) | h
   ·
    rw [hb] at h; cases h
   ·
    exact .inl h
   exact .inr h
  ·
   rw [hc] at h6; simpa using h6
  rcases h7 k hk with h | h
  ·
   exact (hki h).elim
  refine ⟨by simpa using h.1,fun c hc hck=>?_⟩
  have:=h.2
  rw [hc,hck] at this
  simp at this
theorem Jp1 {ops:Array Oper} {bl:List Bool} {is:List Nat} {d:Nat→Nat} {dep:Nat→List Nat} {cs:Nat→Option Nat} {n:Nat} (h:Jlj ops bl is d dep cs n=true) {k:Nat} (hk:k ∉ is) (hb:bl[k]? = some false) {o:Oper} (ho:ops[k]? = some o) {i:Nat} (hi:i∈is) :
  ∃ e∈o.after,Region.binds .any e=true∧e.on=i:=by
 unfold Jlj at h
 rw [Bool.and_eq_true,List.all_eq_true,List.all_eq_true] at h
 have hlt:k < bl.length:=(List.getElem?_eq_some_iff.1 hb).1
 have h1:=h.2 k (List.mem_range.2 hlt)
 simp only [ho,Bool.or_eq_true,List.contains_iff_mem,hk,hb,false_or,List.all_eq_true,List.any_eq_true,Bool.and_eq_true,beq_iff_eq] at h1
 rcases h1 with h1 | h1
 ·
  cases h1
 obtain ⟨e,he,hb,hj⟩:=h1 i hi
 exact ⟨e,by simpa using he,hb,hj⟩
section
variable {P:Program} {ro:Option Nat} {n0:Nat} {w0:World} {ds:List Deferred} {ops:Array Oper} {Q:Exit→Act→World→Prop} {L:List SA} {l:List Value} {C:World→Prop}
theorem St.sel0 {u:World} (A:List SA) (h:St n0 w0 (A++L) u):St n0 w0 L u:=St.sub (List.sublist_append_right _ _) h
def Jin (is:List Nat) (cs:Nat→Option Nat) (b:Nat→Bool) (j:Nat):Bool:=b j && !(is.any fun i=>b i && decide (cs i=some j))
structure ManyInv (n0:Nat) (w0:World) (L:List SA) (l:List Value) (bl:List Bool) (is:List Nat) (d:Nat→Nat) (dep:Nat→List Nat) (cs:Nat→Option Nat) (R:Nat→Value→List SA) (V:Nat→(Nat→Value)→Prop)
  (bl':List Bool) (l':List Value) (vs:Nat→Value) (u:World):Prop where
 bn:bl'.length=bl.length
 bo:∀ k,k ∉ is→bl'[k]? = bl[k]?
 bi:∀ k∈is,bl'[k]? = some true∨bl'[k]? = some false
 ln:l'.length=l.length
 lo:∀ k,(∀ j∈is,d j≠k)→l'[k]? = l[k]?
 li:∀ j∈is,bl'[j]? = some true→l'[d j]? = some (vs j)∧V j vs∧∀ k∈dep j,bl'[k]? = some true
 st:St n0 w0 (live is R vs (Jin is cs fun j=>decide (bl'[j]? = some true))++L) u
def Jvx (P:Program) (ro:Option Nat) (n0:Nat) (w0:World) (ds:List Deferred) (ops:Array Oper) (L:List SA) (l:List Value) (is:List Nat) (d:Nat→Nat) (dep:Nat→List Nat) (cs:Nat→Option Nat) (R:Nat→Value→List SA) (V:Nat→(Nat→Value)→Prop) (i:Nat) (o:Oper):Prop :=
 ∀ (Q:Exit→Act→World→Prop) (vs:Nat→Value) (l':List Value) (M:List SA),l'.length=l.length→(∀ j∈dep i,l'[d j]? = some (vs j)∧V j vs)→(∀ k,(∀ j∈is,d j≠k)→l'[k]? = l[k]?) →
  (∀ v,V i (upd vs i v)→QS n0 w0 ds Q .normal (R i v++M) (l'.set (d i) v))→WS P ro n0 w0 ds ops Q ((match cs i with | some c=>R c (vs c) | none=>[])++M) [o] l'
theorem AS.many {bl be:List Bool} {fuel nn:Nat} {le:(Nat→Value)→List Value} {L':(Nat→Value)→List SA} (is:List Nat) (d:Nat→Nat) (dep:Nat→List Nat) (cs:Nat→Option Nat) (R:Nat→Value→List SA) (V:Nat→(Nat→Value)→Prop)
  (hok:Jlj ops bl is d dep cs l.length=true) (hnd:is.Nodup) (hnn:is.length=nn) (hbe:Jp8 bl id (fun _=>true) is=some be) (hC:∀ u,St n0 w0 L u→C u)
  (hV:∀ i∈is,∀ vs vs',(∀ j∈i::dep i,vs j=vs' j)→V i vs→V i vs')
  (hle:∀ vs,Jp8 l d vs is=some (le vs)) (hL':∀ vs,live is R vs (fun j => !(is.any fun i=>decide (cs i=some j)))++L=L' vs)
  (step:∀ i∈is,∀ o,ops[i]? = some o→Jvx P ro n0 w0 ds ops L l is d dep cs R V i o)
  (fin:∀ vs,(∀ i∈is,V i vs)→AS P ro n0 w0 ds ops Q C (L' vs) fuel be (le vs)) :
  AS P ro n0 w0 ds ops Q C L (fuel+nn) bl l:=by
 subst hnn
 have hdj:∀ i∈is,∀ k∈is,d i=d k→i=k:=fun i hi k hk e=>by
  by_cases hki:k=i
  ·
   exact hki.symm
  obtain ⟨o,ho⟩:=Jcf hok hi
  exact ((ho.inj k hk hki).1 e.symm).elim
 have main:∀ (n:Nat) (bl':List Bool) (l':List Value) (vs:Nat→Value) (u:World),ManyInv n0 w0 L l bl is d dep cs R V bl' l' vs u→(is.filter fun k=>decide (bl'[k]? = some false)).length=n →
   AH P ro ops (NP ops Q) C (fuel+n) bl'.toArray ⟨l'.toArray,ds⟩ u:=by
  intro n
  induction n with
  | zero =>
   intro bl' l' vs u hI hn
   have hall:∀ k∈is,bl'[k]? = some true:=fun k hk=>by
    rcases hI.bi k hk with h | h
    ·
     exact h
    have:=List.filter_eq_nil_iff.1 (List.length_eq_zero_iff.1 hn) k hk
    simp [h] at this
   have e1:bl'=be:=by
    obtain ⟨q1,q2,q3⟩:=Jhb hbe hnd fun a _ b _ e=>e
    apply List.ext_getElem?
    intro k
    by_cases hk:k∈is
    ·
     have hlt:k < bl.length:=by
      have:=(List.getElem?_eq_some_iff.1 (hall k hk)).1
      rw [hI.bn] at this; exact this
     rw [hall k hk]; exact (q3 k hk hlt).symm
    rw [hI.bo k hk,q2 k fun i hi e=>hk (by simp at e; rw [← e]; exact hi)]
   have e2:l'=le vs:=by
    obtain ⟨q1,q2,q3⟩:=Jhb (hle vs) hnd hdj
    apply List.ext_getElem?
    intro k
    by_cases hk:∃ j∈is,d j=k
    ·
     obtain ⟨j,hj,rfl⟩:=hk
     obtain ⟨o,ho⟩:=Jcf hok hj
     rw [(hI.li j hj (hall j hj)).1,q3 j hj ho.lt]
    have hk':∀ j∈is,d j≠k:=fun j hj e=>hk ⟨j,hj,e⟩
    rw [hI.lo k hk',q2 k hk']
   subst e1 e2
   refine fin vs (fun i hi=>(hI.li i hi (hall i hi)).2.1) u ?_
   rw [← hL' vs]
   have:live is R vs (Jin is cs fun j=>decide (bl'[j]? = some true))=live is R vs (fun j => !(is.any fun i=>decide (cs i=some j))):=Jcv fun j hj=>by
    refine ⟨?_,fun _=>rfl⟩
    simp only [Jin]
    rw [decide_eq_true (hall j hj),Bool.true_and]
    congr 1
    have:∀ (ks:List Nat),(∀ k∈ks,k∈is)→(ks.any fun i=>decide (bl'[i]? = some true) && decide (cs i=some j))=ks.any fun i=>decide (cs i=some j):=fun ks=>by
     induction ks with
     | nil=>intro _; rfl
     | cons a ks ih=>intro h; simp only [List.any_cons]; rw [ih fun k hk=>h k (List.mem_cons_of_mem _ hk),decide_eq_true (hall a (h a List.mem_cons_self)),Bool.true_and]
    exact this is fun _ h=>h
   rw [← this]
   exact hI.st
  | succ n ih =>
   intro bl' l' vs u hI hn u' hu'
   have hI':ManyInv n0 w0 L l bl is d dep cs R V bl' l' vs u':={ hI with st:=hI.st.ext hu' }
   -- the Jy4 that is not over
   have hex:∃ k,k∈is∧bl'[k]? = some false:=by
    cases hf:is.filter fun k=>decide (bl'[k]? = some false) with
    | nil=>rw [hf] at hn; simp at hn
    | cons a r =>
     have:a∈is.filter fun k=>decide (bl'[k]? = some false):=by rw [hf]; exact List.mem_cons_self
     rw [List.mem_filter] at this
     exact ⟨a,this.1,by simpa using this.2⟩
   obtain ⟨m,⟨hm,hmf⟩,hmin⟩:=Jy4 hex
   have hgd:∀ k,bl'.toArray.getD k true=false ↔ bl'[k]? = some false:=fun k=>by
    cases h:bl'[k]? with
    | none=>simp [Array.getD_eq_getD_getElem?,h]
    | some x=>simp [Array.getD_eq_getD_getElem?,h]
   have hgt:∀ k,bl'.toArray.getD k false=true ↔ bl'[k]? = some true:=fun k=>by
    cases h:bl'[k]? with
    | none=>simp [Array.getD_eq_getD_getElem?,h]
    | some x=>simp [Array.getD_eq_getD_getElem?,h]
   have hnin:∀ {k:Nat},bl[k]? = some true→bl'[k]? = some true:=fun {k} hk=>by
    by_cases hki:k∈is
    ·
     obtain ⟨o,ho⟩:=Jcf hok hki
     rw [ho.un] at hk; cases hk
    rw [hI.bo k hki]; exact hk
   refine ⟨hC _ (hI'.st.sel0 _),fun h0=>?_,fun i hi=>?_⟩
   ·
    exfalso
    obtain ⟨o,ho⟩:=Jcf hok hm
    have:m∈Region.ready .any ops bl'.toArray:=mem_ready.2 ⟨(hgd m).2 hmf,o,ho.op,fun e he hb=>(hgt _).2 (by
     rcases ho.aft e he hb with ⟨h1,h2⟩ | h1
     ·
      rcases hI.bi _ h1 with h | h
      ·
       exact h
      have:=hmin _ ⟨h1,h⟩; omega
     exact hnin h1)⟩
    rw [h0] at this
    cases this
   obtain ⟨hun,o,ho,hall⟩:=mem_ready.1 hi
   have hif:bl'[i]? = some false:=(hgd i).1 hun
   have hin:i∈is:=by
    by_cases hin:i∈is
    ·
     exact hin
    exfalso
    obtain ⟨e,he,hb,hj⟩:=Jp1 hok hin (by rw [← hI.bo i hin]; exact hif) ho hm
    have:=(hgt _).1 (hall e he hb)
    rw [hj,hmf] at this
    cases this
   obtain ⟨o',hM⟩:=Jcf hok hin
   obtain rfl:o=o':=by have:=hM.op; rw [ho] at this; exact Option.some.inj this
   have hdep:∀ j∈dep i,j∈is∧bl'[j]? = some true:=fun j hj=>by
    obtain ⟨h1,e,he,hb,hj'⟩:=hM.deps j hj
    exact ⟨h1,by rw [← hj']; exact (hgt _).1 (hall e he hb)⟩
   let p:Nat→Bool:=Jin is cs fun j=>decide (bl'[j]? = some true)
   -- nobody who is over waits for i
   have hno:∀ k∈is,bl'[k]? = some true→i ∉ dep k:=fun k hk hkt hik=>by
    have:=(hI.li k hk hkt).2.2 i hik
    rw [hif] at this; cases this
   have hpi:p i=false:=by simp [p,Jin,hif]
   let q:Nat→Bool:=fun j=>decide (cs i=some j)
   have hpc:∀ c,cs i=some c→p c=true:=fun c hc=>by
    have hcd:=hdep c (hM.csd c hc)
    simp only [p,Jin,hcd.2,decide_true,Bool.true_and,Bool.not_eq_true',List.any_eq_false,Bool.and_eq_true,decide_eq_true_eq,not_and]
    intro k hk hkt hck
    by_cases hki:k=i
    ·
     subst hki; rw [hif] at hkt; cases hkt
    exact (hM.inj k hk hki).2 c hc hck
   have e1:live is R vs (fun j=>p j && q j)=(match cs i with | some c=>R c (vs c) | none=>[]):=by
    cases hc:cs i with
    | none =>
     have:live is R vs (fun j=>p j && q j)=live is R vs fun _=>false:=Jcv fun j _=>⟨by simp [q,hc],fun _=>rfl⟩
     rw [this,Jko]
    | some c =>
     have:live is R vs (fun j=>p j && q j)=live is R vs fun j=>decide (j=c):=Jcv fun j _=>⟨by
      by_cases hjc:j=c
      ·
       subst hjc; simp [q,hc,hpc j hc]
      simp [q,hc,hjc,Ne.symm hjc],fun _=>rfl⟩
     rw [this,Jkm hnd (hdep c (hM.csd c hc)).1]
   have hst1:St n0 w0 ((match cs i with | some c=>R c (vs c) | none=>[])++(live is R vs (fun j=>p j && !q j)++L)) u':=by
    rw [← e1, ← List.append_assoc]
    exact hI'.st.perm (List.Perm.append_right _ (Jjr is R vs p q))
   have hW:=step i hin o ho (Exit.then (AH P ro ops (NP ops Q) C (fuel+n) (bl'.set i true).toArray) (NP ops Q)) vs l' (live is R vs (fun j=>p j && !q j)++L) hI.ln (fun j hj=>by
     have:=hI.li j (hdep j hj).1 (hdep j hj).2
     exact ⟨this.1,this.2.1⟩) hI.lo (fun v hv=>by
    intro u2 hu2
    refine ih (bl'.set i true) (l'.set (d i) v) (upd vs i v) u2 ?_ ?_
    ·
     have hilt:i < bl'.length:=(List.getElem?_eq_some_iff.1 hif).1
     have hbs:∀ k,(bl'.set i true)[k]? = some true ↔ (k=i∨bl'[k]? = some true):=fun k=>by
      by_cases hk:k=i
      ·
       subst hk; simp [hilt]
      rw [List.getElem?_set_ne (Ne.symm hk)]; simp [hk]
     refine ⟨by simpa using hI.bn,fun k hk=>?_,fun k hk=>?_,by simpa using hI.ln,fun k hk=>?_,fun j hj hjt=>?_,?_⟩
     ·
      rw [List.getElem?_set_ne (by rintro rfl; exact hk hin)]; exact hI.bo k hk
     ·
      by_cases hki:k=i
      ·
       subst hki; exact .inl ((hbs k).2 (.inl rfl))
      rw [List.getElem?_set_ne (Ne.symm hki)]; exact hI.bi k hk
     ·
      rw [List.getElem?_set_ne (hk i hin)]; exact hI.lo k hk
     ·
      by_cases hji:j=i
      ·
       subst hji
       refine ⟨by rw [List.getElem?_set_self (by rw [hI.ln]; exact hM.lt),Jn7],hv,fun k hk=>(hbs k).2 (.inr (hdep k hk).2)⟩
      have hjt':bl'[j]? = some true:=by rcases (hbs j).1 hjt with h | h; exact (hji h).elim; exact h
      obtain ⟨a1,a2,a3⟩:=hI.li j hj hjt'
      refine ⟨by rw [List.getElem?_set_ne (Ne.symm (hM.inj j hj hji).1),Jsi hji]; exact a1,?_,fun k hk=>(hbs k).2 (.inr (a3 k hk))⟩
      refine hV j hj vs _ (fun k hk=>?_) a2
      rw [Jsi]
      rintro rfl
      rcases List.mem_cons.1 hk with h | h
      ·
       exact hji h.symm
      exact hno j hj hjt' h
     let p':Nat→Bool:=Jin is cs fun j=>decide ((bl'.set i true)[j]? = some true)
     have hp'i:p' i=true:=by
      simp only [p',Jin,(hbs i).2 (.inl rfl),decide_true,Bool.true_and,Bool.not_eq_true',List.any_eq_false,Bool.and_eq_true,decide_eq_true_eq,not_and]
      intro k hk hkt hck
      obtain ⟨ok,hok'⟩:=Jcf hok hk
      have hid:=hok'.csd i hck
      rcases (hbs k).1 hkt with h | h
      ·
       subst h
       have:=(hdep k hid).2
       rw [hif] at this; cases this
      exact hno k hk h hid
     have e2:live is R (upd vs i v) (fun j=>p' j && decide (j=i))=R i v:=by
      have:live is R (upd vs i v) (fun j=>p' j && decide (j=i))=live is R (upd vs i v) fun j=>decide (j=i):=Jcv fun j _=>⟨by
       by_cases hj:j=i
       ·
        subst hj; simp [hp'i]
       simp [hj],fun _=>rfl⟩
      rw [this,Jkm hnd hin,Jn7]
     have e3:live is R (upd vs i v) (fun j=>p' j && !decide (j=i))=live is R vs (fun j=>p j && !q j):=Jcv fun j hj=>by
      by_cases hji:j=i
      ·
       subst hji; simp [hpi]
      refine ⟨?_,fun _=>Jsi hji⟩
      have h1:decide ((bl'.set i true)[j]? = some true)=decide (bl'[j]? = some true):=by
       rw [List.getElem?_set_ne (Ne.symm hji)]
      have h2:(is.any fun k=>decide ((bl'.set i true)[k]? = some true) && decide (cs k=some j))=((is.any fun k=>decide (bl'[k]? = some true) && decide (cs k=some j)) || decide (cs i=some j)):=by
       rw [Bool.eq_iff_iff]
       simp only [List.any_eq_true,Bool.and_eq_true,Bool.or_eq_true,decide_eq_true_eq]
       constructor
       ·
        rintro ⟨k,hk,hkt,hck⟩
        rcases (hbs k).1 hkt with h | h
        ·
         subst h; exact .inr hck
        exact .inl ⟨k,hk,h,hck⟩
       rintro (⟨k,hk,hkt,hck⟩ | h)
       ·
        exact ⟨k,hk,(hbs k).2 (.inr hkt),hck⟩
       exact ⟨i,hin,(hbs i).2 (.inl rfl),h⟩
      simp only [p',p,q,Jin,h1,h2,hji,decide_false,Bool.not_false,Bool.and_true,Bool.not_or,Bool.and_assoc]
     have hp:=List.Perm.append_right L (Jjr is R (upd vs i v) p' fun j=>decide (j=i))
     rw [e2,e3,List.append_assoc] at hp
     exact hu2.perm hp.symm
    have hf:(is.filter fun k=>decide (bl'[k]? = some false)).length=(is.filter fun k=>decide (bl'[k]? = some false) && !decide (k=i)).length+1:=Jov hnd hin (by simp [hif])
    have:(is.filter fun k=>decide ((bl'.set i true)[k]? = some false))=is.filter fun k=>decide (bl'[k]? = some false) && !decide (k=i):=List.filter_congr fun k _=>by
     by_cases hki:k=i
     ·
      subst hki
      have hilt:k < bl'.length:=(List.getElem?_eq_some_iff.1 hif).1
      simp [hilt]
     rw [List.getElem?_set_ne (Ne.symm hki)]; simp [hki]
    rw [this]
    omega) 
   have h3:=Jct ho (hW u' hst1)
   simpa using h3
 intro u hu
 have hfl:is.filter (fun k=>decide (bl[k]? = some false))=is:=List.filter_eq_self.2 fun k hk=>by
  obtain ⟨o,ho⟩:=Jcf hok hk
  simp [ho.un]
 refine main is.length bl l (fun _=>undef) u ⟨rfl,fun _ _=>rfl,fun k hk=>?_,rfl,fun _ _=>rfl,fun j hj hjt=>?_,?_⟩ (by rw [hfl])
 ·
  obtain ⟨o,ho⟩:=Jcf hok hk
  exact .inr ho.un
 ·
  obtain ⟨o,ho⟩:=Jcf hok hj
  rw [ho.un] at hjt; cases hjt
 have:live is R (fun _=>undef) (Jin is cs fun j=>decide (bl[j]? = some true))=live is R (fun _=>undef) fun _=>false:=Jcv fun j hj=>by
  obtain ⟨o,ho⟩:=Jcf hok hj
  exact ⟨by simp [Jin,ho.un],fun _=>rfl⟩
 rw [this,Jko]
 exact hu
end
section
variable {P:Program} {ro:Option Nat} {n0:Nat} {w0:World} {ds:List Deferred} {ops:Array Oper} {Q:Exit→Act→World→Prop} {L:List SA} {rest:List Oper} {l:List Value} {ty:TypeId} {ps:String} {af:Array Edge}
theorem WS.append0 {T e:TypeId} {size by_ i j m:Nat} {x y:Operand} {v z:Value} {news zc:List Value} (hT:sl P T=some (e,size,by_)) (hz:zv P e=some zc) (hzl:zc.length=size) (hs0:0 < size)
  (hx:evo l x=some (v)) (hj:L[j]? = some (osl e size v 0 [])) (hy:evo l y=some (z)) (hnews:∀ u,St n0 w0 L u→SlC u z m size news) (h1:∀ a∈news,a.oneCell'=true)
  (hm:m≤9223372036854775807) (hb:m * by_≤140737488355328)
  {l':Value→List Value} (hl:∀ v,lset l i v=some (l' v)) {L':Value→List SA} (hL:∀ v',lset L j (osl e size v' m news)=some (L' v')) (k:∀ v',WS P ro n0 w0 ds ops Q (L' v') rest (l' v')) :
  WS P ro n0 w0 ds ops Q L (⟨some i,.call ⟨.builtin .append, #[x,y], #[T,T]⟩,ty,ps,af,none⟩::rest) l :=
 WS.append (xs:=[]) hT hz hzl hs0 hx hj hy hnews h1 (by rw [Nat.zero_add]; exact hm) (by rw [Nat.zero_add]; exact hb) hl (fun v'=>by rw [Nat.zero_add,List.nil_append]; exact hL v') k
end
section
variable {P:Program} {n0:Nat} {w0:World} {L:List SA} {l:List Value} {fn:Func}
theorem outR {R:Ending→World→Prop} {v:Value} (hr:Res P fn l L n0 w0 v) (hR:∀ u,St n0 w0 L u→R (.returned v) u):QS n0 w0 [] (bodyPost P fn R) .ret L l:=fun u hu=>⟨rfl,_,hr u hu,hR u hu⟩
theorem Jbl {j b t:Nat} {ty e:TypeId} {c:List Value} (ht:l[t]? = some (.pointer (some ⟨b,0,none⟩))) (hj:L[j]? = some (blk b c e)) (hT:tk P ty=some (true,c.length)) :
  Rv P n0 w0 L l b t ty (.agg c.toArray):=⟨ht,fun u hu=>by
 have:=run_loadCells_list (P:=P) u ⟨b,0,none⟩ c fun j v h=>by rw [Jb8,Jcz (hu.blk hj).2]; simpa using h
 simp [loadVar,(Jdq hT u).1,(Jdq hT u).2,this]⟩
theorem Jla {b t t2 t3:Nat} {ty:TypeId} {v v2 v3:Value} (h:fn.results = #[.cell t ty,.tmp t2,.tmp t3]) (h1:Rv P n0 w0 L l b t ty v) (h2:l[t2]? = some v2) (h3:l[t3]? = some v3):Res P fn l L n0 w0 (.tuple #[v,v2,v3]):=fun u hu=>by
 obtain ⟨a1,a2⟩:=Js6 h1 hu
 simp only [results,h]
 simp [Sem.run_bind,Result.andThen,a1,a2,h2,h3]
end
end Go.Proofs.YtkekjhcmephhjaaGreatDoor
namespace Go.Proofs.YtkekjhcmephhjaaGreatDoor
set_option linter.unusedVariables false
set_option linter.unusedSimpArgs false
open Go.RowKit Go.Proofs
section
variable {P:Program} {ro:Option Nat} {n0:Nat} {w0:World} {ds:List Deferred} {ops:Array Oper} {Q:Exit→Act→World→Prop} {L:List SA}
 {rest:List Oper} {l:List Value} {C:World→Prop} {s:Nat}
theorem AZ.firstP {i:Nat} {oi:Oper} {v:Value} (hi:ops[i]? = some oi) (hcalm:Ja5 ops=true) (his:(i == s)=false) :
  ∀ (fuel:Nat) (listed:Array Bool) (a:Act) (w:World),
   (∀ j oj,ops[j]? = some oj→j≠i→listed.getD j true=false→(∀ e∈oj.after,Region.binds .any e=true→e.on≠i)→oi.apart ops oj=true) →
   i∈Region.ready .any ops listed→Yc P ops (fun _=>True) oi v a →
   AZ P ro ops (NP ops Q) C s fuel (listed.setIfInBounds i true) (a.put oi.dst v) w→AZ P ro ops (NP ops Q) C s (fuel+1) listed a w:=by
 have hci:=Jdb hcalm i oi hi
 intro fuel
 induction fuel with
 | zero =>
  intro listed a w _ hr hy H u hu
  have Hu:=H.ext hu
  refine ⟨fun h=>Hu.holds (by rw [getD_set_ne true (by simpa using his)]; exact h),fun h=>(by rw [h] at hr; cases hr),fun j hj=>?_⟩
  by_cases hji:j=i
  ·
   subst hji; exact hy.opIn hi hci trivial fun u' hu'=>Hu.ext hu'
  have:=ready_mono hj hji
  rw [(H u hu).2.1] at this
  cases this
 | succ fuel ih =>
  intro listed a w hfree hr hy H u hu
  have Hu:=H.ext hu
  refine ⟨fun h=>Hu.holds (by rw [getD_set_ne true (by simpa using his)]; exact h),fun h=>(by rw [h] at hr; cases hr),fun j hj=>?_⟩
  by_cases hji:j=i
  ·
   subst hji; exact hy.opIn hi hci trivial fun u' hu'=>Hu.ext hu'
  have h1:=(H u hu).2.2 j (ready_mono hj hji)
  obtain ⟨hjun,oj,hoj,hall⟩:=mem_ready.1 hj
  have hnot:∀ e∈oj.after,Region.binds .any e=true→e.on≠i:=fun e he hb heq=>by
   have h1:=hall e he hb
   have h0:=(mem_ready.1 hr).1
   rw [heq] at h1
   rcases Nat.lt_or_ge i listed.size with h' | h'
   ·
    simp [h'] at h0 h1; rw [h0] at h1; cases h1
   simp [Array.getElem?_eq_none h'] at h1
  have h2:=Jf0 (Jif hi) hoj (hfree j oj hoj hji hjun hnot) hcalm hci hy h1
  have hfree':∀ k ok,ops[k]? = some ok→k≠i→(listed.setIfInBounds j true).getD k true=false →
    (∀ e∈ok.after,Region.binds .any e=true→e.on≠i)→oi.apart ops ok=true:=fun k ok hk hki hun hno=>by
   refine hfree k ok hk hki ?_ hno
   by_cases hjk:j=k
   ·
    subst hjk; exact hjun
   rw [getD_set_ne true hjk] at hun; exact hun
  refine wpOpIn_mono (fun a' w' h3=>ih (listed.setIfInBounds j true) a' w' hfree' (ready_mono hr (Ne.symm hji)) h3.1 ?_) h2
  rw [Array.setIfInBounds_comm _ _ hji]
  exact h3.2
theorem AT.takeP {bl bl':List Bool} {fuel:Nat} {l':List Value} (i:Nat) {oi:Oper} {d:Nat} {v:Value} (hi:ops[i]? = some oi) (hcalm:Ja5 ops=true) (his:(i == s)=false) (hf:Region.free .any ops bl.toArray i=true) (hr:(Region.ready .any ops bl.toArray).contains i=true)
  (hd:oi.dst=some d) (hg:oi.guard=none) (h:Det P (fun _=>True) oi l v) (hb:lset bl i true=some bl') (hl:lset l d v=some l') (k:AT P ro n0 w0 ds ops Q C s L fuel bl' l') :
  AT P ro n0 w0 ds ops Q C s L (fuel+1) bl l:=fun u hu=>by
 rw [← Jal hb, ← Jal hl] at k
 refine AZ.firstP hi hcalm his fuel _ _ u (Region.free_spec hi hf) (by simpa using hr) (v:=v) (.inl ⟨by simp [Region.wanted,hg],?_⟩) ?_
 ·
  intro w hw; rw [Jbq]; exact h w hw
 rw [hd,Jaz]
 have:=k u hu
 simpa using this
end
section
variable {P:Program} {ro:Option Nat} {n0:Nat} {w0:World} {ds:List Deferred} {ops:Array Oper} {Q:Exit→Act→World→Prop} {L:List SA}
 {rest:List Oper} {l:List Value} {d:Option Tmp} {ty:TypeId} {ps:String} {af:Array Edge} {g:Option (Nat × Bool)}
theorem WS.callP {β:Type} {f:Operand} {args:List Operand} {ts:Array TypeId} {fn:FuncId} {cap:List Value} {vs:List Value} {v:β→Value} {L':β→List SA} {Lp:List SA} {p:β→Prop} {q:Prop} {ch:List PanicEntry} {d:Option Tmp} {l':β→List Value}
  (hf:evo l f=some (.func (.func fn) #[] cap.toArray)) (hv:evs l args=some vs) (he:Ent P fn)
  (hc:∀ u,St n0 w0 L u→Calls P fn (vs++cap).toArray u (fun e u'=>(∃ x,p x∧e = .returned (v x)∧St n0 w0 (L' x) u')∨(q∧e = .panicked ch∧St n0 w0 Lp u')))
  (hl:∀ x,(match d with | some i=>lset l i (v x) | none=>some l)=some (l' x)) (hp:q→∀ u,St n0 w0 Lp u→Q (.panic ch) ⟨l.toArray,ds⟩ u)
  (k:∀ x,p x→WS P ro n0 w0 ds ops Q (L' x) rest (l' x)) :
  WS P ro n0 w0 ds ops Q L (⟨d,.call ⟨.value f,args.toArray,ts⟩,ty,ps,af,none⟩::rest) l:=by
 intro u hu
 unfold wpListIn
 rw [if_pos (by simp [Region.wanted])]
 refine ⟨fun _ _=>trivial,?_⟩
 rw [Jba rfl,Jbq]
 have hr:(execOp (ev l) ⟨d,.call ⟨.value f,args.toArray,ts⟩,ty,ps,af,none⟩).run P u = .ok (.enter fn (vs++cap).toArray) u:=by
  have h1:∀ (args:Array Value) (w:World),Sem.run P (callFunc fn args) w = .ok (.enter fn args) w:=he
  replace hf:=Jan hf
  replace hv:=Jg8 hv
  subst hv
  simp [execOp,hf,resolve,invoke,Deferred.ofValue,h1]
 rw [hr]
 refine ⟨fun h=>by simp [FW] at h,Jcx ((hc u hu).mono ?_)⟩
 rintro e u' (⟨x,hpx,rfl,hS⟩ | ⟨hq,rfl,hS⟩)
 ·
  show wpListIn (FW ro) 0 P ops Q rest ((Act.mk l.toArray ds).put d (v x)) u'
  have h2:=hl x
  cases d with
  | some i =>
   rw [Jaz,Jal h2]
   exact k x hpx u' hS
  | none =>
   rw [Jwa]
   have h3:=Option.some.inj h2
   rw [h3]
   exact k x hpx u' hS
 exact hp hq u' hS
theorem WS.callPg {β:Type} {f:Operand} {args:List Operand} {ts:Array TypeId} {fn:FuncId} {cap:List Value} {vs:List Value} {v:β→Value} {L':β→List SA} {Lp:List SA} {p:β→Prop} {q:Prop} {ch:List PanicEntry} {i:Nat} {l':β→List Value} {j:Nat} {want:Bool}
  (hw:yielded ops l.toArray j=some want)
  (hf:evo l f=some (.func (.func fn) #[] cap.toArray)) (hv:evs l args=some vs) (he:Ent P fn)
  (hc:∀ u,St n0 w0 L u→Calls P fn (vs++cap).toArray u (fun e u'=>(∃ x,p x∧e = .returned (v x)∧St n0 w0 (L' x) u')∨(q∧e = .panicked ch∧St n0 w0 Lp u')))
  (hl:∀ x,lset l i (v x)=some (l' x)) (hp:q→∀ u,St n0 w0 Lp u→Q (.panic ch) ⟨l.toArray,ds⟩ u)
  (k:∀ x,p x→WS P ro n0 w0 ds ops Q (L' x) rest (l' x)) :
  WS P ro n0 w0 ds ops Q L (⟨some i,.call ⟨.value f,args.toArray,ts⟩,ty,ps,af,some (j,want)⟩::rest) l:=by
 intro u hu
 unfold wpListIn
 rw [if_pos (by simp [Region.wanted,hw])]
 refine ⟨fun _ _=>trivial,?_⟩
 rw [Jba rfl,Jbq]
 have hr:(execOp (ev l) ⟨some i,.call ⟨.value f,args.toArray,ts⟩,ty,ps,af,some (j,want)⟩).run P u = .ok (.enter fn (vs++cap).toArray) u:=by
  have h1:∀ (args:Array Value) (w:World),Sem.run P (callFunc fn args) w = .ok (.enter fn args) w:=he
  replace hf:=Jan hf
  replace hv:=Jg8 hv
  subst hv
  simp [execOp,hf,resolve,invoke,Deferred.ofValue,h1]
 rw [hr]
 refine ⟨fun h=>by simp [FW] at h,Jcx ((hc u hu).mono ?_)⟩
 rintro e u' (⟨x,hpx,rfl,hS⟩ | ⟨hq,rfl,hS⟩)
 ·
  show wpListIn (FW ro) 0 P ops Q rest ((Act.mk l.toArray ds).put (some i) (v x)) u'
  rw [Jaz,Jal (hl x)]
  exact k x hpx u' hS
 exact hp hq u' hS
end
section
variable {P:Program} {ro:Option Nat} {n0:Nat} {w0:World} {ds:List Deferred} {ops:Array Oper} {Q:Exit→Act→World→Prop} {L:List SA} {l:List Value} {C C':World→Prop}
theorem CS.drawnTillC (s:Nat) (C:World→Prop) {id:Nat} {os:List Oper} {k:Nat} {bl:List Bool} (hm:P.follows .mixedOrders=true) (hk:os.length=k) (hb:List.replicate k false=bl) (h:AT P ro n0 w0 ds os.toArray Q C s L k bl l) :
  CS P ro n0 w0 ds (.region id os.toArray true) Q L l:=by subst hb; exact CS.drawnZ s C hm hk h
theorem AZ.le {s:Nat} (hC:∀ u,C' u→C u):∀ {fuel:Nat} {listed:Array Bool} {a:Act} {w:World},AZ P ro ops Q C' s fuel listed a w→AZ P ro ops Q C s fuel listed a w
 | 0,_,_,_,h=>fun u hu=>⟨fun hs=>hC u ((h u hu).1 hs),(h u hu).2⟩
 | _+1,_,_,_,h=>fun u hu=>⟨fun hs=>hC u ((h u hu).1 hs),(h u hu).2.1,fun i hi=>wpOpIn_mono (fun _ _ h=>AZ.le hC h) ((h u hu).2.2 i hi)⟩
theorem AT.le {s:Nat} {fuel:Nat} {bl:List Bool} (C':World→Prop) (hC:∀ u,C' u→C u) (k:AT P ro n0 w0 ds ops Q C' s L fuel bl l):AT P ro n0 w0 ds ops Q C s L fuel bl l:=fun u hu=>AZ.le hC (k u hu)
theorem Jig {β:Type} {p:β→Prop} {Lf:β→List SA} {o:Oper} {v:Value} (h:∀ b,p b→Det P (St n0 w0 (Lf b)) o l v):Det P (fun u=>∃ b,p b∧St n0 w0 (Lf b) u) o l v:=fun u ⟨b,hb,hu⟩=>h b hb u hu
theorem Jjv {T:TypeId} {x y:Operand} {a:ByteArray} {i:Int} {d:Option Tmp} {ty:TypeId} {ps:String} {af:Array Edge} {g:Option (Nat × Bool)} (hT:P.underlying T=some .string) (hx:evo l x=some (.string a)) (hy:evo l y=some (.int .i64 i))
  (h:0≤i∧i≤a.size):Det P C ⟨d,.slice T x none (some y) none,ty,ps,af,g⟩ l (.string (a.extract 0 i.toNat)):=fun u _=>by
 (replace hx:=Jan hx; replace hy:=Jan hy)
 have e2:0≤max i 0:=by omega
 simp [execOp,Jap,hx,hy,Instr.sliceAt,Instr.slice,Instr.sliceBounds,Instr.sliceBound,asIntOf,run_underlying hT,h.1,h.2,e2]
end
def RetX {β:Type} (w:World) (R:SA) (ch:List PanicEntry) (p:β→Prop) (q:Prop) (v:β→Value) (A:β→SA):Ending→World→Prop:=fun e u' =>
 (∃ x,p x∧e = .returned (v x)∧St w.heap.size w [A x,R] u')∨(q∧e = .panicked ch∧St w.heap.size w [R] u')
theorem Calls.two {P:Program} {f:FuncId} {args:List Value} {n0:Nat} {w0 u:World} {L:List SA} {b:Bool} {ch:List PanicEntry} (hu:St n0 w0 L u)
  (ht:b=true→Calls P f args.toArray u fun e w'=>w'=u∧e = .returned (.tuple #[])) (hf:b=false→Calls P f args.toArray u fun e w'=>w'=u∧e = .panicked ch) :
  Calls P f args.toArray u (fun e u'=>(∃ x:Unit,b=true∧e = .returned (.tuple #[])∧St n0 w0 L u')∨(b=false∧e = .panicked ch∧St n0 w0 L u')):=by
 cases b with
 | true =>
  refine (ht rfl).mono ?_
  rintro e w' ⟨rfl,rfl⟩
  exact .inl ⟨(),rfl,rfl,hu⟩
 | false =>
  refine (hf rfl).mono ?_
  rintro e w' ⟨rfl,rfl⟩
  exact .inr ⟨rfl,rfl,hu⟩
def dfr (fn:FuncId) (cap:List Value):Deferred:={ target:=.fn (.func fn) cap.toArray,args := #[] }
theorem Jr3 {P:Program} {fn:Func} {R:Ending→World→Prop} {f:FuncId} {cap:List Value} {tmps:Array Value} {m:FrameMode} {w:World} (hm:m ≠ .run) (he:Ent P f)
  (h:CallsD P f cap.toArray m w fun e u' w'=>∃ v,e = .returned v∧settle u' = .returning∧∃ x,(results fn tmps).run P w' = .ok x w'∧R (.returned x) w'):Leaves P fn tmps R [dfr f cap] m w:=by
 refine leaves_cons hm (f:=f) (args:=cap.toArray) ?_ (h.mono ?_)
 ·
  have:=he cap.toArray w
  simpa [invoke] using this
 rintro e u' w' ⟨v,rfl,h2,x,h3,h4⟩
 show Leaves P fn tmps R [] (settle u') w'
 rw [h2]
 exact ⟨x,h3,h4⟩
section
variable {P:Program} {ro:Option Nat} {n0:Nat} {w0:World} {ds:List Deferred} {ops:Array Oper} {Q:Exit→Act→World→Prop} {L:List SA}
 {rest:List Oper} {l:List Value} {ty:TypeId} {ps:String} {af:Array Edge}
theorem Jz3 {f:FuncId} {fn:Func} {c:Code} {args:List Value} {u:World} {R:Ending→World→Prop} (hu:St n0 w0 L u) (hf:P.funcs[f]? = some fn) (hb:fn.body=some c)
  (hl:frame args fn.ntmps=some l) (hn:args.length≤fn.ntmps) (h:CS P none n0 w0 [] c (bodyPostD P fn R) L l):Calls P f args.toArray u R:=by
 refine calls_of_wp_defers hf hb ((wpIn_wide (n:=0)).1 ?_)
 have:=h u hu
 rw [← Jgb hl hn,Jnb] at this
 exact this
theorem WS.defer {f:Operand} {fn:FuncId} {cap:List Value} (hf:evo l f=some (.func (.func fn) #[] cap.toArray)) (k:WS P none n0 w0 (dfr fn cap::ds) ops Q L rest l) :
  WS P none n0 w0 ds ops Q L (⟨none,.defer ⟨.value f, #[], #[]⟩,ty,ps,af,none⟩::rest) l:=by
 intro u hu
 unfold wpListIn
 rw [if_pos (by simp [Region.wanted])]
 refine ⟨fun _ _=>trivial,?_⟩
 rw [show (FW none).round=none from rfl,Oper.semAt_none,Jbq]
 have hr:(execOp (ev l) ⟨none,.defer ⟨.value f, #[], #[]⟩,ty,ps,af,none⟩).run P u = .ok (.defer (dfr fn cap)) u:=by
  replace hf:=Jan hf
  simp [execOp,hf,resolve,Deferred.ofValue,dfr]
 rw [hr]
 exact k u hu
theorem outD {fn:Func} {R:Ending→World→Prop} {f:FuncId} {cap:List Value} {v:Value} (he:Ent P f) (hc:∀ u,CallsD P f cap.toArray .returning u fun e u' w'=>e = .returned (.tuple #[])∧u' = .returning∧w'=u)
  (hr:Res P fn l L n0 w0 v) (hR:∀ u,St n0 w0 L u→R (.returned v) u):QS n0 w0 [dfr f cap] (bodyPostD P fn R) .ret L l:=fun u hu=>by
 refine Jr3 (by simp) he ((hc u).mono ?_)
 rintro e u' w' ⟨rfl,rfl,rfl⟩
 exact ⟨_,rfl,rfl,v,hr _ hu,hR _ hu⟩
theorem panD {fn:Func} {R:Ending→World→Prop} {f:FuncId} {t b:Nat} {Tb e4:TypeId} {k:Nat} {x v:Value} {e1:TypeId} {ch chr:List PanicEntry} {a:Act} {u:World} (ha:a.defers=[dfr f [.pointer (some ⟨b,0,none⟩)]])
  (ht:a.tmps[t]? = some (.pointer (some ⟨b,0,none⟩))) (he:Ent P f) (hs:settle (.panicking chr) = .returning)
  (hc:∀ w:World,(w.alloc (.cells #[] e1)).cell? ⟨b,0,none⟩=some x→(w.alloc (.cells #[] e1)).frozen? ⟨b,0,none⟩=false→CallsD P f #[.pointer (some ⟨b,0,none⟩)] (.panicking ch) w fun e u' w'=>e = .returned (.tuple #[])∧u' = .panicking chr∧w'=(w.alloc (.cells #[] e1)).setCell ⟨b,0,none⟩ v)
  (hr:fn.results = #[.cell t Tb]) (hT:tk P Tb=some (false,k)) (hu:St n0 w0 (blk b [x] e4::L) u) (hR:∀ u,St n0 w0 L u→R (.returned v) u):bodyPostD P fn R (.panic ch) a u:=by
 have h1:St n0 w0 (blk b [x] e4::L) (u.alloc (.cells #[] e1)):=hu.ext ((Below.refl _ u).alloc (Nat.le_refl _) _)
 have hb1:=(h1.blk (j:=0) rfl).2
 have h2:St n0 w0 (blk b [v] e4::L) ((u.alloc (.cells #[] e1)).setCell ⟨b,0,none⟩ v):=h1.store (j:=0) rfl 0 v
 show Leaves P fn a.tmps R a.defers (.panicking ch) u
 rw [ha]
 refine Jr3 (by simp) he ((hc u (Jcz hb1 0) ?_).mono ?_)
 ·
  simp [World.frozen?,hb1]
 rintro e u' w' ⟨rfl,rfl,rfl⟩
 refine ⟨_,rfl,hs,v,?_,hR _ (h2.erase 0)⟩
 have h3:((u.alloc (.cells #[] e1)).setCell ⟨b,0,none⟩ v).cell? ⟨b,0,none⟩=some v:=Jcz (h2.blk (j:=0) rfl).2 0
 simp only [results,hr]
 simp [Sem.run_bind,Result.andThen,ht,asAddr,loadVar,(Jdq hT _).1,h3]
end
end Go.Proofs.YtkekjhcmephhjaaGreatDoor
namespace Go.Proofs.YtkekjhcmephhjaaGreatDoor
set_option linter.unusedVariables false
set_option linter.unusedSimpArgs false
open Go.RowKit
abbrev P3:=List Int × List Int × List Int
def Stt.x (z:Stt):P3:=(z.ths.l,z.prs.l,z.pls.l)
def no3:P3:=([],[],[])
def RetS (w:World) (x:P3) (f:Value→Value):Ending→World→Prop:=fun e w'=>∃ z:Stt,(z.x=x∧∃ u0,SttOk u0 z)∧RetF w (f (.agg #[z.ths.v,z.prs.v,z.pls.v])) (roS fun u=>SttOk u z) e w'
def Jg7 (n:Nat) (c:List Lit):Prop:=∀ x∈c,0≤x.t∧x.t < n
def autoI (aus:List Auto) (ths:List Int):Int:=idxF (fun a=>Jfo ths a.wh.l && !decide (nth ths a.t=a.s)) aus
def settleN (aus:List Auto):Nat→List Int→Option (List Int)
 | 0,_=>none
 | n+1,ths=>if autoI aus ths < 0 then some ths else settleN aus n (ths.set (nth aus (autoI aus ths)).t.toNat (nth aus (autoI aus ths)).s)
def Jhe (aus:List Auto) (n:Nat):Prop:=∀ a∈aus,(0≤a.t∧a.t < n)∧Jg7 n a.wh.l
theorem Jvu {aus:List Auto} {ths:List Int} (h:¬ autoI aus ths < 0):0≤autoI aus ths∧autoI aus ths < aus.length:=by
 refine ⟨by omega,?_⟩
 unfold autoI idxF at *
 split at h
 ·
  rename_i i hi
  have:=(List.findIdx?_eq_some_iff_findIdx_eq.1 hi).1
  omega
 omega
def settleV (r:Room) (x:P3):Option P3:=(settleN r.aus.l 101 x.1).map fun t=>(t,x.2.1,x.2.2)
structure ActIn (r:Room) (a:Actn):Prop where
 wh:Jg7 r.ths.l.length a.wh.l
 pl:0≤a.pl∧a.pl < r.pls.l.length
 us:∀ x∈a.us.l,0≤x∧x < r.prs.l.length
 sp:∀ x∈a.sp.l,0≤x∧x < r.prs.l.length
 br:∀ x∈a.br.l,0≤x∧x < r.prs.l.length
 se:∀ x∈a.se.l,putB r.ths.l x.t x.s=true
 lus:a.us.l.length≤r.prs.l.length
 lsp:a.sp.l.length≤r.prs.l.length
 lbr:a.br.l.length≤r.prs.l.length
 lse:a.se.l.length≤6
structure Ready (r:Room):Prop where
 ply:1≤r.ply∧r.ply≤4
 lens:1≤r.pls.l.length∧r.pls.l.length≤8∧r.ths.l.length≤12∧r.prs.l.length≤10∧r.wys.l.length≤16∧r.acs.l.length≤24∧r.aus.l.length≤12
 ths:∀ x∈r.ths.l,thB r x=true
 aus:Jhe r.aus.l r.ths.l.length
 aut:∀ a∈r.aus.l,putB r.ths.l a.t a.s=true
 prs:∀ p∈r.prs.l,Jg7 r.ths.l.length p.wh.l∧(p.pl = -1∨placeB r p.pl=true)
 wys:∀ x∈r.wys.l,Jg7 r.ths.l.length x.wh.l∧(0≤x.a∧x.a < r.pls.l.length)∧(0≤x.b∧x.b < r.pls.l.length)
 acs:∀ a∈r.acs.l,ActIn r a
 gl:Jg7 r.ths.l.length r.gl.l
theorem Jn4 {ths:List Thing} {a b:Int} (h:putB ths a b=true):0≤a∧a < ths.length:=by
 simp only [putB,Bool.and_eq_true,decide_eq_true_eq] at h
 omega
theorem Jb9 {r:Room} {n:Int} (h:placeB r n=true):0≤n∧n < r.pls.l.length:=by
 simp only [placeB,Bool.and_eq_true,decide_eq_true_eq] at h
 omega
theorem Jhh {ths:List Thing} {c:List Lit} (h:Jeg ths c=true):Jg7 ths.length c:=fun x hx=>by
 simp only [Jeg,Bool.and_eq_true,List.all_eq_true] at h
 exact Jn4 (h.1 x hx)
theorem Jjc {r:Room} {c:List Lit} (h:whO r c=0):Jeg r.ths.l c=true:=by
 unfold whO at h
 split at h
 ·
  assumption
 cases h
theorem ite0 {b:Bool} {k:Int} (hk:k≠0) (h:(if b=true then (0:Int) else k)=0):b=true:=by
 split at h
 ·
  assumption
 exact (hk h).elim
theorem Jgm {n:Nat} {l:List Int} (h:ascB n l=true):∀ x∈l,0≤x∧x < n:=fun x hx=>by
 obtain ⟨i,h0,h1,rfl⟩:=Ja4 hx
 have:=Jh9 h h0 h1
 simp only [Bool.and_eq_true,decide_eq_true_eq] at this
 omega
theorem Jr0 {n:Nat} {l:List Int} (h:ascB n l=true):∀ k:Nat,k < l.length→(k:Int)≤nth l k
 | 0,hk=>(Jgm h _ (Jak (by omega) (by omega))).1
 | k+1,hk=>by
  have h1:=Jr0 h k (by omega)
  have h2:=Jh9 h (i:=((k+1:Nat):Int)) (by omega) (by omega)
  simp only [Bool.and_eq_true,Bool.or_eq_true,decide_eq_true_eq] at h2
  rw [show ((k+1:Nat):Int) - 1=(k:Int) by omega] at h2
  omega
theorem Jku {n:Nat} {l:List Int} (h:ascB n l=true):l.length≤n:=by
 by_cases hl:l.length=0
 ·
  omega
 have h1:=Jr0 h (l.length - 1) (by omega)
 have h2:=(Jgm h _ (Jak (xs:=l) (i:=((l.length - 1:Nat):Int)) (by omega) (by omega))).2
 omega
theorem Jfd {r:Room} (h:checkE r=0):Ready r:=by
 obtain ⟨hm,h2⟩:=Jf2 h
 obtain ⟨hpl,h3⟩:=Jb6 h2
 obtain ⟨hth,h4⟩:=Jb6 h3
 obtain ⟨hpr,h5⟩:=Jb6 h4
 obtain ⟨hwy,h6⟩:=Jb6 h5
 obtain ⟨hac,h7⟩:=Jb6 h6
 obtain ⟨hau,hgl⟩:=Jb6 h7
 have hl:¬ r.pls.l.length=0:=fun h0=>by
  unfold checkE at h
  rw [hm,if_neg (by decide),if_pos h0] at h
  cases h
 refine ⟨Jjj h,?_,fun x hx=>?_,fun a ha=>?_,fun a ha=>?_,fun p hp=>?_,fun x hx=>?_,fun a ha=>?_,Jhh (Jjc (Jb6 hgl).2)⟩
 ·
  simp only [manyB,Bool.or_eq_false_iff,decide_eq_false_iff_not] at hm
  omega
 ·
  obtain ⟨i,h0,h1,rfl⟩:=Ja4 hx
  have:=ite0 (by decide) (Ja1 hth i h0 h1)
  simp only [Bool.and_eq_true] at this
  exact this.2.2
 ·
  obtain ⟨i,h0,h1,rfl⟩:=Ja4 ha
  have:=Jb6 (Ja1 hau i h0 h1)
  exact ⟨Jn4 (ite0 (by decide) this.1),Jhh (Jjc this.2)⟩
 ·
  obtain ⟨i,h0,h1,rfl⟩:=Ja4 ha
  have:=Jb6 (Ja1 hau i h0 h1)
  exact ite0 (by decide) this.1
 ·
  obtain ⟨i,h0,h1,rfl⟩:=Ja4 hp
  have:=Jb6 (Ja1 hpr i h0 h1)
  refine ⟨Jhh (Jjc this.2),?_⟩
  have:=ite0 (by decide) this.1
  simp only [Bool.and_eq_true,Bool.or_eq_true,decide_eq_true_eq] at this
  exact this.2.2
 ·
  obtain ⟨i,h0,h1,rfl⟩:=Ja4 hx
  have:=Jb6 (Ja1 hwy i h0 h1)
  have h8:=ite0 (by decide) this.1
  simp only [Bool.and_eq_true] at h8
  exact ⟨Jhh (Jjc this.2),Jb9 h8.1,Jb9 h8.2.1⟩
 obtain ⟨i,h0,h1,rfl⟩:=Ja4 ha
 have:=Jb6 (Ja1 hac i h0 h1)
 have h8:=ite0 (by decide) this.1
 simp only [actB,act2,Bool.and_eq_true,decide_eq_true_eq] at h8
 obtain ⟨_,⟨_,hp,_,hu,hs,hb,hse⟩,_,_,h5⟩:=h8
 refine ⟨Jhh (Jjc this.2),Jb9 hp,Jgm hu,Jgm hs,Jgm hb,fun x hx=>?_,Jku hu,Jku hs,Jku hb,by omega⟩
 obtain ⟨k,a0,a1,rfl⟩:=Ja4 hx
 have:=Jh9 h5 a0 a1
 simp only [Bool.and_eq_true] at this
 exact this.1
structure StIn (r:Room) (x:P3):Prop where
 lt:x.1.length=r.ths.l.length
 lp:x.2.1.length=r.prs.l.length
 ll:(x.2.2.length:Int)=r.ply
 th:∀ i:Int,0≤i→i < x.1.length→putB r.ths.l i (nth x.1 i)=true
 pr:∀ i:Int,0≤i→i < x.2.1.length→(placeB r (nth x.2.1 i) || (decide (nth x.2.1 i = -1) || (decide (-2 - r.ply+1≤nth x.2.1 i) && decide (nth x.2.1 i ≤ -2))))=true
 pl:∀ i:Int,0≤i→i < x.2.2.length→placeB r (nth x.2.2 i)=true
def stL (r:Room) (x:P3):Int:=or0 (checkE r) (stE r x.1 x.2.1 x.2.2)
theorem J1i {r:Room} {x:P3}:stE r x.1 x.2.1 x.2.2=0 ↔ StIn r x:=by
 constructor
 ·
  intro h
  unfold stE at h
  split at h
  ·
   rename_i hl
   simp only [Bool.and_eq_true,decide_eq_true_eq] at hl
   obtain ⟨h1,h2⟩:=Jb6 h
   obtain ⟨h2,h3⟩:=Jb6 h2
   exact ⟨hl.1,hl.2.1,hl.2.2,fun i h0 hi=>ite0 (by decide) (Ja1 h1 i h0 hi),fun i h0 hi=>ite0 (by decide) (Ja1 h2 i h0 hi),fun i h0 hi=>ite0 (by decide) (Ja1 h3 i h0 hi)⟩
  cases h
 intro h
 unfold stE
 have e1:Jby (Jjb r x.1) x.1.length=0:=Jau fun i a b=>if_pos (h.th i a b)
 have e2:Jby (Jja r x.2.1) x.2.1.length=0:=Jau fun i a b=>if_pos (h.pr i a b)
 have e3:Jby (Ji6 r x.2.2) x.2.2.length=0:=Jau fun i a b=>if_pos (h.pl i a b)
 rw [if_pos (by simp only [Bool.and_eq_true,decide_eq_true_eq]; exact ⟨h.lt,h.lp,h.ll⟩),e1,Jeo rfl,e2,Jeo rfl,e3]
theorem Joy {r:Room} {x:P3}:stL r x=0 ↔ checkE r=0∧StIn r x:=by
 rw [← J1i]
 constructor
 ·
  exact Jb6
 rintro ⟨h1,h2⟩; unfold stL; rw [Jeo h1,h2]
theorem StIn.small {r:Room} {x:P3} (h:StIn r x) (hr:Ready r):x.1.length≤1000000∧x.2.1.length≤1000000∧x.2.2.length≤1000000:=by
 have:=h.lt; have:=h.lp; have:=h.ll; have:=hr.lens; have:=hr.ply
 omega
theorem StIn.autos {r:Room} {x:P3} (h:StIn r x) (hr:Ready r):Jhe r.aus.l x.1.length:=by rw [h.lt]; exact hr.aus
def ansS (r:Room) (o:Option P3):Int × P3:=match o with | some y=>(0,y) | none=>(27,no3)
def SettleV (r:Room) (x:P3):Int × P3:=if stL r x=0 then ansS r (settleV r x) else (stL r x,no3)
def Jdf (r:Room):P3:=(r.ths.l.map Thing.sr,r.prs.l.map Pro.pl,List.replicate r.ply.toNat 0)
def BeginV (r:Room):Int × P3:=if checkE r=0 then SettleV r (Jdf r) else (checkE r,no3)
theorem SttOk.ones {w:World} {z:Stt} (h:SttOk w z):z.ths.v.oneCell'=true∧z.prs.v.oneCell'=true∧z.pls.v.oneCell'=true:=⟨Sl.one h.ths,Sl.one h.prs,Sl.one h.pls⟩
theorem Jeb {α:Type} [Inhabited α] {xs:List α} {s:Int} (h0:0≤s) (h1:s < xs.length):xs.take (s+1).toNat=xs.take s.toNat++[nth xs s]:=by
 have h2:s.toNat < xs.length:=by omega
 rw [show (s+1).toNat=s.toNat+1 by omega,List.take_succ_eq_append_getElem h2]
 have:nth xs s=xs[s.toNat]:=by simp [nth,List.getD,h2]
 rw [this]
theorem Jlq {xs:List Int} {v s:Int} (h0:0≤s) (h1:s < xs.length):cnt (xs.take (s+1).toNat) v=cnt (xs.take s.toNat) v+(if nth xs s=v then 1 else 0):=by
 rw [Jeb h0 h1,Jxd]
def goB (r:Room) (x:P3) (m:Move):Bool:=((decide (0≤m.n) && decide (m.n≤r.wys.l.length - 1)) && (decide ((nth r.wys.l m.n).a=nth x.2.2 m.p) || decide ((nth r.wys.l m.n).b=nth x.2.2 m.p))) && Jfo x.1 (nth r.wys.l m.n).wh.l
def Jpx (r:Room) (x:P3) (m:Move):Bool:=(((decide (0≤m.n) && decide (m.n≤r.prs.l.length - 1)) && decide (nth x.2.1 m.n=nth x.2.2 m.p)) && Jfo x.1 (nth r.prs.l m.n).wh.l) && decide (cnt x.2.1 (-2 - m.p) < 3)
def Jql (r:Room) (x:P3) (m:Move):Bool:=(decide (0≤m.n) && decide (m.n≤r.prs.l.length - 1)) && decide (nth x.2.1 m.n = -2 - m.p)
def Jxr (x:P3) (a:Actn) (m:Move):Bool:=allI a.us.l.length fun k=>decide (nth x.2.1 (nth a.us.l k) = -2 - m.p)
def Juz (x:P3) (a:Actn):Bool:=allI a.br.l.length fun k=>decide (nth x.2.1 (nth a.br.l k) = -1)
def Jrp (x:P3) (a:Actn) (m:Move):Bool:=(decide (a.pl=nth x.2.2 m.p) && Jfo x.1 a.wh.l) && decide (cnt x.2.1 (-2 - m.p) - a.sp.l.length+a.br.l.length≤3)
def doB (r:Room) (x:P3) (m:Move):Bool:=(decide (0≤m.n) && decide (m.n≤r.acs.l.length - 1)) && (Jxr x (nth r.acs.l m.n) m && (Juz x (nth r.acs.l m.n) && Jrp x (nth r.acs.l m.n) m))
def legalB (r:Room) (x:P3) (m:Move):Bool :=
 if (decide (0≤m.p) && decide (m.p≤r.ply - 1))=true then
  if m.k=1 then goB r x m else if m.k=2 then Jpx r x m else if m.k=3 then Jql r x m else if m.k=4 then doB r x m else false
 else false
def Jdm (v:Int) (l:List Int) (ps:List Int):List Int:=ps.foldl (fun l p=>l.set p.toNat v) l
def Jhp (l:List Int) (ss:List Put):List Int:=ss.foldl (fun l s=>l.set s.t.toNat s.s) l
theorem Jd7 {v:Int}:∀ {ps l:List Int},(Jdm v l ps).length=l.length
 | [],_=>rfl
 | p::ps,l=>by
  have:=Jd7 (v:=v) (ps:=ps) (l:=l.set p.toNat v)
  simpa [Jdm] using this
theorem Jhd:∀ {ss:List Put} {l:List Int},(Jhp l ss).length=l.length
 | [],_=>rfl
 | p::ps,l=>by
  have:=Jhd (ss:=ps) (l:=l.set p.t.toNat p.s)
  simpa [Jhp] using this
theorem Ji1 {v:Int} {l ps:List Int} {s:Int} (h0:0≤s) (h1:s < ps.length):Jdm v l (ps.take (s+1).toNat)=(Jdm v l (ps.take s.toNat)).set (nth ps s).toNat v:=by
 rw [Jeb h0 h1,Jdm,List.foldl_append]; rfl
theorem Jnq {l:List Int} {ps:List Put} {s:Int} (h0:0≤s) (h1:s < ps.length):Jhp l (ps.take (s+1).toNat)=(Jhp l (ps.take s.toNat)).set (nth ps s).t.toNat (nth ps s).s:=by
 rw [Jeb h0 h1,Jhp,List.foldl_append]; rfl
def moveX (r:Room) (x:P3) (m:Move):P3 :=
 if m.k=1 then (x.1,x.2.1,x.2.2.set m.p.toNat ((nth r.wys.l m.n).a+(nth r.wys.l m.n).b - nth x.2.2 m.p))
 else if m.k=2 then (x.1,x.2.1.set m.n.toNat (-2 - m.p),x.2.2)
 else if m.k=3 then (x.1,x.2.1.set m.n.toNat (nth x.2.2 m.p),x.2.2)
 else if m.k=4 then (Jhp x.1 (nth r.acs.l m.n).se.l,Jdm (-2 - m.p) (Jdm (-1) x.2.1 (nth r.acs.l m.n).sp.l) (nth r.acs.l m.n).br.l,x.2.2)
 else x
theorem Jmp {r:Room} {x:P3} {m:Move}:(moveX r x m).1.length=x.1.length∧(moveX r x m).2.1.length=x.2.1.length∧(moveX r x m).2.2.length=x.2.2.length:=by
 unfold moveX
 split
 ·
  simp
 split
 ·
  simp
 split
 ·
  simp
 split
 ·
  simp [Jhd,Jd7]
 simp
def StepV (r:Room) (x:P3) (m:Move):Int × P3:=if stL r x=0 then if legalB r x m=true then ansS r (settleV r (moveX r x m)) else (29,no3) else (stL r x,no3)
structure MoveIn (r:Room) (x:P3) (m:Move):Prop where
 p:0≤m.p∧m.p < x.2.2.length∧m.p≤3
 go:m.k=1→0≤m.n∧m.n < r.wys.l.length
 pr:m.k=2∨m.k=3→0≤m.n∧m.n < x.2.1.length
 ac:m.k=4→0≤m.n∧m.n < r.acs.l.length
theorem Jzz {r:Room} {x:P3} {m:Move} (hR:Ready r) (hI:StIn r x) (h:legalB r x m=true):MoveIn r x m:=by
 have hl:=hI.ll
 have hp:=hI.lp
 have hy:=hR.ply
 unfold legalB at h
 split at h
 ·
  rename_i h1
  simp only [Bool.and_eq_true,decide_eq_true_eq] at h1
  refine ⟨by omega,fun hk=>?_,fun hk=>?_,fun hk=>?_⟩
  ·
   rw [if_pos hk] at h
   simp only [goB,Bool.and_eq_true,decide_eq_true_eq] at h
   omega
  ·
   rcases hk with hk | hk
   ·
    rw [if_neg (by omega),if_pos hk] at h
    simp only [Jpx,Bool.and_eq_true,decide_eq_true_eq] at h
    omega
   rw [if_neg (by omega),if_neg (by omega),if_pos hk] at h
   simp only [Jql,Bool.and_eq_true,decide_eq_true_eq] at h
   omega
  rw [if_neg (by omega),if_neg (by omega),if_neg (by omega),if_pos hk] at h
  simp only [doB,Bool.and_eq_true,decide_eq_true_eq] at h
  omega
 cases h
theorem StIn.at {r:Room} {x:P3} (hI:StIn r x) {i:Int} (h0:0≤i) (h1:i < x.2.2.length):0≤nth x.2.2 i∧nth x.2.2 i < r.pls.l.length:=Jb9 (hI.pl i h0 h1)
def oT {α:Type} (C:Cel α) (e:TypeId) (v:Value) (l:List α):SA:=osl e C.k v l.length (Jax C l)
section
variable {P:Program} {ro:Option Nat} {n0:Nat} {w0:World} {ds:List Deferred} {ops:Array Oper} {Q:Exit→Act→World→Prop} {L:List SA} {rest:List Oper} {l:List Value} {ty:TypeId} {ps:String} {af:Array Edge}
 {α:Type} {C:Cel α}
theorem WS.buildT1 (C:Cel α) {T e:TypeId} {by_ i:Nat} {x:Operand} {a:α} {zc:List Value} (hT:sl P T=some (e,C.k,by_)) (hz:zv P e=some zc) (hx:evo l x=some (.agg (C.cells a).toArray)) (hk:0 < C.k∧C.k≤1000)
  {l':Value→List Value} (hl:∀ v,lset l i v=some (l' v)) (kk:∀ v,WS P ro n0 w0 ds ops Q (oT C e v [a]::L) rest (l' v)) :
  WS P ro n0 w0 ds ops Q L (⟨some i,.buildSlice T 1 #[(0,x)],ty,ps,af,none⟩::rest) l:=by
 refine WS.buildSliceK (pl:=[(0,x)]) (rows:=[C.cells a]) (k:=C.k) hT hz (by simp [Jan hx]) rfl (by omega) (by omega) (by simp [C.len]) hl fun v=>?_
 exact kk v
theorem WS.appendT1 {T e:TypeId} {by_ i j jz:Nat} {x y:Operand} {v z:Value} {a:α} {xs:List α} {zc:List Value} (hT:sl P T=some (e,C.k,by_)) (hz:zv P e=some zc) (hzl:zc.length=C.k) (hk:0 < C.k)
  (hx:evo l x=some v) (hj:L[j]? = some (oT C e v xs)) (hy:evo l y=some z) (hjz:L[jz]? = some (oT C e z [a])) {w:World} (h1:C.ok w a)
  (hm:xs.length+1≤9223372036854775807) (hb:(xs.length+1) * by_≤140737488355328)
  {l':Value→List Value} (hl:∀ v,lset l i v=some (l' v)) {L':Value→List SA} (hL:∀ v',lset L j (oT C e v' (xs++[a]))=some (L' v')) (k:∀ v',v'.oneCell'=true→WS P ro n0 w0 ds ops Q (L' v') rest (l' v')) :
  WS P ro n0 w0 ds ops Q L (⟨some i,.call ⟨.builtin .append, #[x,y], #[T,T]⟩,ty,ps,af,none⟩::rest) l:=by
 refine WS.append hT hz hzl hk hx hj hy (m:=1) (fun u hu=>Jcq hu hjz) (fun b hb'=>?_) hm hb hl (L':=L') (fun v'=>?_) fun v'=>?_
 ·
  rw [Jmm] at hb'; exact C.one w a h1 b hb'
 ·
  rw [← hL v',oT,Jex]; simp
 have hjl:=(List.getElem?_eq_some_iff.1 hj).1
 have h2:=(Jal (hL v')).symm
 refine WS.oc (j:=j) (v:=v') (e:=e) (k:=C.k) (n:=(xs++[a]).length) (xs:=Jax C (xs++[a])) (by rw [h2,List.getElem?_set_self hjl]; rfl) (k v')
theorem Jaw {u:World} {e:TypeId} {v:Value} {xs:List α} {j:Nat} (hu:St n0 w0 L u) (hj:L[j]? = some (oT C e v xs)) (hk:∀ a∈xs,C.ok u a):SlT C u ⟨v,xs⟩:=⟨Jcq hu hj,hk⟩
end
def Jdn (p k:Int) (n:Nat):List Move:=(List.range n).map fun i:Nat=>(⟨p,k,(i:Int)⟩:Move)
def Jxm (p:Int):Nat→List Move
 | 0=>[]
 | j+1=>Jxm p j++Jdn p ((j:Int)+1) 24
def Jxc:Nat→List Move
 | 0=>[]
 | q+1=>Jxc q++Jxm q 4
theorem Juk (p k:Int) (n:Nat):(Jdn p k n).length=n:=by simp [Jdn]
theorem Jq3 (p k:Int) {n:Int} (h0:0≤n):Jdn p k (n+1).toNat=Jdn p k n.toNat++[⟨p,k,n⟩]:=by
 rw [show (n+1).toNat=n.toNat+1 by omega]
 simp [Jdn,List.range_succ]
 omega
def Jx2 (r:Room) (x:P3):List Move:=(Jxc r.ply.toNat).filter (legalB r x)
def LegalV (r:Room) (x:P3):Int × List Move:=if stL r x=0 then (0,Jx2 r x) else (stL r x,[])
def RetM (w:World) (x:List Move) (f:Value→Value):Ending→World→Prop:=fun e w'=>∃ v:Value,(∃ u0,SlT cMove u0 ⟨v,x⟩)∧RetF w (f v) (roT cMove ⟨v,x⟩) e w'
theorem retM {w0 u:World} {L:List SA} {e:TypeId} {j:Nat} {v:Value} {xs:List Move} {f:Value→Value} (hj:L[j]? = some (oT cMove e v xs)) (hu:St w0.heap.size w0 L u):RetM w0 xs f (.returned (f v)) u :=
 ⟨v,⟨u,Jaw hu hj fun _ _=>trivial⟩,retR (fun S u h=>⟨Star.osl hj h,fun _ _=>trivial⟩) u hu⟩
theorem J4x {w0 u:World} {L:List SA} {f:Value→Value} (hu:St w0.heap.size w0 L u):RetM w0 [] f (.returned (f (.slice none 0 0))) u :=
 ⟨_,⟨u,SlT.nil cMove u⟩,retR (fun S u h=>SlT.nil cMove u) u hu⟩
theorem RetF.toRo {w:World} {v:Value} {A:SA} {p:World→Prop} (hp:∀ S u,A.h S u→p u) {e:Ending} {u:World} (h:RetF w v A e u):RetF w v (roS p) e u:=by
 obtain ⟨h1,h2,T,h3,h4⟩:=h
 exact ⟨h1,h2,T,⟨fun u' hk=>hp T u' (A.loc T u u' h3 hk),fun k hS=>A.dom T u k h3 hS⟩,h4⟩
theorem RetF.now {w:World} {v:Value} {p:World→Prop} {e:Ending} {u:World} (h:RetF w v (roS p) e u):p u:=by
 obtain ⟨_,_,T,h3,_⟩:=h
 exact roS.now h3
theorem Jpo {α β:Type} [Inhabited α] (f:α→β) {l:List α} {s:Int} (h0:0≤s) (h1:s < l.length):(l.take s.toNat).map f++[f (nth l s)]=(l.take (s+1).toNat).map f:=by
 rw [Jeb h0 h1]; simp
def Jkb (n:Nat):List Int:=(List.range n).map fun i:Nat=>(i:Int)
theorem StIn.held {r:Room} {x:P3} (hI:StIn r x) {i:Int} (h0:0≤i) (h1:i < x.2.1.length) (h2:nth x.2.1 i ≤ -2):0 ≤ -2 - nth x.2.1 i ∧ -2 - nth x.2.1 i < x.2.2.length:=by
 have:=hI.pr i h0 h1
 have h3:=hI.ll
 simp only [placeB,Bool.or_eq_true,Bool.and_eq_true,decide_eq_true_eq] at this
 omega
theorem Jvd {α:Type} (cur vs:List α) {m N:Nat} (h:m+vs.length≤N) (hN:N≤cur.length):(cur.take m++vs++cur.drop (m+vs.length)).take N=(cur.take N).take m++vs++(cur.take N).drop (m+vs.length):=by
 rw [List.take_take,Nat.min_eq_left (by omega),List.take_append,List.take_of_length_le (l:=cur.take m++vs) (by simp; omega)]
 congr 1
 rw [List.length_append,List.length_take,Nat.min_eq_left (by omega),List.drop_take]
section
variable {P:Program} {ro:Option Nat} {n0:Nat} {w0:World} {ds:List Deferred} {ops:Array Oper} {Q:Exit→Act→World→Prop} {L:List SA} {rest:List Oper} {l:List Value} {d:Option Tmp} {ty:TypeId} {ps:String} {af:Array Edge} {g:Option (Nat × Bool)}
theorem WS.storeOC {T e:TypeId} {x y:Operand} {v z:Value} {k n m j:Nat} {q:Bool} {vs xs xs':List Value} (hx:evo l x=some (.pointer (some (sla v m)))) (hj:L[j]? = some (osl e k v n xs)) (hm:m+vs.length≤xs.length) (h0:0 < vs.length)
  (hy:evo l y=some z) (hz:z.cells=vs.toArray) (h1:∀ a∈vs,a.oneCell'=true) (hT:tk P T=some (q,vs.length)) (hxs:xs.take m++vs++xs.drop (m+vs.length)=xs')
  {L':List SA} (hL:lset L j (osl e k v n xs')=some L') (kk:WS P ro n0 w0 ds ops Q L' rest l) :
  WS P ro n0 w0 ds ops Q L (⟨none,.store T x y,ty,ps,af,none⟩::rest) l:=by
 rw [← Jal hL] at kk
 subst hxs
 (replace hx:=Jan hx; replace hy:=Jan hy)
 refine WS.world_skip rfl rfl rfl fun u hu=>?_
 obtain ⟨S,hS,⟨hS1,hl,h2⟩,hupd⟩:=hu.upd hj
 rcases h2 with ⟨rfl,rfl⟩ | ⟨b,cap,cur,rfl,hb,hg,hn,hcap,hcur,htake⟩
 ·
  simp at hl; subst hl; simp at hm; rw [hm.2] at h0; simp at h0
 have es:sla (.slice (some ⟨b,0,none⟩) n cap) m=⟨b,m,none⟩:=by simp [sla,slb,slo]
 rw [es] at hx
 have hcn:n * k≤cur.toList.length:=by
  rw [Array.length_toList,hcur]; exact Nat.mul_le_mul_right _ hn
 have hlen:xs.length=n * k:=by rw [← htake,List.length_take]; omega
 have hst:=run_storeCells_at P b m e vs 0 cur u hg (by simp at hcn; omega) h1
 simp only [Nat.add_zero] at hst
 have hb':=hS b ((hS1 b).2 rfl)
 refine ⟨u.setRow b (cur.toList.take m++vs++cur.toList.drop (m+vs.length)).toArray,?_,?_⟩
 ·
  simp [execOp,hx,hy,Instr.storeAt,Instr.sureAddr,storeVar,(Jdq hT u).2,hz,hst]
 refine kk _ (hupd _ _ (fun k=>k=b) ⟨rfl,rfl,rfl,by simp,fun k hk=>setRow_other u b k _ (fun e=>by omega)⟩ (fun k hk o' hcell=>?_) ⟨fun k=>?_,by simp; omega,.inr ⟨b,cap,_,rfl,hb,setRow_heap u b cur _ e _ hg,hn,hcap,by simp at hcn ⊢; omega,?_⟩⟩
  (fun k hk=>by subst hk; exact ⟨hb',.inl ((hS1 _).2 rfl)⟩))
 ·
  rw [setRow_other u b k _ (fun e=>hk.2.2 ((hS1 k).2 (by rw [e]; rfl)))]; exact hcell
 ·
  exact ⟨fun h=>by rw [h]; rfl,fun h=>by simpa [Value.ownBlock,eq_comm] using h⟩
 rw [← htake]
 exact Jvd cur.toList vs (by omega) hcn
end
section
variable {α:Type} (C:Cel α)
theorem Ju2 {l:List α} {i:Nat} {a:α} (hi:i < l.length):(Jax C l).take (i * C.k)++C.cells a++(Jax C l).drop (i * C.k+(C.cells a).length)=Jax C (l.set i a):=by
 rw [C.len, ← Jj5,show i * C.k+C.k=(i+1) * C.k by rw [Nat.succ_mul], ← Jju,List.set_eq_take_append_cons_drop,if_pos hi,Jex,List.append_assoc]
 congr 1
theorem Jn0 {l:List α} {i f:Nat} {a:α} {z:Value} [Inhabited α] (hi:i < l.length) (hf:f < C.k) (ha:C.cells a=(C.cells (nth l i)).set f z):(Jax C l).take (i * C.k+f)++[z]++(Jax C l).drop (i * C.k+f+[z].length)=Jax C (l.set i a):=by
 have h2:nth l (i:Int)=l[i]:=by simp [nth,List.getD,hi]
 rw [h2] at ha
 rw [← Jsw C hi hf ha,List.set_eq_take_append_cons_drop,if_pos (by rw [Jbx]; calc i * C.k+f < i * C.k+C.k:=by omega
  _=(i+1) * C.k:=by rw [Nat.succ_mul]
  _≤l.length * C.k:=Nat.mul_le_mul_right _ hi)]
 simp
end
section
variable {P:Program} {ro:Option Nat} {n0:Nat} {w0:World} {ds:List Deferred} {ops:Array Oper} {Q:Exit→Act→World→Prop} {L:List SA} {rest:List Oper} {l:List Value} {d:Option Tmp} {ty:TypeId} {ps:String} {af:Array Edge} {g:Option (Nat × Bool)}
 {α:Type} {C:Cel α}
theorem Jes {T e e':TypeId} {a b j:Nat} {x:Operand} {v:Value} {xs:List α} (hT:sl P T=some (e,a,b)) (hx:evo l x=some v) (hj:L[j]? = some (oT C e' v xs)) :
  Det P (St n0 w0 L) ⟨d,.call ⟨.builtin .len, #[x], #[T]⟩,ty,ps,af,g⟩ l (.int .i64 xs.length):=Jia hT hx hj
theorem Jc7 {T e e':TypeId} {by_ k j:Nat} {x y:Operand} {v:Value} {i:Int} {xs:List α} (hT:sl P T=some (e,k,by_)) (hx:evo l x=some v) (hy:evo l y=some (.int .i64 i))
  (hj:L[j]? = some (oT C e' v xs)) (hk:C.k=k) (h0:0≤i) (h1:i < xs.length):Det P (St n0 w0 L) ⟨d,.indexAddr T x y,ty,ps,af,g⟩ l (.pointer (some (sla v (i.toNat * k)))):=by
 subst hk
 exact Jfb hT hx hy (show L[j]? = some (osl e' C.k v xs.length (Jax C xs)) from hj) h0 h1
theorem WS.storeTw {T e:TypeId} {k:Nat} {x y:Operand} {v:Value} {j:Nat} {q:Bool} {xs:List α} {i:Int} (a:α) (hj:L[j]? = some (oT C e v xs)) (hx:evo l x=some (.pointer (some (sla v (i.toNat * k))))) (hk:C.k=k) (h:0≤i∧i < xs.length)
  (hy:evo l y=some (.agg (C.cells a).toArray)) (h1:∀ z∈C.cells a,z.oneCell'=true) (hk0:0 < k) (hT:tk P T=some (q,k))
  {L':List SA} (hL:lset L j (oT C e v (xs.set i.toNat a))=some L') (kk:WS P ro n0 w0 ds ops Q L' rest l) :
  WS P ro n0 w0 ds ops Q L (⟨none,.store T x y,ty,ps,af,none⟩::rest) l:=by
 subst hk
 have hi:i.toNat < xs.length:=by omega
 refine WS.storeOC (vs:=C.cells a) (m:=i.toNat * C.k) hx hj ?_ (by rw [C.len]; exact hk0) hy (by simp [Value.cells]) h1 (by rw [C.len]; exact hT) (Ju2 C hi) (by rw [← hL,oT,List.length_set]) kk
 rw [Jbx,C.len]
 calc i.toNat * C.k+C.k=(i.toNat+1) * C.k:=by rw [Nat.succ_mul]
  _≤xs.length * C.k:=Nat.mul_le_mul_right _ hi
variable [Inhabited α]
theorem Ji3 {T e:TypeId} {z j:Nat} (k f:Nat) {x:Operand} {v y:Value} {i:Int} {xs:List α} (hj:L[j]? = some (oT C e v xs)) (hx:evo l x=some (.pointer (some ⟨slb v,slo v+i.toNat * k+f,none⟩))) (hk:C.k=k) (h:0≤i∧i < xs.length) (hf:f < k)
  (hc:(C.cells (nth xs i))[f]? = some y) (hT:tk P T=some (false,z)):Det P (St n0 w0 L) ⟨d,.load T x,ty,ps,af,g⟩ l y:=by
 subst hk
 exact Jsd (by rw [hx,sla,Nat.add_assoc]) hj (by rw [Jco C h.1 h.2 f hf]; exact hc) hT
theorem Ju4 {T e:TypeId} {k j:Nat} {x:Operand} {v:Value} {i:Int} {xs:List α} {cs:List Value} (hj:L[j]? = some (oT C e v xs)) (hx:evo l x=some (.pointer (some (sla v (i.toNat * k))))) (hk:C.k=k) (h:0≤i∧i < xs.length)
  (hc:C.cells (nth xs i)=cs) (hT:tk P T=some (true,k)):Det P (St n0 w0 L) ⟨d,.load T x,ty,ps,af,g⟩ l (.agg cs.toArray):=by
 subst hk; subst hc
 refine Jfc hx (fun _ hu=>Jcq hu hj) (fun f y hy=>?_) (by rw [C.len]; exact hT)
 have hf:f < C.k:=by have:=(List.getElem?_eq_some_iff.1 hy).1; rwa [C.len] at this
 rw [Jco C h.1 h.2 f hf]; exact hy
theorem WS.storeTc {T e:TypeId} (k f:Nat) {x y:Operand} {v z:Value} {j:Nat} {q:Bool} {xs:List α} {i:Int} (a:α) (hj:L[j]? = some (oT C e v xs)) (hx:evo l x=some (.pointer (some ⟨slb v,slo v+i.toNat * k+f,none⟩))) (hk:C.k=k) (h:0≤i∧i < xs.length) (hf:f < k)
  (hy:evo l y=some z) (h1:z.oneCell'=true) (hT:tk P T=some (q,1)) (ha:C.cells a=(C.cells (nth xs i)).set f z)
  {L':List SA} (hL:lset L j (oT C e v (xs.set i.toNat a))=some L') (kk:WS P ro n0 w0 ds ops Q L' rest l) :
  WS P ro n0 w0 ds ops Q L (⟨none,.store T x y,ty,ps,af,none⟩::rest) l:=by
 subst hk
 have hi:i.toNat < xs.length:=by omega
 have e0:((i.toNat:Nat):Int)=i:=by omega
 refine WS.storeOC (vs:=[z]) (m:=i.toNat * C.k+f) (by rw [hx,sla,Nat.add_assoc]) hj ?_ (by simp) hy (by cases z <;> simp_all [Value.cells,Value.oneCell']) (by simpa using h1) hT (Jn0 C hi hf (by rw [e0]; exact ha)) (by rw [← hL,oT,List.length_set]) kk
 rw [Jbx]
 calc i.toNat * C.k+f+1≤i.toNat * C.k+C.k:=by omega
  _=(i.toNat+1) * C.k:=by rw [Nat.succ_mul]
  _≤xs.length * C.k:=Nat.mul_le_mul_right _ hi
end
def ptrB:Value→Nat
 | .pointer (some a)=>a.block
 | _=>0
theorem Jdy {α β:Type} [Inhabited α] (f:α→β) {l:List α} {i:Int} {a:α} (h0:0≤i) (h1:i < l.length) (ha:f a=f (nth l i)):(l.set i.toNat a).map f=l.map f:=by
 have h2:i.toNat < l.length:=by omega
 have h3:nth l i=l[i.toNat]:=by simp [nth,List.getD,h2]
 rw [List.map_set,ha,h3]
 apply List.ext_getElem (by simp)
 intro k hk1 hk2
 by_cases hk:i.toNat=k
 ·
  subst hk; simp
 simp [List.getElem_set_ne hk]
theorem Jjq {α:Type} [Inhabited α] {l:List α} {i:Int} {a:α} (h0:0≤i) (h1:i < l.length):nth (l.set i.toNat a) i=a:=by
 have h2:i.toNat < l.length:=by omega
 simp [nth,List.getD,h2]
theorem Jcu {α:Type} [Inhabited α] {l:List α} {i j:Int} {a:α} (h0:0≤i) (h1:0≤j) (h:j≠i):nth (l.set i.toNat a) j=nth l j:=by
 have:i.toNat≠j.toNat:=by omega
 simp [nth,List.getD,List.getElem?_set_ne this]
section
variable {n0:Nat} {w0 u:World} {L:List SA}
theorem St.roTrue (h:St n0 w0 L u) {p:World→Prop} (hp:∀ u,p u):St n0 w0 (roS p::L) u :=
 ⟨h.le,h.below,fun _=>False,fun _ h=>h.elim,⟨fun u' _=>hp u',fun _ h=>h.elim⟩,h.star.sup fun _ h=>⟨h,fun h=>h⟩⟩
theorem St.roMap {p q:World→Prop} (hp:∀ u,p u→q u) (h:St n0 w0 (roS p::L) u):St n0 w0 (roS q::L) u:=St.toRo (fun S u h=>hp u (roS.now h)) h
theorem St.ro2 {A B:SA} {p q r:World→Prop} (hp:∀ S u,A.h S u→p u) (hq:∀ S u,B.h S u→q u) (hr:∀ u,p u→q u→r u) (h:St n0 w0 (A::B::L) u):St n0 w0 (roS r::L) u:=by
 have h1:=St.toRo hp h
 have h2:St n0 w0 (roS q::roS p::L) u:=St.toRo hq (h1.perm (List.Perm.swap _ _ _))
 exact St.roMap (fun u h=>hr u h.2 h.1) (St.roAnd h2)
end
def Jxf (w:World) (r:Room):Ending→World→Prop:=fun e w'=>∃ c:Room,(c.e=r.e∧∃ u0,RoomOk u0 c)∧RetF w (.agg #[c.pls.v,c.ths.v,c.prs.v,c.wys.v,c.acs.v,c.aus.v,.int .i64 c.ply,c.gl.v]) (roS fun u=>RoomOk u c) e w'
theorem Jh0 {α:Type} [Inhabited α] {q:World→α→Prop} {l:List α} {i:Int} {a:α} {u:World} (h0:0≤i) (h1:i < l.length) (hq:q u a) (h:∀ j:Int,0≤j→j < i→q u (nth l j)):∀ j:Int,0≤j→j < i+1→q u (nth (l.set i.toNat a) j):=fun j a0 a1=>by
 by_cases hj:j=i
 ·
  subst hj; rw [Jjq h0 h1]; exact hq
 rw [Jcu h0 a0 hj]; exact h j a0 (by omega)
theorem Jkr {α:Type} [Inhabited α] {q:World→α→Prop} {l:List α} {i:Int} {u:World} (hi:i=l.length) (h:∀ j:Int,0≤j→j < i→q u (nth l j)):∀ a∈l,q u a:=fun a ha=>by
 obtain ⟨j,h0,h1,rfl⟩:=Ja4 ha
 exact h j h0 (by omega)
theorem Je5 {α β:Type} {f:α→β} {l l':List α} (h:l.map f=l'.map f):l.length=l'.length:=by
 have:=congrArg List.length h
 simpa using this
section
variable {P:Program} {l:List Value} {d:Option Tmp} {ty:TypeId} {ps:String} {af:Array Edge} {g:Option (Nat × Bool)} {C:World→Prop}
theorem Jjh {T:TypeId} {pl:List (Nat × Operand)} {pls:List (Nat × Nat)} {z cs:List Value} {parts:List (Nat × Value)} (hp:plc P T=some pls) (hz:zv P T=some z) (hv:evp l pl=some parts)
  (hf:Instr.fill (pls.toArray[·]?) z.toArray parts=some cs.toArray):Det P C ⟨d,.build T pl.toArray,ty,ps,af,g⟩ l (.agg cs.toArray):=fun u _=>by
 replace hv:=Jsq hv
 subst hv
 unfold plc at hp
 split at hp
 ·
  rename_i fs hu
  unfold zv at hz
  cases hi:P.info? T with
  | none=>simp [hi] at hz
  | some inf =>
   cases hz2:inf.zero with
   | none=>simp [hi,hz2] at hz
   | some zz =>
    simp [hi,hz2] at hz
    have hm:=Jk2 (P:=P) (w:=u) fs.toList pls hp
    have hm2:(fs.mapM fun f=>do pure (f.offset, ← sizeOf f.type):Sem (Array (Nat × Nat))).run P u = .ok pls.toArray u:=by
     rw [Array.mapM_eq_mapM_toList]
     simp at hm
     simp [hm]
    have hzc:zz.cells=z.toArray:=by rw [← hz]
    simp [execOp,Jap,Instr.build,zeroValue,typeInfo,hi,hz2,run_underlying hu]
    simp at hm2
    simp [hm2,hzc]
    simp at hf
    simp [hf]
 simp at hp
end
theorem J4j {a:List (Nat × Nat)} {z:List Value} {p q:List Value} (ha:a=[(0,8),(8,3)]) (hz:z.length=11) (hp:p.length=8) (hq:q.length=3) :
  Instr.fill (a.toArray[·]?) z.toArray [(0,.agg p.toArray),(1,.agg q.toArray)]=some (p++q).toArray:=by
 subst ha
 match z,hz with
 | [z0,z1,z2,z3,z4,z5,z6,z7,z8,z9,z10],_ =>
  match p,hp with
  | [p0,p1,p2,p3,p4,p5,p6,p7],_ =>
   match q,hq with
   | [q0,q1,q2],_=>simp [Instr.fill,Value.cells]
section
variable {P:Program} {ro:Option Nat} {n0:Nat} {w0:World} {ds:List Deferred} {ops:Array Oper} {Q:Exit→Act→World→Prop} {L:List SA} {rest:List Oper} {l:List Value} {ty:TypeId} {ps:String} {af:Array Edge}
theorem WS.callFg {β:Type} {f:Operand} {args:List Operand} {ts:Array TypeId} {fn:FuncId} {cap:List Value} {vs:List Value} {v:β→Value} {A:β→SA} {p:β→Prop} {i:Nat} {l':β→List Value} {j:Nat} {want:Bool}
  (hw:yielded ops l.toArray j=some want)
  (hf:evo l f=some (.func (.func fn) #[] cap.toArray)) (hv:evs l args=some vs) (he:Ent P fn)
  (hc:∀ u,St n0 w0 L u→Calls P fn (vs++cap).toArray u (fun e u'=>∃ x,p x∧RetF u (v x) (A x) e u'))
  (hl:∀ x,lset l i (v x)=some (l' x)) (k:∀ x,p x→WS P ro n0 w0 ds ops Q (A x::L) rest (l' x)) :
  WS P ro n0 w0 ds ops Q L (⟨some i,.call ⟨.value f,args.toArray,ts⟩,ty,ps,af,some (j,want)⟩::rest) l:=by
 intro u hu
 unfold wpListIn
 rw [if_pos (by simp [Region.wanted,hw])]
 refine ⟨fun _ _=>trivial,?_⟩
 rw [Jba rfl,Jbq]
 have hr:(execOp (ev l) ⟨some i,.call ⟨.value f,args.toArray,ts⟩,ty,ps,af,some (j,want)⟩).run P u = .ok (.enter fn (vs++cap).toArray) u:=by
  have h1:∀ (args:Array Value) (w:World),Sem.run P (callFunc fn args) w = .ok (.enter fn args) w:=he
  replace hf:=Jan hf
  replace hv:=Jg8 hv
  subst hv
  simp [execOp,hf,resolve,invoke,Deferred.ofValue,h1]
 rw [hr]
 refine ⟨fun h=>by simp [FW] at h,Jcx ((hc u hu).mono ?_)⟩
 rintro e u' ⟨x,hp,rfl,hb,T,hA,hT⟩
 show wpListIn (FW ro) 0 P ops Q rest ((Act.mk l.toArray ds).put (some i) (v x)) u'
 rw [Jaz,Jal (hl x)]
 exact k x hp u' (hu.cons hb hA hT)
end
section
variable {P:Program} {ro:Option Nat} {n0:Nat} {w0:World} {ds:List Deferred} {ops:Array Oper} {Q:Exit→Act→World→Prop} {L:List SA} {rest:List Oper} {l:List Value} {ty:TypeId} {ps:String} {af:Array Edge}
theorem WS.buildHole {T e:TypeId} {by_ i:Nat} {x1 x2 x3 x4:Operand} {a b c d:Int} (hT:sl P T=some (e,1,by_)) (hz:zv P e=some [.int .i64 0])
  (h1:evo l x1=some (.int .i64 a)) (h2:evo l x2=some (.int .i64 b)) (h3:evo l x3=some (.int .i64 c)) (h4:evo l x4=some (.int .i64 d))
  {l':Value→List Value} (hl:∀ v,lset l i v=some (l' v)) (k:∀ v,WS P ro n0 w0 ds ops Q (oints e v [0,a,b,c,d]::L) rest (l' v)) :
  WS P ro n0 w0 ds ops Q L (⟨some i,.buildSlice T 5 #[(1,x1),(2,x2),(3,x3),(4,x4)],ty,ps,af,none⟩::rest) l:=by
 (replace h1:=Jan h1; replace h2:=Jan h2; replace h3:=Jan h3; replace h4:=Jan h4)
 refine WS.world rfl rfl fun u hu=>?_
 obtain ⟨inf,hu1,hi,hs,hby⟩:=Jcc hT
 unfold zv at hz
 rw [hi] at hz
 cases hz2:inf.zero with
 | none=>simp [hz2] at hz
 | some zz =>
  simp [hz2] at hz
  have hzc:zz.cells = #[.int .i64 0]:=by
   apply Array.ext'; simpa using hz
  refine ⟨.slice (some ⟨u.heap.size,0,none⟩) 5 5,u.alloc (.cells #[.int .i64 0,.int .i64 a,.int .i64 b,.int .i64 c,.int .i64 d] e),?_,?_⟩
  ·
   have hic:∀ n,(Value.int .i64 n).cells = #[.int .i64 n]:=fun _=>rfl
   have e5:Array.range 5 = #[0,1,2,3,4]:=by decide
   simp [execOp,Instr.buildSlice,run_underlying hu1,sizeOf,typeInfo,hi,hs,newRow,zeroValue,hz2,hzc,h1,h2,h3,h4,Instr.fill,hic,e5]
  rw [Jaz,Jal (hl _)]
  refine k _ _ (hu.cons (T:=fun k=>k=u.heap.size) ((Below.refl _ u).alloc (Nat.le_refl _) _) ⟨?_,by simp [ints],.inr ⟨u.heap.size,5,_,rfl,Nat.zero_le _,World.alloc_heap_new u _,Nat.le_refl _,?_,?_,?_⟩⟩ (fun k hk=>by omega))
  ·
   intro k; simp [Value.ownBlock]; exact eq_comm
  ·
   decide
  ·
   simp
  simp [ints]
end
def cntM (r:Room):Nat→Nat
 | 1=>r.wys.l.length
 | 2=>r.prs.l.length
 | 3=>r.prs.l.length
 | 4=>r.acs.l.length
 | _=>0
def kinM (r:Room) (p:Int):Nat→List Move
 | 0=>[]
 | j+1=>kinM r p j++Jdn p j (cntM r j)
def allM (r:Room):Nat→List Move
 | 0=>[]
 | q+1=>allM r q++kinM r q 5
def cntL (r:Room):List Int:=[0,r.wys.l.length,r.prs.l.length,r.prs.l.length,r.acs.l.length]
theorem Jua (r:Room) {j:Int} (h0:0≤j) (h1:j < 5):nth (cntL r) j=cntM r j.toNat:=by
 rcases (show j=0∨j=1∨j=2∨j=3∨j=4 by omega) with h | h | h | h | h <;> subst h <;> rfl
theorem Jti (p k:Int) {n m:Nat} (h:n≤m):Jdn p k n <+: Jdn p k m:=by
 refine ⟨(Jdn p k m).drop n,?_⟩
 have:Jdn p k n=(Jdn p k m).take n:=by simp [Jdn,List.take_range,Nat.min_eq_left h, ← List.map_take]
 rw [this,List.take_append_drop]
theorem Jn6 (r:Room) (p:Int) {j:Nat}:∀ {m:Nat},j≤m→kinM r p j <+: kinM r p m
 | 0,h=>by
  have:j=0:=by omega
  subst this; exact List.prefix_refl _
 | m+1,h=>by
  by_cases hj:j=m+1
  ·
   subst hj; exact List.prefix_refl _
  exact (Jn6 r p (show j≤m by omega)).trans ⟨_,rfl⟩
theorem Jpj (r:Room) {j:Nat}:∀ {m:Nat},j≤m→allM r j <+: allM r m
 | 0,h=>by
  have:j=0:=by omega
  subst this; exact List.prefix_refl _
 | m+1,h=>by
  by_cases hj:j=m+1
  ·
   subst hj; exact List.prefix_refl _
  exact (Jpj r (show j≤m by omega)).trans ⟨_,rfl⟩
def upM (r:Room) (p j n:Int):List Move:=allM r p.toNat++(kinM r p j.toNat++Jdn p j n.toNat)
theorem Jph {r:Room} {p j n:Int} (h:0≤n):upM r p j n++[⟨p,j,n⟩]=upM r p j (n+1):=by
 unfold upM; rw [Jq3 _ _ h]; simp [List.append_assoc]
theorem J4t {r:Room} {p j:Int} (h0:0≤j):upM r p j (cntM r j.toNat)=upM r p (j+1) 0:=by
 unfold upM
 rw [show (j+1).toNat=j.toNat+1 by omega,kinM,show ((j.toNat:Nat):Int)=j by omega]
 simp [Jdn]
theorem J3r {r:Room} {p:Int} (h0:0≤p):upM r p 5 0=upM r (p+1) 0 0:=by
 unfold upM
 rw [show (p+1).toNat=p.toNat+1 by omega,allM,show ((p.toNat:Nat):Int)=p by omega]
 simp [Jdn,kinM]
theorem J0q (r:Room) {p:Int} (hp:p=r.ply):upM r p 0 0=allM r r.ply.toNat:=by subst hp; simp [upM,kinM,Jdn]
theorem Jsl {r:Room} {p j n:Int} (h0:0≤p∧p < r.ply) (h1:0≤j∧j < 5) (h2:0≤n∧n < cntM r j.toNat):∃ post,allM r r.ply.toNat=upM r p j n++⟨p,j,n⟩::post:=by
 have e1:upM r p j n++[⟨p,j,n⟩] <+: allM r r.ply.toNat:=by
  rw [Jph h2.1]
  refine List.IsPrefix.trans ?_ (Jpj r (show p.toNat+1≤r.ply.toNat by omega))
  rw [allM,show ((p.toNat:Nat):Int)=p by omega]
  unfold upM
  rw [List.prefix_append_right_inj]
  refine List.IsPrefix.trans ?_ (Jn6 r p (show j.toNat+1≤5 by omega))
  rw [kinM,show ((j.toNat:Nat):Int)=j by omega,List.prefix_append_right_inj]
  exact Jti p j (by omega)
 obtain ⟨t,ht⟩:=e1
 exact ⟨t,by rw [← ht]; simp⟩
end Go.Proofs.YtkekjhcmephhjaaGreatDoor
namespace Go.Proofs.YtkekjhcmephhjaaGreatDoor
set_option linter.unusedVariables false
set_option linter.unusedSimpArgs false
open Go.RowKit Go.Proofs
section
variable {P:Program} {ro:Option Nat} {w0:World} {ds:List Deferred} {Q:Exit→Act→World→Prop} {L:List SA} {l:List Value}
theorem J1p {a b c f:SA} {M G:List SA}:(a::b::(M++(G++[c,f]))).Perm ([a,b,f]++(G++c::M)):=by
 refine List.Perm.cons _ (List.Perm.cons _ ?_)
 show (M++(G++[c,f])).Perm (f::(G++c::M))
 refine List.perm_append_comm.trans ?_
 rw [List.append_assoc]
 refine List.Perm.trans (List.Perm.append_left G (List.Perm.swap f c M)) ?_
 exact List.perm_middle
theorem J1r {F c:SA} {M G:List SA}:(F::(G++c::M)).Perm (G++c::(M++[F])):=by
 refine List.perm_middle.symm.trans ?_
 refine List.Perm.append_left G ?_
 exact (List.Perm.swap _ _ _).trans (List.Perm.cons c (List.perm_append_comm (l₁:=[F]) (l₂:=M)))
theorem CS.rangeFuncG {X:Type} {β:Type} {gf:FuncId} {lb:List Value} {A:List SA} {lend:Value→X→SA} {all:List X} {g:Operand} {t:Tmp} {assign body:Code} (G:X→β→List SA)
  (hg:evo l g=some (.func (.func gf) #[] lb.toArray)) (he:Ent P gf) (hi:Iter P w0 gf lb A lend all)
  (M:List X→List SA) (Mx:Code→List X→List SA) {l0:Value→List Value} {l1:Value→β→List Value} (h0:∀ v,lset l t v=some (l0 v))
  (ha:∀ (v:Value) (x:X) (lr:Nat) (L':List SA) (Q':Exit→Act→World→Prop),(∀ b,QS w0.heap.size w0 [] Q' .normal (G x b++lend v x::L') (l1 v b))→CS P (some lr) w0.heap.size w0 [] assign Q' (lend v x::L') (l0 v))
  (hbody:∀ (lr:Nat) (pre:List X) (x:X) (post:List X) (v:Value) (b:β) (F:SA),all=pre++x::post →
   CS P (some lr) w0.heap.size w0 [] body (Jun w0.heap.size w0 M Mx (lend v x) (pre++[x]) F) (G x b++lend v x::(M pre++[F])) (l1 v b))
  (hdone:∀ D,QS w0.heap.size w0 (mark D::ds) Q .normal (recd D (.deferred (some []))::(M all++A)) l)
  (hstop:∀ D c pre x post,all=pre++x::post→CS P none w0.heap.size w0 (mark D::ds) c Q (recd D (.deferred (some []))::(Mx c (pre++[x])++A)) l) :
  CS P none w0.heap.size w0 ds (.rangeFunc g #[t] assign body) Q (M []++A) l:=by
 intro u hu
 refine wpIn_rangeFunc ?_
 intro fn hfn
 have hu1:=(hu.allocRec (.deferred (some []))).allocRec (.loop (lrec fn l.toArray t assign body u.heap.size .ready none))
 rw [World.size_alloc] at hu1
 obtain ⟨W1,hW1⟩:∃ W1,(u.alloc (.deferred (some []))).alloc (.loop (lrec fn l.toArray t assign body u.heap.size .ready none))=W1:=⟨_,rfl⟩
 have hent:=run_enterLoop_outer (P:=P) (w:=u) fn l.toArray #[t] assign body
 rw [show ({ state:=.ready,pending:=none,fn,tmps:=l.toArray,params := #[t],assign,body,defers:=u.heap.size }:Loop)=lrec fn l.toArray t assign body u.heap.size .ready none from rfl,hW1] at hent
 rw [hW1] at hu1
 generalize u.heap.size=D at hent hu1
 clear hW1 hu
 refine ⟨D+1,[mark D],W1,{ target:=.fn (.func gf) lb.toArray,args := #[.func (.yield (D+1)) #[] #[]] },W1,gf,
  #[.func (.yield (D+1)) #[] #[]]++lb.toArray,W1,hent,?_,fun _ _=>trivial,?_,fun h=>by simp [FW] at h,?_⟩
 ·
  have hg':(Act.mk l.toArray ds).eval g = .func (.func gf) #[] lb.toArray:=by rw [Jbq]; exact Jan hg
  simp only [resolve,hg']
  simp [go_sem]
 ·
  have h1:∀ (args:Array Value) (w:World),Sem.run P (callFunc gf args) w = .ok (.enter gf args) w:=he
  simp [invoke,go_sem,h1]
 have hcall:=hi (D+1) (fun pre=>star ([recd (D+1) (.loop (lrec fn l.toArray t assign body D .ready none)),recd D (.deferred (some []))]++M pre))
  (fun pre=>exS fun c:Code=>star ([recd (D+1) (.loop (lrec fn l.toArray t assign body D .done (some c))),recd D (.deferred (some []))]++Mx c pre)) ?_ W1
  (St.pack (L1:=[recd (D+1) (.loop (lrec fn l.toArray t assign body D .ready none)),recd D (.deferred (some []))]++M []) hu1)
 ·
  have e:(Value.func (.yield (D+1)) #[] #[]::lb).toArray = #[Value.func (.yield (D+1)) #[] #[]]++lb.toArray:=by apply Array.ext'; simp
  rw [e] at hcall
  have hcall':=(callsIn_wide (n:=0)).2 hcall
  refine CallsIn.mono hcall' ?_
  rintro e u' ⟨⟨v,rfl⟩,hs | ⟨pre,x,post,hall,hs⟩⟩
  ·
   have hs2:=hs.unpack
   obtain ⟨_,hl⟩:=St.rec_ (j:=0) rfl hs2
   exact ⟨none,_,run_endLoop hl (by simp [lrec]),hdone D _ (hs2.putRec (j:=0) rfl _).tail⟩
  obtain ⟨c,hs1⟩:=hs.ex
  have hs2:=hs1.unpack
  obtain ⟨_,hl⟩:=St.rec_ (j:=0) rfl hs2
  exact ⟨some c,_,run_endLoop hl (by simp [lrec]),hstop D c pre x post hall _ (hs2.putRec (j:=0) rfl _).tail⟩
 intro pre x post hall F v u1 hs
 have hs1:=St.unpack hs
 obtain ⟨_,hl⟩:=St.rec_ (j:=0) rfl hs1
 have hy:=run_yield (P:=P) (args := #[v]) hl (by simp [lrec])
 have et:((lrec fn l.toArray t assign body D .ready none).params.zip #[v]).foldl (fun tmps (t,a)=>tmps.setIfInBounds t a) (lrec fn l.toArray t assign body D .ready none).tmps=(l0 v).toArray:=by
  have:=Jal (h0 v)
  simp [lrec, ← this]
 rw [et] at hy
 refine ⟨fn,_,assign,body,hy,roundIn_of_wpIn (F:=FW none) trivial ?_⟩
 refine ha v x (D+1) _ _ ?_ u1 (hs.perm (List.Perm.swap _ _ _))
 intro b u2 hs2
 have hs2':St w0.heap.size w0 (star ([recd (D+1) (.loop (lrec fn l.toArray t assign body D .ready none)),recd D (.deferred (some []))]++M pre)::(G x b++[lend v x,F])) u2:=hs2.perm (by
  refine List.Perm.trans ?_ List.perm_middle
  exact List.Perm.append_left _ (List.Perm.swap _ _ _))
 have hs3:=St.unpack hs2'
 obtain ⟨_,hl2⟩:=St.rec_ (j:=0) rfl hs3
 refine ⟨_,run_beginRound hl2 rfl,?_⟩
 have hs4:=(hs3.putRec (j:=0) rfl (.loop (lrec fn l.toArray t assign body D .busy none)))
 have hs5:=(((hs4.perm J1p).pack).perm J1r)
 refine wpIn_mono (hbody (D+1) pre x post v b _ hall _ hs5) ?_
 have back:∀ {M':List SA} {u4:World},St w0.heap.size w0 (lend v x::(M'++[star [recd (D+1) (.loop (lrec fn l.toArray t assign body D .busy none)),recd D (.deferred (some [])),F]])) u4 →
   St w0.heap.size w0 (recd (D+1) (.loop (lrec fn l.toArray t assign body D .busy none))::recd D (.deferred (some []))::(M'++[lend v x,F])) u4:=fun h=>((h.perm perm6.symm).unpack).perm perm5.symm
 rintro e a u4 hq
 cases e with
 | normal =>
  have h4:=back hq
  obtain ⟨_,hl4⟩:=St.rec_ (j:=0) rfl h4
  exact ⟨_,_,run_endRound none hl4,.inl ⟨rfl,St.pack (L1:=_::_::M (pre++[x])) (h4.putRec (j:=0) rfl (.loop (lrec fn l.toArray t assign body D .ready none)))⟩⟩
 | ret =>
  have h4:=back hq
  obtain ⟨_,hl4⟩:=St.rec_ (j:=0) rfl h4
  exact ⟨_,_,run_endRound (some .ret) hl4,.inr ⟨rfl,St.exI .ret (St.pack (L1:=_::_::Mx .ret (pre++[x])) (h4.putRec (j:=0) rfl (.loop (lrec fn l.toArray t assign body D .done (some .ret)))))⟩⟩
 | exit i =>
  have h4:=back hq
  obtain ⟨_,hl4⟩:=St.rec_ (j:=0) rfl h4
  exact ⟨_,_,run_endRound (some (.exit i)) hl4,.inr ⟨rfl,St.exI (.exit i) (St.pack (L1:=_::_::Mx (.exit i) (pre++[x])) (h4.putRec (j:=0) rfl (.loop (lrec fn l.toArray t assign body D .done (some (.exit i))))))⟩⟩
 | goto i=>exact hq.elim
 | panic c=>exact hq.elim
 | outgrown=>exact hq.elim
theorem CS.rangeB {X:Type} {gf:FuncId} {lb:List Value} {A:List SA} {all:List X} {x:Operand} {t t2 id:Tmp} {body:Code} {T n ty1 ty2:TypeId} {ps1 ps2:String} {af1 af2:Array Edge} {zs:List Value} {V:X→Value} (cs:X→List Value) (hV:∀ x,V x = .agg (cs x).toArray) (hcl:∀ x,(cs x).length=n) (hc1:∀ x,∀ v∈cs x,v.oneCell'=true)
  (hz:zv P T=some zs) (hzl:zs.length=n) (hT:tk P T=some (true,n)) (hne:t≠t2)
  (hg:evo l x=some (.func (.func gf) #[] lb.toArray)) (he:Ent P gf) (hi:Iter P w0 gf lb A (fun v x=>fact (v=V x)) all)
  (M:List X→List SA) (Mx:Code→List X→List SA) {l0:Value→List Value} {l1:Value→Nat→List Value} (h0:∀ v,lset l t v=some (l0 v)) (ht:t < l.length) (h1:∀ v b,lset (l0 v) t2 (.pointer (some ⟨b,0,none⟩))=some (l1 v b)) (ht2:∀ v,t2 < (l0 v).length)
  (hbody:∀ (lr:Nat) (pre:List X) (x:X) (post:List X) (v:Value) (b:Nat) (F:SA),all=pre++x::post →
   CS P (some lr) w0.heap.size w0 [] body (Jun w0.heap.size w0 M Mx (fact (v=V x)) (pre++[x]) F) (blk b (cs x) T::fact (v=V x)::(M pre++[F])) (l1 v b))
  (hdone:∀ D,QS w0.heap.size w0 (mark D::ds) Q .normal (recd D (.deferred (some []))::(M all++A)) l)
  (hstop:∀ D c pre x post,all=pre++x::post→CS P none w0.heap.size w0 (mark D::ds) c Q (recd D (.deferred (some []))::(Mx c (pre++[x])++A)) l) :
  CS P none w0.heap.size w0 ds (.rangeFunc x #[t] (.region id #[⟨some t2,.alloc T,ty1,ps1,af1,none⟩,⟨none,.store T (.tmp t2) (.tmp t),ty2,ps2,af2,none⟩] false) body) Q (M []++A) l :=
 CS.rangeFuncG (β:=Nat) (l0:=l0) (l1:=l1) (fun x b=>[blk b (cs x) T]) hg he hi M Mx h0 (fun v x lr L' Q' k=>CS.factE (j:=0) rfl fun hv=>CS.region (os:=[_,_]) (WS.alloc hz (h1 v) fun b _=>by
  have e1:(l1 v b)[t2]? = some (.pointer (some ⟨b,0,none⟩)):=Joi (h1 v b) (ht2 v)
  have e2:(l1 v b)[t]? = some (V x):=by
   have h2:=Jal (h1 v b)
   have h3:=Joi (h0 v) ht
   rw [← h2,List.getElem?_set_ne (Ne.symm hne),h3,hv]
  refine WS.storeW (j:=0) (b:=b) (c:=zs) (vs:=cs x) (e:=T) (n:=n) (by simpa [evo] using e1) rfl (by rw [← hV x]; simpa [evo] using e2) (by rw [hcl,hzl]) (hc1 x) hT (hcl x) rfl ?_
  exact WS.done (k b))) hbody hdone hstop
end
end Go.Proofs.YtkekjhcmephhjaaGreatDoor
namespace Go.Proofs.YtkekjhcmephhjaaGreatDoor
set_option linter.unusedVariables false
set_option linter.unusedSimpArgs false
open Go.RowKit
theorem Jmh {f:Move→Bool} {p k:Int} {c m:Nat} (hc:c≤m) (h:∀ n:Int,(c:Int)≤n→f ⟨p,k,n⟩=false):(Jdn p k m).filter f=(Jdn p k c).filter f:=by
 obtain ⟨d,rfl⟩:∃ d,m=c+d:=⟨m - c,by omega⟩
 have e:Jdn p k (c+d)=Jdn p k c++(List.range d).map fun i:Nat=>(⟨p,k,((c+i:Nat):Int)⟩:Move):=by
  simp [Jdn,List.range_add]
 have e2:(List.filter f ((List.range d).map fun i:Nat=>(⟨p,k,((c+i:Nat):Int)⟩:Move)))=[]:=by
  rw [List.filter_eq_nil_iff]
  intro x hx
  obtain ⟨i,_,rfl⟩:=List.mem_map.1 hx
  rw [h _ (by omega)]; simp
 rw [e,List.filter_append,e2,List.append_nil]
theorem Jq1 {r:Room} {x:P3} {p k n:Int} (hk:1≤k∧k≤4) (hn:(cntM r k.toNat:Int)≤n):legalB r x ⟨p,k,n⟩=false:=by
 unfold legalB
 split
 ·
  rcases (show k=1∨k=2∨k=3∨k=4 by omega) with h | h | h | h <;> subst h
  ·
   rw [if_pos rfl]
   have hn:(r.wys.l.length:Int)≤n:=hn
   unfold goB
   simp only [Bool.and_eq_false_iff,decide_eq_false_iff_not]
   exact .inl (.inl (.inr (by omega)))
  ·
   rw [if_neg (show ¬ (2:Int)=1 by decide),if_pos rfl]
   have hn:(r.prs.l.length:Int)≤n:=hn
   unfold Jpx
   simp only [Bool.and_eq_false_iff,decide_eq_false_iff_not]
   exact .inl (.inl (.inl (.inr (by omega))))
  ·
   rw [if_neg (show ¬ (3:Int)=1 by decide),if_neg (show ¬ (3:Int)=2 by decide),if_pos rfl]
   have hn:(r.prs.l.length:Int)≤n:=hn
   unfold Jql
   simp only [Bool.and_eq_false_iff,decide_eq_false_iff_not]
   exact .inl (.inr (by omega))
  rw [if_neg (show ¬ (4:Int)=1 by decide),if_neg (show ¬ (4:Int)=2 by decide),if_neg (show ¬ (4:Int)=3 by decide),if_pos rfl]
  have hn:(r.acs.l.length:Int)≤n:=hn
  unfold doB
  simp only [Bool.and_eq_false_iff,decide_eq_false_iff_not]
  exact .inl (.inr (by omega))
 rfl
theorem Jrc {r:Room} (hR:Ready r) (k:Nat):cntM r k≤24:=by
 have:=hR.lens
 unfold cntM
 split <;> omega
theorem Jm5 {r:Room} (hR:Ready r) (x:P3) (p:Int):(kinM r p 5).filter (legalB r x)=(Jxm p 4).filter (legalB r x):=by
 have h:=fun (k:Nat) (hk:1≤k∧k≤4)=>Jmh (f:=legalB r x) (p:=p) (k:=(k:Int)) (c:=cntM r k) (m:=24) (Jrc hR k) (fun n hn=>Jq1 (by omega) (by simpa using hn))
 have h1:=h 1 (by omega)
 have h2:=h 2 (by omega)
 have h3:=h 3 (by omega)
 have h4:=h 4 (by omega)
 simp only [kinM,Jxm,List.filter_append]
 have h0:Jdn p (0:Nat) (cntM r 0)=[]:=rfl
 rw [h0,List.filter_nil]
 rw [show ((0:Nat):Int)+1=((1:Nat):Int) from rfl,show ((1:Nat):Int)+1=((2:Nat):Int) from rfl,show ((2:Nat):Int)+1=((3:Nat):Int) from rfl,show ((3:Nat):Int)+1=((4:Nat):Int) from rfl,h1,h2,h3,h4,List.nil_append]
theorem Jiw {r:Room} (hR:Ready r) (x:P3):∀ q,(allM r q).filter (legalB r x)=(Jxc q).filter (legalB r x)
 | 0=>rfl
 | q+1=>by rw [allM,Jxc,List.filter_append,List.filter_append,Jiw hR x q,Jm5 hR]
theorem Jpb {r:Room} (hR:Ready r) (p:Int):∀ j,(kinM r p j).length≤j * 24
 | 0=>by simp [kinM]
 | j+1=>by
  have:=Jpb hR p j
  have:=Jrc hR j
  simp only [kinM,List.length_append,Juk]; omega
theorem Jof {r:Room} (hR:Ready r):∀ q,(allM r q).length≤q * 120
 | 0=>by simp [allM]
 | q+1=>by
  have:=Jof hR q
  have:=Jpb hR q 5
  simp only [allM,List.length_append]; omega
theorem Jot {α β:Type} [Inhabited α] [Inhabited β] (f:α→β) (hd:f default=default) (l:List α) (i:Int):nth (l.map f) i=f (nth l i):=by
 unfold nth
 simp only [List.getD_eq_getElem?_getD,List.getElem?_map]
 cases h:l[i.toNat]? with
 | none=>simp [hd]
 | some a=>simp
structure Alike (c r:Room):Prop where
 pls:c.pls.l=r.pls.l
 ths:c.ths.l=r.ths.l
 lprs:c.prs.l.length=r.prs.l.length
 prs:c.prs.l.map Pro.e=r.prs.l.map Pro.e
 pr:∀ i,(nth c.prs.l i).nm=(nth r.prs.l i).nm∧(nth c.prs.l i).pl=(nth r.prs.l i).pl∧(nth c.prs.l i).wh.l=(nth r.prs.l i).wh.l
 lwys:c.wys.l.length=r.wys.l.length
 wy:∀ i,(nth c.wys.l i).a=(nth r.wys.l i).a∧(nth c.wys.l i).b=(nth r.wys.l i).b∧(nth c.wys.l i).wh.l=(nth r.wys.l i).wh.l
 lacs:c.acs.l.length=r.acs.l.length
 acs:c.acs.l.map Actn.e=r.acs.l.map Actn.e
 ac:∀ i,(nth c.acs.l i).e=(nth r.acs.l i).e
 laus:c.aus.l.length=r.aus.l.length
 aus:c.aus.l.map Auto.e=r.aus.l.map Auto.e
 au:∀ i,(nth c.aus.l i).t=(nth r.aus.l i).t∧(nth c.aus.l i).s=(nth r.aus.l i).s∧(nth c.aus.l i).wh.l=(nth r.aus.l i).wh.l
 ply:c.ply=r.ply
 gl:c.gl.l=r.gl.l
theorem Je0 {α:Type} {a b:Sl α} (h:a.e (id:α→α)=b.e id):a.l=b.l:=by
 have:=congrArg Sl.l h
 simpa [Sl.e] using this
theorem Jea {α β:Type} {f:α→β} {a b:Sl α} (h:a.e f=b.e f):a.l.map f=b.l.map f:=congrArg Sl.l h
theorem Jml {α β:Type} [Inhabited α] [Inhabited β] {f:α→β} (hd:f default=default) {l m:List α} (h:l.map f=m.map f) (i:Int):f (nth l i)=f (nth m i):=by
 rw [← Jot f hd, ← Jot f hd,h]
theorem Jeq {c r:Room} (h:c.e=r.e):Alike c r:=by
 have h1:c.pls.e id=r.pls.e id:=congrArg Room.pls h
 have h2:c.ths.e id=r.ths.e id:=congrArg Room.ths h
 have h3:c.prs.e Pro.e=r.prs.e Pro.e:=congrArg Room.prs h
 have h4:c.wys.e Way.e=r.wys.e Way.e:=congrArg Room.wys h
 have h5:c.acs.e Actn.e=r.acs.e Actn.e:=congrArg Room.acs h
 have h6:c.aus.e Auto.e=r.aus.e Auto.e:=congrArg Room.aus h
 have h7:c.gl.e id=r.gl.e id:=congrArg Room.gl h
 refine ⟨Je0 h1,Je0 h2,Je5 (Jea h3),Jea h3,fun i=>?_,Je5 (Jea h4),fun i=>?_,Je5 (Jea h5),Jea h5,fun i=>Jml (f:=Actn.e) rfl (Jea h5) i,Je5 (Jea h6),Jea h6,fun i=>?_,(by have:=congrArg Room.ply h; exact this),Je0 h7⟩
 ·
  have:=Jml (f:=Pro.e) rfl (Jea h3) i
  have a1:=congrArg Pro.nm this
  have a2:=congrArg Pro.pl this
  have a3:=congrArg Pro.wh this
  exact ⟨a1,a2,Je0 a3⟩
 ·
  have:=Jml (f:=Way.e) rfl (Jea h4) i
  have a1:=congrArg Way.a this
  have a2:=congrArg Way.b this
  have a3:=congrArg Way.wh this
  exact ⟨a1,a2,Je0 a3⟩
 have:=Jml (f:=Auto.e) rfl (Jea h6) i
 have a1:=congrArg Auto.t this
 have a2:=congrArg Auto.s this
 have a3:=congrArg Auto.wh this
 exact ⟨a1,a2,Je0 a3⟩
structure AlikeA (a b:Actn):Prop where
 nm:a.nm=b.nm
 pl:a.pl=b.pl
 lk:a.lk=b.lk
 us:a.us.l=b.us.l
 wh:a.wh.l=b.wh.l
 se:a.se.l=b.se.l
 sp:a.sp.l=b.sp.l
 br:a.br.l=b.br.l
theorem Je1 {a b:Actn} (h:a.e=b.e):AlikeA a b:=by
 have a1:=congrArg Actn.nm h
 have a2:=congrArg Actn.pl h
 have a3:=congrArg Actn.lk h
 have a4:=congrArg Actn.us h
 have a5:=congrArg Actn.wh h
 have a6:=congrArg Actn.se h
 have a7:=congrArg Actn.sp h
 have a8:=congrArg Actn.br h
 exact ⟨a1,a2,a3,Je0 a4,Je0 a5,Je0 a6,Je0 a7,Je0 a8⟩
theorem Jo7 {α:Type} [Inhabited α] {f:α→ByteArray} {l m:List α} (h:l.map f=m.map f) (hn:∀ i,f (nth l i)=f (nth m i)) (i:Int):newB f l i=newB f m i:=by
 unfold newB
 have e:∀ (l:List α) (x:ByteArray),((l.take i.toNat).any fun y=>seq (f y) x)=(((l.map f).take i.toNat).any fun y=>seq y x):=fun l x=>by
  rw [← List.map_take,List.any_map]; rfl
 rw [e,e,h,hn]
theorem Jh5 {α β:Type} (f:α→β) (p:α→Bool) (q:β→Bool) (hp:∀ a,p a=q (f a)) (l:List α):idxF p l=idxF q (l.map f):=by
 unfold idxF
 rw [List.findIdx?_map,show (q ∘ f)=p from funext fun a=>(hp a).symm]
theorem Alike.nms {c r:Room} (h:Alike c r):c.prs.l.map Pro.nm=r.prs.l.map Pro.nm:=by
 have:=congrArg (List.map Pro.nm) h.prs
 simpa [List.map_map,Function.comp_def,Pro.e] using this
theorem Alike.anms {c r:Room} (h:Alike c r):c.acs.l.map Actn.nm=r.acs.l.map Actn.nm:=by
 have:=congrArg (List.map Actn.nm) h.acs
 simpa [List.map_map,Function.comp_def,Actn.e] using this
theorem Alike.manyB {c r:Room} (h:Alike c r):manyB c=manyB r:=by unfold Go.Proofs.YtkekjhcmephhjaaGreatDoor.manyB; rw [h.pls,h.ths,h.lprs,h.lwys,h.lacs,h.laus]
theorem Alike.placeB {c r:Room} (h:Alike c r) (n:Int):placeB c n=placeB r n:=by unfold Go.Proofs.YtkekjhcmephhjaaGreatDoor.placeB; rw [h.pls]
theorem Alike.plO {c r:Room} (h:Alike c r):plO c=plO r:=by funext i; unfold Go.Proofs.YtkekjhcmephhjaaGreatDoor.plO; rw [h.pls]
theorem Alike.thO {c r:Room} (h:Alike c r):thO c=thO r:=by funext i; unfold Go.Proofs.YtkekjhcmephhjaaGreatDoor.thO thB; rw [h.ths,h.placeB]
theorem Alike.whO {c r:Room} (h:Alike c r) (l:List Lit):whO c l=whO r l:=by unfold Go.Proofs.YtkekjhcmephhjaaGreatDoor.whO; rw [h.ths]
theorem Alike.prO {c r:Room} (h:Alike c r):prO c=prO r:=by
 funext i
 unfold Go.Proofs.YtkekjhcmephhjaaGreatDoor.prO
 rw [h.whO,Jo7 h.nms (fun i=>(h.pr i).1),(h.pr i).1,(h.pr i).2.1,(h.pr i).2.2,h.placeB]
theorem Alike.wyO {c r:Room} (h:Alike c r):wyO c=wyO r:=by
 funext i
 unfold Go.Proofs.YtkekjhcmephhjaaGreatDoor.wyO
 rw [h.whO,(h.wy i).1,(h.wy i).2.1,(h.wy i).2.2,h.placeB,h.placeB]
theorem Alike.actB {c r:Room} (h:Alike c r) (i:Int):actB c i=actB r i:=by
 have ha:=Je1 (h.ac i)
 unfold Go.Proofs.YtkekjhcmephhjaaGreatDoor.actB act2 act3 act4 act5
 rw [Jo7 h.anms (fun i=>(Je1 (h.ac i)).nm),ha.nm,ha.pl,ha.lk,ha.us,ha.se,ha.sp,ha.br,h.placeB,h.lprs,h.ths]
theorem Alike.acO {c r:Room} (h:Alike c r):acO c=acO r:=by
 funext i
 unfold Go.Proofs.YtkekjhcmephhjaaGreatDoor.acO
 rw [h.whO,h.actB,(Je1 (h.ac i)).wh]
theorem Alike.auO {c r:Room} (h:Alike c r):auO c=auO r:=by
 funext i
 unfold Go.Proofs.YtkekjhcmephhjaaGreatDoor.auO
 rw [h.whO,h.ths,(h.au i).1,(h.au i).2.1,(h.au i).2.2]
theorem Alike.checkE {c r:Room} (h:Alike c r):checkE c=checkE r:=by
 unfold Go.Proofs.YtkekjhcmephhjaaGreatDoor.checkE Jgw Jid Jgg Jgz Jg3 Jgo glO
 rw [h.manyB,h.plO,h.thO,h.prO,h.wyO,h.acO,h.auO,h.whO,h.pls,h.ths,h.lprs,h.lwys,h.lacs,h.laus,h.ply,h.gl]
theorem Alike.stE {c r:Room} (h:Alike c r) (a b d:List Int):stE c a b d=stE r a b d:=by
 have e1:Jjb c a=Jjb r a:=by funext i; unfold Jjb; rw [h.ths]
 have e2:Jja c b=Jja r b:=by funext i; unfold Jja; rw [h.placeB,h.ply]
 have e3:Ji6 c d=Ji6 r d:=by funext i; unfold Ji6; rw [h.placeB]
 unfold Go.Proofs.YtkekjhcmephhjaaGreatDoor.stE
 rw [e1,e2,e3,h.ths,h.lprs,h.ply]
theorem Alike.stL {c r:Room} (h:Alike c r) (x:P3):stL c x=stL r x:=by unfold Go.Proofs.YtkekjhcmephhjaaGreatDoor.stL; rw [h.checkE,h.stE]
theorem Alike.autoI {c r:Room} (h:Alike c r) (ths:List Int):autoI c.aus.l ths=autoI r.aus.l ths:=by
 unfold Go.Proofs.YtkekjhcmephhjaaGreatDoor.autoI
 rw [Jh5 Auto.e _ (fun a=>Jfo ths a.wh.l && !decide (nth ths a.t=a.s)) (fun a=>by simp [Auto.e,Sl.e]),h.aus, ← Jh5 Auto.e (fun a=>Jfo ths a.wh.l && !decide (nth ths a.t=a.s)) _ (fun a=>by simp [Auto.e,Sl.e])]
theorem Alike.settleN {c r:Room} (h:Alike c r):∀ (n:Nat) (ths:List Int),settleN c.aus.l n ths=settleN r.aus.l n ths
 | 0,_=>rfl
 | n+1,ths=>by rw [Go.Proofs.YtkekjhcmephhjaaGreatDoor.settleN,Go.Proofs.YtkekjhcmephhjaaGreatDoor.settleN,h.autoI,(h.au _).1,(h.au _).2.1,Alike.settleN h n]
theorem Alike.settleV {c r:Room} (h:Alike c r) (x:P3):settleV c x=settleV r x:=by unfold Go.Proofs.YtkekjhcmephhjaaGreatDoor.settleV; rw [h.settleN]
theorem Alike.SettleV {c r:Room} (h:Alike c r) (x:P3):SettleV c x=SettleV r x:=by
 unfold Go.Proofs.YtkekjhcmephhjaaGreatDoor.SettleV
 rw [h.stL,h.settleV]
 cases Go.Proofs.YtkekjhcmephhjaaGreatDoor.settleV r x <;> rfl
theorem Alike.BeginV {c r:Room} (h:Alike c r):BeginV c=BeginV r:=by
 have e:Jdf c=Jdf r:=by
  have:=congrArg (List.map Pro.pl) h.prs
  rw [List.map_map,List.map_map] at this
  unfold Jdf
  rw [h.ths,h.ply,show c.prs.l.map Pro.pl=r.prs.l.map Pro.pl from this]
 unfold Go.Proofs.YtkekjhcmephhjaaGreatDoor.BeginV
 rw [h.checkE,e,h.SettleV]
theorem Alike.legalB {c r:Room} (h:Alike c r) (x:P3) (m:Move):legalB c x m=legalB r x m:=by
 have ha:=Je1 (h.ac m.n)
 unfold Go.Proofs.YtkekjhcmephhjaaGreatDoor.legalB goB Jpx Jql doB Jxr Juz Jrp
 rw [h.ply,h.lwys,h.lprs,h.lacs,(h.wy m.n).1,(h.wy m.n).2.1,(h.wy m.n).2.2,(h.pr m.n).2.2,ha.us,ha.br,ha.sp,ha.pl,ha.wh]
theorem Alike.moveX {c r:Room} (h:Alike c r) (x:P3) (m:Move):moveX c x m=moveX r x m:=by
 have ha:=Je1 (h.ac m.n)
 unfold Go.Proofs.YtkekjhcmephhjaaGreatDoor.moveX
 rw [(h.wy m.n).1,(h.wy m.n).2.1,ha.se,ha.sp,ha.br]
theorem Alike.StepV {c r:Room} (h:Alike c r) (x:P3) (m:Move):StepV c x m=StepV r x m:=by
 unfold Go.Proofs.YtkekjhcmephhjaaGreatDoor.StepV
 rw [h.stL,h.legalB,h.moveX,h.settleV]
 cases Go.Proofs.YtkekjhcmephhjaaGreatDoor.settleV r (Go.Proofs.YtkekjhcmephhjaaGreatDoor.moveX r x m) <;> rfl
theorem Alike.LegalV {c r:Room} (h:Alike c r) (x:P3):LegalV c x=LegalV r x:=by
 unfold Go.Proofs.YtkekjhcmephhjaaGreatDoor.LegalV Jx2
 rw [h.stL,h.ply,show Go.Proofs.YtkekjhcmephhjaaGreatDoor.legalB c x=Go.Proofs.YtkekjhcmephhjaaGreatDoor.legalB r x from funext fun m=>h.legalB x m]
theorem Alike.symm {c r:Room} (h:c.e=r.e):Alike r c:=Jeq h.symm
theorem Jya {c r:Room} (h:c.e=r.e) (hn:Near r):Near c:=by
 have ha:=Jeq h
 have hp:=fun i=>(ha.pr i)
 refine ⟨by rw [ha.pls]; exact hn.pls,by rw [ha.ths]; exact hn.ths,by rw [ha.lprs]; exact hn.prs,by rw [ha.lwys]; exact hn.wys,by rw [ha.lacs]; exact hn.acs,by rw [ha.laus]; exact hn.aus,by rw [ha.gl]; exact hn.gl,by rw [ha.pls]; exact hn.pl,by rw [ha.ths]; exact hn.th,fun x hx=>?_,fun x hx=>?_,fun x hx=>?_,fun x hx=>?_⟩
 ·
  obtain ⟨i,h0,h1,rfl⟩:=Ja4 hx
  have:=hn.pr _ (Jak (i:=i) h0 (by rw [← ha.lprs]; exact h1))
  rw [(ha.pr i).1,(ha.pr i).2.2]; exact this
 ·
  obtain ⟨i,h0,h1,rfl⟩:=Ja4 hx
  have:=hn.wy _ (Jak (i:=i) h0 (by rw [← ha.lwys]; exact h1))
  rw [(ha.wy i).2.2]; exact this
 ·
  obtain ⟨i,h0,h1,rfl⟩:=Ja4 hx
  have:=hn.ac _ (Jak (i:=i) h0 (by rw [← ha.lacs]; exact h1))
  have hb:=Je1 (ha.ac i)
  rw [hb.nm,hb.wh,hb.us,hb.se,hb.sp,hb.br]; exact this
 obtain ⟨i,h0,h1,rfl⟩:=Ja4 hx
 have:=hn.au _ (Jak (i:=i) h0 (by rw [← ha.laus]; exact h1))
 rw [(ha.au i).2.2]; exact this
end Go.Proofs.YtkekjhcmephhjaaGreatDoor
namespace Go.Proofs.YtkekjhcmephhjaaGreatDoor
set_option linter.unusedVariables false
set_option linter.unusedSimpArgs false
open Go.RowKit Go.Proofs
section
variable {P:Program} {l:List Value} {d:Option Tmp} {ty:TypeId} {ps:String} {af:Array Edge} {g:Option (Nat × Bool)} {C:World→Prop}
theorem Jaj {T T':TypeId} {x y:Operand} {a b:ByteArray} (hx:evo l x=some (.string a)) (hy:evo l y=some (.string b)) (h:a.size+b.size≤9223372036854775807) :
  Det P C ⟨d,.binOp .add T x y T',ty,ps,af,g⟩ l (.string (a++b)):=fun u _=>by
 (replace hx:=Jan hx; replace hy:=Jan hy)
 have h2:¬ (9223372036854775807 < ((a.size:Nat):Int)+(b.size:Nat)):=by omega
 simp [execOp,Jap,hx,hy,eqGuard,binOp,Op.stringOp,h2]
theorem Jtj {T:TypeId} {x y z:Operand} {a:ByteArray} {i j:Int} (hT:P.underlying T=some .string) (hx:evo l x=some (.string a)) (hy:evo l y=some (.int .i64 i)) (hz:evo l z=some (.int .i64 j))
  (h:0≤i∧i≤j∧j≤a.size):Det P C ⟨d,.slice T x (some y) (some z) none,ty,ps,af,g⟩ l (.string (a.extract i.toNat j.toNat)):=fun u _=>by
 (replace hx:=Jan hx; replace hy:=Jan hy; replace hz:=Jan hz)
 have e1:(0≤j∧j≤(a.size:Int)):=by omega
 have e2:0≤i∧i≤max j 0:=by omega
 simp [execOp,Jap,hx,hy,hz,Instr.sliceAt,Instr.slice,Instr.sliceBounds,Instr.sliceBound,asIntOf,run_underlying hT,e1,e2]
theorem Jqw {T:TypeId} {x y:Operand} {a:ByteArray} {i:Int} (hT:P.underlying T=some .string) (hx:evo l x=some (.string a)) (hy:evo l y=some (.int .i64 i))
  (h:0≤i∧i≤a.size):Det P C ⟨d,.slice T x (some y) none none,ty,ps,af,g⟩ l (.string (a.extract i.toNat a.size)):=fun u _=>by
 (replace hx:=Jan hx; replace hy:=Jan hy)
 simp [execOp,Jap,hx,hy,Instr.sliceAt,Instr.slice,Instr.sliceBounds,Instr.sliceBound,asIntOf,run_underlying hT,h.1,h.2]
end
def digB (n:Int):ByteArray:=⟨(Lib.decDigits n.toNat).toArray⟩
def whP (r:Room) (v:Int):ByteArray:=if 0≤v then nth r.pls.l v else if v ≤ -2 then digB (-2 - v) else ⟨#[103,111,110,101]⟩
def pcT (r:Room) (x:P3) (i:Int):ByteArray:=(nth r.ths.l i).nm++(⟨#[61]⟩:ByteArray)++digB (nth x.1 i)
def pcP (r:Room) (x:P3) (i:Int):ByteArray:=(nth r.prs.l i).nm++(⟨#[64]⟩:ByteArray)++whP r (nth x.2.1 i)
def pcL (r:Room) (x:P3) (i:Int):ByteArray:=digB i++(⟨#[64]⟩:ByteArray)++nth r.pls.l (nth x.2.2 i)
def pcs (r:Room) (x:P3):List ByteArray:=(Jkb r.ths.l.length).map (pcT r x)++(Jkb r.prs.l.length).map (pcP r x)++(Jkb x.2.2.length).map (pcL r x)
def jnB (xs:List ByteArray):ByteArray:=⟨(Lib.join (xs.map (·.data.toList)) [32]).toArray⟩
def catB (xs:List ByteArray):ByteArray:=xs.foldl (fun a p=>a++(⟨#[32]⟩:ByteArray)++p) ⟨#[]⟩
theorem Jl2 {xs:List ByteArray} {p:ByteArray}:catB (xs++[p])=catB xs++(⟨#[32]⟩:ByteArray)++p:=by simp [catB]
theorem Jog:∀ (xs:List ByteArray) (a:ByteArray),(xs.foldl (fun a p=>a++(⟨#[32]⟩:ByteArray)++p) a).data.toList=a.data.toList++Lib.joinTail [32] (xs.map (·.data.toList))
 | [],a=>by simp [Lib.joinTail]
 | x::xs,a=>by
  rw [List.foldl_cons,Jog xs]
  simp [Lib.joinTail,ByteArray.data_append,List.append_assoc]
theorem Jrm (xs:List ByteArray):(catB xs).data.toList=Lib.joinTail [32] (xs.map (·.data.toList)):=by
 unfold catB; rw [Jog]; rfl
structure Shown (r:Room) (x:P3):Prop where
 lt:x.1.length=r.ths.l.length
 lp:x.2.1.length=r.prs.l.length
 ll:1≤x.2.2.length∧x.2.2.length≤4
 th:∀ i:Int,0≤i→i < x.1.length→0≤nth x.1 i∧nth x.1 i < 10
 pr:∀ i:Int,0≤i→i < x.2.1.length→(0≤nth x.2.1 i∧nth x.2.1 i < r.pls.l.length)∨nth x.2.1 i = -1∨(-5≤nth x.2.1 i∧nth x.2.1 i ≤ -2)
 pl:∀ i:Int,0≤i→i < x.2.2.length→0≤nth x.2.2 i∧nth x.2.2 i < r.pls.l.length
theorem Jsj {n:Int} (h : -9223372036854775808≤n∧n≤9223372036854775807):IntKind.i64.wrap n=n:=IntWalk.i64_in _ h
theorem Jjm {r:Room} {x:Thing} (h:thB r x=true):2≤x.st∧x.st≤6:=by
 simp only [thB,Bool.and_eq_true,decide_eq_true_eq] at h
 omega
theorem Shown.of {r:Room} {x:P3} (hR:Ready r) (hI:StIn r x):Shown r x:=by
 have hl:=hI.ll
 have hp:=hR.ply
 refine ⟨hI.lt,hI.lp,by omega,fun i h0 h1=>?_,fun i h0 h1=>?_,fun i h0 h1=>?_⟩
 ·
  have h:=hI.th i h0 h1
  have h2:=Jjm (hR.ths _ (Jak h0 (show i < (r.ths.l.length:Int) by rw [← hI.lt]; exact h1)))
  simp only [putB,Bool.and_eq_true,decide_eq_true_eq] at h
  rw [Jsj (by omega)] at h
  omega
 ·
  have h:=hI.pr i h0 h1
  simp only [placeB,Bool.or_eq_true,Bool.and_eq_true,decide_eq_true_eq] at h
  omega
 have h:=hI.pl i h0 h1
 simp only [placeB,Bool.and_eq_true,decide_eq_true_eq] at h
 omega
section
variable {P:Program} {ro:Option Nat} {n0:Nat} {w0:World} {ds:List Deferred} {ops:Array Oper} {Q:Exit→Act→World→Prop} {L:List SA} {rest:List Oper} {l:List Value} {ty:TypeId} {ps:String} {af:Array Edge}
theorem WS.buildS1 {T e:TypeId} {by_ i:Nat} {x:Operand} {b:ByteArray} {zc:List Value} (hT:sl P T=some (e,1,by_)) (hz:zv P e=some zc) (hx:evo l x=some (.string b))
  {l':Value→List Value} (hl:∀ v,lset l i v=some (l' v)) (kk:∀ v,WS P ro n0 w0 ds ops Q (oT cStr e v [b]::L) rest (l' v)) :
  WS P ro n0 w0 ds ops Q L (⟨some i,.buildSlice T 1 #[(0,x)],ty,ps,af,none⟩::rest) l :=
 WS.buildSlice1 (pl:=[(0,x)]) (vs:=[.string b]) hT hz (by simp [Jan hx]) rfl (by decide) (fun v hv=>by simp at hv; subst hv; rfl) hl kk
end
theorem Jqg {w:World} {s:Sl ByteArray} (hk:SlT cStr w s) (hp:0 < s.l.length):∃ b o c,s.v = .slice (some ⟨b,o,none⟩) s.l.length c∧s.l.length≤c∧b < w.heap.size∧∀ (j:Nat) x,s.l[j]? = some x→w.cell? ⟨b,o+j,none⟩=some (.string x):=by
 obtain ⟨hl,p,cap,e,hc,h0 | ⟨b,o,rfl,h⟩⟩:=hk.sp
 ·
  omega
 have h1:∀ (j:Nat) x,s.l[j]? = some x→w.cell? ⟨b,o+j,none⟩=some (.string x):=fun j x hx=>by
  have hj:=(List.getElem?_eq_some_iff.1 hx).1
  have h2:=Jco cStr (l:=s.l) (i:=(j:Int)) (by omega) (by omega) 0 (by decide)
  rw [show cStr.k=1 from rfl,Nat.mul_one,Nat.add_zero,show ((j:Int)).toNat=j by omega] at h2
  refine h j (.string x) ?_
  rw [h2]
  have e2:nth s.l (j:Int)=x:=by simp [nth,List.getD,hx]
  rw [e2]; rfl
 refine ⟨b,o,cap,e,hc.1,?_,h1⟩
 obtain ⟨x,hx⟩:∃ x,s.l[0]? = some x:=⟨s.l[0],List.getElem?_eq_getElem hp⟩
 exact World.block_lt_of_cell? w _ (h1 0 x hx)
theorem Jev (sep:List UInt8):∀ (xs:List (List UInt8)) (n:Nat),(∀ x∈xs,x.length≤n)→(Lib.joinTail sep xs).length≤(n+sep.length) * xs.length
 | [],n,_=>by simp [Lib.joinTail]
 | x::xs,n,h=>by
  have h1:=Jev sep xs n fun y hy=>h y (List.mem_cons_of_mem _ hy)
  have h2:=h x (List.mem_cons_self ..)
  have e:Lib.joinTail sep (x::xs)=sep++x++Lib.joinTail sep xs:=by simp [Lib.joinTail]
  rw [e]
  simp only [List.length_append,List.length_cons,Nat.mul_succ]
  omega
theorem Jn9 {xs:List ByteArray} {n:Nat} (h:∀ x∈xs,x.size≤n):(Lib.join (xs.map (·.data.toList)) [32]).length≤(n+1) * xs.length:=by
 cases xs with
 | nil=>simp [Lib.join]
 | cons x r =>
  have h0:=Jev [32] ((x::r).map (·.data.toList)) n (fun y hy=>by
   obtain ⟨z,hz,rfl⟩:=List.mem_map.1 hy
   simpa using h z hz)
  have e:Lib.joinTail [32] ((x::r).map (·.data.toList))=32::Lib.join ((x::r).map (·.data.toList)) [32]:=by
   rw [List.map_cons,Lib.join_cons]; simp [Lib.joinTail]
  rw [e] at h0
  simp only [List.length_cons,List.length_map,List.length_nil,Nat.zero_add] at h0 ⊢
  omega
abbrev bl (t:ByteArray):List UInt8:=t.data.toList
abbrev ba (l:List UInt8):ByteArray:=⟨l.toArray⟩
theorem Jze (t:ByteArray):ba (bl t)=t:=rfl
theorem Jbj (t:ByteArray):(bl t).length=t.size:=by simp
theorem Jit {a b:ByteArray}:seq a b=true ↔ a=b:=Lib.bytes_beq_iff a b
theorem Jio {t:ByteArray} {i:Nat} (h:i < t.size):byt t (i:Int)=(((bl t)[i]'(by rw [Jbj]; exact h)).toNat:Int):=by
 unfold byt
 rw [show ((i:Int)).toNat=i by omega]
 have e:t[i]? = some (t[i]'h):=by simp [h]
 rw [e]
 rfl
def Jbs (c:UInt8):List UInt8→List (List UInt8)
 | []=>[[]]
 | b::r=>if b=c then []::Jbs c r else match Jbs c r with
  | x::xs=>(b::x)::xs
  | []=>[[b]]
theorem Jqf (c:UInt8):∀ l,0 < (Jbs c l).length
 | []=>by simp [Jbs]
 | b::r=>by
  unfold Jbs
  split
  ·
   simp
  split <;> simp
theorem Jee {c:UInt8}:∀ {l:List UInt8},c ∉ l→Jbs c l=[l]
 | [],_=>rfl
 | b::r,h=>by
  have h1:¬ b=c:=fun e=>h (by simp [e])
  have h2:c ∉ r:=fun e=>h (by simp [e])
  unfold Jbs
  rw [if_neg h1,Jee h2]
theorem Jfk {c:UInt8}:∀ {l m:List UInt8},c ∉ l→Jbs c (l++c::m)=l::Jbs c m
 | [],m,_=>by simp [Jbs]
 | b::r,m,h=>by
  have h1:¬ b=c:=fun e=>h (by simp [e])
  have h2:c ∉ r:=fun e=>h (by simp [e])
  rw [List.cons_append,Jbs,if_neg h1,Jfk h2]
def Jao (c:UInt8) (t:ByteArray):List ByteArray:=(Jbs c (bl t)).map ba
theorem Jjn (c:UInt8) (t:ByteArray):0 < (Jao c t).length:=by simp [Jao,Jqf]
theorem Jjp (c:UInt8):∀ l:List UInt8,Lib.splitK [c] 0 (Lib.count l [c]) l=Jbs c l
 | []=>by rw [Lib.count_one]; rfl
 | b::r=>by
  have ih:=Jjp c r
  by_cases h:b=c
  ·
   subst h
   rw [Lib.count_cons_eq,Nat.add_comm]
   unfold Lib.splitK Jbs
   have hi:Lib.index (b::r) [b]=0:=by rw [Lib.index]; simp [List.isPrefixOf]
   rw [hi,if_neg (by decide),if_pos rfl]
   simp [ih]
  rw [Lib.count_cons_ne _ _ _ h]
  have hp:([c]:List UInt8).isPrefixOf (b::r)=false:=by simp [List.isPrefixOf,Ne.symm h]
  have hi:Lib.index (b::r) [c]=if Lib.index r [c] == -1 then -1 else Lib.index r [c]+1:=by rw [Lib.index,hp]; simp
  unfold Jbs
  rw [if_neg h, ← ih]
  cases hk:Lib.count r [c] with
  | zero=>rfl
  | succ k =>
   have hne:¬ Lib.index r [c] = -1:=fun e=>by rw [Lib.count_miss e] at hk; cases hk
   have hge:=Lib.index_ge r [c]
   unfold Lib.splitK
   rw [hi,if_neg (show ¬ (Lib.index r [c] == -1)=true by simpa using hne),if_neg (show ¬ (Lib.index r [c]+1 == -1)=true by simp; omega)]
   have e1:(Lib.index r [c]+1).toNat=(Lib.index r [c]).toNat+1:=by omega
   simp only [e1,Nat.add_zero,List.take_succ_cons,List.length_cons,List.length_nil,Nat.zero_add,List.drop_succ_cons]
   rw [if_neg (show ¬ (Lib.index r [c] == -1)=true by simpa using hne)]
theorem Jjs (c:UInt8) (s:ByteArray):Lib.splitB ⟨#[c]⟩ 0 (Lib.countB s ⟨#[c]⟩) s=Jao c s:=by
 have h:=Lib.splitB_data ⟨#[c]⟩ 0 (Lib.countB s ⟨#[c]⟩) s
 have h2:Lib.splitK [c] 0 (Lib.count (bl s) [c]) (bl s)=Jbs c (bl s):=Jjp c (bl s)
 have h3:(Lib.splitB ⟨#[c]⟩ 0 (Lib.countB s ⟨#[c]⟩) s).map bl=Jbs c (bl s):=h.trans h2
 unfold Jao
 rw [← h3,List.map_map]
 conv=>lhs; rw [← List.map_id (Lib.splitB ⟨#[c]⟩ 0 (Lib.countB s ⟨#[c]⟩) s)]
 rfl
theorem Jqq (c:UInt8) (s:ByteArray):Lib.countB s ⟨#[c]⟩+1=(Jao c s).length:=by
 rw [← Jjs,Lib.splitB_all ⟨#[c]⟩ (show 1≤1 by decide) 0 _ _ rfl]
def SplitI (c:UInt8) (t:ByteArray) (i f:Int) (xs:List ByteArray):Prop :=
 (0≤f∧f≤i∧i≤t.size∧c ∉ ((bl t).drop f.toNat).take (i.toNat - f.toNat)∧xs++(Jbs c ((bl t).drop f.toNat)).map ba=Jao c t)∨(i=t.size+1∧xs=Jao c t)
theorem SplitI.start (c:UInt8) (t:ByteArray):SplitI c t 0 0 []:=.inl ⟨by omega,by omega,by omega,by simp,by simp [Jao]⟩
theorem Juw {t:ByteArray} {a b:Nat}:t.extract a b=ba (((bl t).drop a).take (b - a)):=by
 apply ByteArray.ext
 apply Array.toList_inj.1
 show _=(((bl t).drop a).take (b - a))
 rw [ByteArray.data_extract,Array.toList_extract]
theorem SplitI.other {c:UInt8} {t:ByteArray} {i f:Int} {xs:List ByteArray} (h:SplitI c t i f xs) (hi:i < t.size) (hb:¬ byt t i=(c.toNat:Int)):SplitI c t (i+1) f xs:=by
 rcases h with ⟨h0,h1,h2,h3,h4⟩ | ⟨h1,_⟩
 ·
  refine .inl ⟨h0,by omega,by omega,?_,h4⟩
  rw [show (i+1).toNat - f.toNat=(i.toNat - f.toNat)+1 by omega]
  have hl:i.toNat - f.toNat < ((bl t).drop f.toNat).length:=by rw [List.length_drop,Jbj]; omega
  rw [List.take_succ_eq_append_getElem hl,List.mem_append,not_or]
  refine ⟨h3,fun hm=>hb ?_⟩
  rw [List.mem_singleton,List.getElem_drop] at hm
  have e:=Jio (t:=t) (i:=i.toNat) (by omega)
  rw [show ((i.toNat:Nat):Int)=i by omega] at e
  rw [e,hm]
  congr 2
  congr 1
  omega
 omega
theorem SplitI.last {c:UInt8} {t:ByteArray} {i f:Int} {xs:List ByteArray} (h:SplitI c t i f xs) (hi:i=t.size):SplitI c t (i+1) (i+1) (xs++[t.extract f.toNat i.toNat]):=by
 rcases h with ⟨h0,h1,h2,h3,h4⟩ | ⟨h1,_⟩
 ·
  refine .inr ⟨by omega,?_⟩
  have e:((bl t).drop f.toNat).take (i.toNat - f.toNat)=(bl t).drop f.toNat:=List.take_of_length_le (by rw [List.length_drop,Jbj]; omega)
  rw [e] at h3
  rw [← h4,Jee h3,Juw,e]
  rfl
 omega
theorem SplitI.fin {c:UInt8} {t:ByteArray} {i f:Int} {xs:List ByteArray} (h:SplitI c t i f xs) (hi:¬ i≤t.size):xs=Jao c t:=by
 rcases h with ⟨h0,h1,h2,h3,h4⟩ | ⟨h1,h2⟩
 ·
  omega
 exact h2
theorem Jj2 (c:UInt8):∀ l:List UInt8,(Jbs c l).length≤l.length+1
 | []=>by simp [Jbs]
 | b::r=>by
  have ih:=Jj2 c r
  unfold Jbs
  split
  ·
   simp; omega
  split
  ·
   rename_i x xs h
   rw [h] at ih
   simp at ih ⊢; omega
  simp
theorem Jhf (c:UInt8) (t:ByteArray):(Jao c t).length≤t.size+1:=by
 have:=Jj2 c (bl t)
 simp only [Jao,List.length_map]
 rw [Jbj] at this
 exact this
theorem SplitI.len {c:UInt8} {t:ByteArray} {i f:Int} {xs:List ByteArray} (h:SplitI c t i f xs):xs.length≤t.size+1:=by
 have hl:=Jhf c t
 rcases h with ⟨_,_,_,_,h4⟩ | ⟨_,h2⟩
 ·
  have:=congrArg List.length h4
  rw [List.length_append] at this
  omega
 rw [h2]; exact hl
theorem Jlm (c:UInt8):∀ (l x:List UInt8),x∈Jbs c l→x.length≤l.length
 | [],x,h=>by simp [Jbs] at h; subst h; simp
 | b::r,x,h=>by
  have ih:=Jlm c r
  unfold Jbs at h
  split at h
  ·
   rcases List.mem_cons.1 h with rfl | h
   ·
    simp
   have:=ih x h; simp; omega
  split at h
  ·
   rename_i y ys hs
   rw [hs] at ih
   rcases List.mem_cons.1 h with rfl | h
   ·
    have:=ih y (by simp); simp; omega
   have:=ih x (by simp [h]); simp; omega
  rcases List.mem_cons.1 h with rfl | h
  ·
   simp
  cases h
theorem Jlh {c:UInt8} {t x:ByteArray} (h:x∈Jao c t):x.size≤t.size:=by
 obtain ⟨l,hl,rfl⟩:=List.mem_map.1 h
 have:=Jlm c _ _ hl
 rw [Jbj] at this
 exact this
def Jd6 (l:List UInt8):Bool:=l.all fun b=>decide (48≤b.toNat) && decide (b.toNat≤57)
def Jb4 (t:ByteArray) (most:Int):Bool:=(decide ((1:Int)≤t.size) && decide ((t.size:Int)≤most)) && Jd6 (bl t)
def decL:List UInt8:=[48,49,50,51,52,53,54,55,56,57]
theorem Jsk (b:UInt8):decL.contains b=(decide (48≤b.toNat) && decide (b.toNat≤57)):=by
 have h:∀ n:Nat,n < 256→∀ m:Nat,m < 256→(UInt8.ofNat n=UInt8.ofNat m ↔ n=m):=fun n hn m hm=>by
  rw [← UInt8.toNat_inj]; simp [Nat.mod_eq_of_lt hn,Nat.mod_eq_of_lt hm]
 rw [Bool.eq_iff_iff]
 simp only [decL,List.contains_cons,List.contains_nil,Bool.or_false,Bool.or_eq_true,beq_iff_eq,Bool.and_eq_true,decide_eq_true_eq, ← UInt8.toNat_inj]
 have:=b.toNat_lt
 have e:(48:UInt8).toNat=48∧(49:UInt8).toNat=49∧(50:UInt8).toNat=50∧(51:UInt8).toNat=51∧(52:UInt8).toNat=52∧(53:UInt8).toNat=53∧(54:UInt8).toNat=54∧(55:UInt8).toNat=55∧(56:UInt8).toNat=56∧(57:UInt8).toNat=57:=by decide
 omega
theorem Jh7 {p:UInt8→Bool}:∀ {l:List UInt8},l.dropWhile p=[] ↔ l.all p=true
 | []=>by simp
 | b::r=>by
  rw [List.dropWhile_cons]
  split
  ·
   rename_i h; rw [Jh7,List.all_cons,h,Bool.true_and]
  rename_i h; simp [h]
theorem Jwt (l:List UInt8):(Lib.trimS l decL=[]) ↔ Jd6 l=true:=by
 have e:∀ m:List UInt8,(m.all fun b=>decL.contains b)=Jd6 m:=fun m=>by
  unfold Jd6
  congr 1
  funext b
  exact Jsk b
 unfold Lib.trimS Lib.trimLeftS Lib.trimRightS
 rw [Jh7,List.all_reverse,e]
 constructor
 ·
  intro h
  by_cases hd:l.reverse.dropWhile (fun b=>decL.contains b)=[]
  ·
   rw [Jh7,List.all_reverse,e] at hd; exact hd
  exfalso
  have h1:=List.head_dropWhile_not (fun b=>decL.contains b) hd
  have h2:(l.reverse.dropWhile fun b=>decL.contains b).head hd∈l.reverse.dropWhile fun b=>decL.contains b:=List.head_mem hd
  have h3:=List.all_eq_true.1 h _ h2
  rw [Jsk] at h1
  rw [h3] at h1
  cases h1
 intro h
 have:l.reverse.dropWhile (fun b=>decL.contains b)=[]:=by rw [Jh7,List.all_reverse,e]; exact h
 rw [this]; rfl
theorem Jwh (t:ByteArray):seq ⟨(Lib.trimS (bl t) decL).toArray⟩ ⟨#[]⟩=Jd6 (bl t):=by
 rw [Bool.eq_iff_iff,Jit, ← Jwt]
 constructor
 ·
  intro h
  have:=congrArg (fun x:ByteArray=>x.data.toList) h
  simpa using this
 intro h; rw [h]
def numL (l:List UInt8):Int:=l.foldl (fun n b=>10 * n+((b.toNat:Int) - 48)) 0
def numB (most:Int) (t:ByteArray):Option Int:=if Jb4 t most && !(decide (byt t 0=48) && decide ((1:Int) < t.size)) then some (numL (bl t)) else none
theorem Jpt:∀ (l:List UInt8) (acc:Nat),Jd6 l=true→∃ n:Nat,Lib.decFrom acc l=some n∧(n:Int)=l.foldl (fun n b=>10 * n+((b.toNat:Int) - 48)) (acc:Int)
 | [],acc,_=>⟨acc,rfl,rfl⟩
 | b::r,acc,h=>by
  simp only [Jd6,List.all_cons,Bool.and_eq_true,decide_eq_true_eq] at h
  have hd:Lib.digitVal b=some (b.toNat - 48):=by unfold Lib.digitVal; rw [if_pos h.1]
  obtain ⟨n,h1,h2⟩:=Jpt r (acc * 10+(b.toNat - 48)) (by simpa [Jd6] using h.2)
  refine ⟨n,by unfold Lib.decFrom; rw [hd]; exact h1,?_⟩
  rw [h2,List.foldl_cons]
  congr 1
  omega
theorem Jvt {t:ByteArray} {most:Int} (h:Jb4 t most=true):Lib.atoi (bl t)=some (numL (bl t)):=by
 simp only [Jb4,Bool.and_eq_true,decide_eq_true_eq] at h
 have hne:bl t≠[]:=fun e=>by have:=Jbj t; rw [e] at this; simp at this; omega
 obtain ⟨n,h1,h2⟩:=Jpt (bl t) 0 h.2
 cases hb:bl t with
 | nil=>exact absurd hb hne
 | cons b r =>
  rw [hb] at h1 h2
  have hd:=h.2
  rw [hb] at hd
  simp only [Jd6,List.all_cons,Bool.and_eq_true,decide_eq_true_eq] at hd
  have e1:(b == 45)=false:=by
   rw [beq_eq_false_iff_ne]; rintro rfl
   have:(45:UInt8).toNat=45:=by decide
   omega
  have e2:(b == 43)=false:=by
   rw [beq_eq_false_iff_ne]; rintro rfl
   have:(43:UInt8).toNat=43:=by decide
   omega
  simp only [Lib.atoi,e1,e2,Bool.false_eq_true,if_false,Lib.decNat,List.isEmpty_cons,h1,Option.map_some]
  rw [h2]; rfl
theorem Jr1 (l:List UInt8) (b:UInt8):numL (l++[b])=10 * numL l+((b.toNat:Int) - 48):=by simp [numL]
theorem Jyb {t:ByteArray} {m:Int} (h:Jb4 t m=true):(0:Int) < t.size∧(t.size:Int)≤m:=by
 simp only [Jb4,Bool.and_eq_true,decide_eq_true_eq] at h
 omega
theorem Jx8 {t:ByteArray} {m:Int} (h:Jb4 t m=false∨byt t 0=48∧(1:Int) < t.size):numB m t=none:=by
 unfold numB
 rcases h with h | h
 ·
  rw [h]; rfl
 rw [if_neg]; simp [h.1,h.2]
theorem Jr2 {t:ByteArray} {m:Int} (h:Jb4 t m=true) (h2:byt t 0=48→¬ (1:Int) < t.size):numB m t=some (numL (bl t)):=by
 unfold numB
 rw [if_pos]
 simp only [h,Bool.true_and,Bool.not_eq_true',Bool.and_eq_false_iff,decide_eq_false_iff_not]
 by_cases hb:byt t 0=48
 ·
  exact .inr (h2 hb)
 exact .inl hb
theorem Joj {t:ByteArray} (h:byt t 0=48) (h1:(0:Int) < t.size):seq t ⟨#[48]⟩ = !decide ((1:Int) < t.size):=by
 rw [Bool.eq_iff_iff,Jit]
 simp only [Bool.not_eq_true',decide_eq_false_iff_not]
 constructor
 ·
  rintro rfl; decide
 intro h2
 have hl:(bl t).length=1:=by rw [Jbj]; omega
 obtain ⟨b,hb⟩:=List.length_eq_one_iff.1 hl
 have e:=Jio (t:=t) (i:=0) (by omega)
 have e2:(bl t)[0]'(by omega)=b:=by simp [hb]
 rw [e2] at e
 have h5:(48:UInt8).toNat=48:=by decide
 have h4:byt t ((0:Nat):Int)=48:=h
 have e3:b=48:=UInt8.toNat_inj.1 (by omega)
 subst e3
 rw [← Jze t,hb]
theorem Jk0 {α:Type} (l:List α):(l.drop 1).take (l.length - 1)=l.tail:=by
 rw [List.take_of_length_le (by simp),List.drop_one]
theorem St.roCut {α:Type} {C:Cel α} {n0:Nat} {w0 u:World} {L:List SA} {s:Sl α} {lo hi:Nat} (h:St n0 w0 (roT C s::L) u) (h0:lo≤hi) (h1:hi≤s.l.length):St n0 w0 (roT C (s.cut C.k lo hi)::L) u :=
 St.toRo (A:=roT C s) (p:=fun u=>SlT C u (s.cut C.k lo hi)) (fun S u h=>(roS.now h).cut h0 h1) h
abbrev Wds:=List ByteArray
def resB (t:ByteArray):Bool:=wordL.any fun x=>seq x t
def isW (t:ByteArray) (ws:Wds):Bool:=match ws with
 | x::_=>seq x t
 | []=>false
def Jec (ws:Wds):Option (ByteArray × Wds):=match ws with
 | t::r=>some (t,r)
 | []=>none
def Jfn (ws:Wds):Option (ByteArray × Wds):=(Jec ws).bind fun x=>if Ja7 x.1 then some x else none
def idxN {α:Type} (f:α→ByteArray) (l:List α) (t:ByteArray):Int:=idxF (fun x=>seq (f x) t) l
def Jcb {α:Type} (f:α→ByteArray) (l:List α) (ws:Wds):Option (Int × Wds):=(Jfn ws).bind fun x=>if 0≤idxN f l x.1 then some (idxN f l x.1,x.2) else none
def numW (m:Int) (ws:Wds):Option (Int × Wds):=(Jec ws).bind fun x=>(numB m x.1).map fun n=>(n,x.2)
def Jke (t:ByteArray) (ws:Wds):Option Wds:=if isW t ws then some ws.tail else none
def Jdv:List UInt8→Nat
 | []=>0
 | b::r=>if b=61∨b=33 then 0 else Jdv r+1
def Jbn (t:ByteArray):Nat:=Jdv (bl t)
def litT (ths:List Thing) (t:ByteArray):Option Lit :=
 if Jbn t < t.size∧Ja7 (t.extract 0 (Jbn t))=true∧0≤idxN Thing.nm ths (t.extract 0 (Jbn t)) then
  (numB 2 (t.extract (Jbn t+1) t.size)).map fun n=>⟨idxN Thing.nm ths (t.extract 0 (Jbn t)),n,decide (byt t (Jbn t)=33)⟩
 else none
def Jcr (ths:List Thing):Wds→Option (List Lit × Wds)
 | []=>some ([],[])
 | t::r=>if resB t then some ([],t::r) else match litT ths t,Jcr ths r with
  | some a,some (c,r')=>some (a::c,r')
  | _,_=>none
def ifW:ByteArray:=⟨#[105,102]⟩
def Jhw (ths:List Thing) (ws:Wds):Option (List Lit × Wds) :=
 if isW ifW ws then (Jcr ths ws.tail).bind fun x=>if x.1=[] then none else some x else some ([],ws)
def Jbw (prs:List Pro):Wds→Option (List Int × Wds)
 | []=>some ([],[])
 | t::r=>if resB t then some ([],t::r) else if Ja7 t=true∧0≤idxN Pro.nm prs t then match Jbw prs r with
  | some (c,r')=>some (idxN Pro.nm prs t::c,r')
  | none=>none
  else none
def Jer (prs:List Pro) (word:ByteArray) (ws:Wds):Option (List Int × Wds) :=
 if isW word ws then (Jbw prs ws.tail).bind fun x=>if x.1=[] then none else some x else some ([],ws)
def Jfw:List Lit→Option (List Put)
 | []=>some []
 | a::c=>if a.nt then none else (Jfw c).map fun r=>⟨a.t,a.s⟩::r
def Jks (ths:List Thing) (ws:Wds):Option (List Put × Wds) :=
 if isW ⟨#[115,101,116,115]⟩ ws then (Jcr ths ws.tail).bind fun x=>(Jfw x.1).bind fun p=>if p=[] then none else some (p,x.2) else some ([],ws)
inductive Ln where
 | place (nm:ByteArray)
 | thing (x:Thing)
 | prop (nm:ByteArray) (pl:Int) (wh:List Lit)
 | way (a b:Int) (wh:List Lit)
 | act (nm:ByteArray) (pl lk:Int) (us:List Int) (wh:List Lit) (se:List Put) (sp br:List Int)
 | auto (t s:Int) (wh:List Lit)
 | players (n:Int)
 | goal (c:List Lit)
def kindsL:List ByteArray:=[⟨#[112,108,97,99,101]⟩,⟨#[116,104,105,110,103]⟩,⟨#[112,114,111,112]⟩,⟨#[119,97,121]⟩,⟨#[97,99,116]⟩,⟨#[97,117,116,111]⟩,⟨#[112,108,97,121,101,114,115]⟩,⟨#[103,111,97,108]⟩]
def Jft (t:ByteArray):Int:=idxN id kindsL t
def atW:ByteArray:=⟨#[97,116]⟩
def Jf7:ByteArray:=⟨#[115,116,97,116,101,115]⟩
def Jii:ByteArray:=⟨#[115,116,97,114,116]⟩
def Jhc:ByteArray:=⟨#[103,111,110,101]⟩
def Ji8:ByteArray:=⟨#[108,111,99,107]⟩
def Jfa:ByteArray:=⟨#[119,105,116,104]⟩
def Jb0:ByteArray:=⟨#[115,112,101,110,100,115]⟩
def Jbu:ByteArray:=⟨#[98,114,105,110,103,115]⟩
def Jdl (r:Room) (ws:Wds):Option (Ln × Wds) :=
 (Jfn ws).bind fun n=>(Jke atW n.2).bind fun w1=>(Jcb id r.pls.l w1).bind fun p=>(Jke Jf7 p.2).bind fun w2=>(numW 2 w2).bind fun s=>(Jke Jii s.2).bind fun w3=>(numW 2 w3).map fun t=>(.thing ⟨n.1,p.1,s.1,t.1⟩,t.2)
def Jg4 (r:Room) (ws:Wds):Option (Int × Wds):=if isW Jhc ws then some (-1,ws.tail) else (Jke atW ws).bind fun w1=>Jcb id r.pls.l w1
def Jje (r:Room) (ws:Wds):Option (Ln × Wds) :=
 (Jfn ws).bind fun n=>(Jg4 r n.2).bind fun p=>(Jhw r.ths.l p.2).map fun c=>(.prop n.1 p.1 c.1,c.2)
def wayW (r:Room) (ws:Wds):Option (Ln × Wds) :=
 (Jcb id r.pls.l ws).bind fun a=>(Jcb id r.pls.l a.2).bind fun b=>(Jhw r.ths.l b.2).map fun c=>(.way a.1 b.1 c.1,c.2)
def Jew (ws:Wds):Option (Int × Wds):=if isW Ji8 ws then numW 2 ws.tail else some (-1,ws)
def actW (r:Room) (ws:Wds):Option (Ln × Wds) :=
 (Jfn ws).bind fun n=>(Jke atW n.2).bind fun w1=>(Jcb id r.pls.l w1).bind fun p=>(Jew p.2).bind fun k=>(Jer r.prs.l Jfa k.2).bind fun u=>(Jhw r.ths.l u.2).bind fun c=>(Jks r.ths.l c.2).bind fun s =>
  (Jer r.prs.l Jb0 s.2).bind fun x=>(Jer r.prs.l Jbu x.2).map fun y=>(.act n.1 p.1 k.1 u.1 c.1 s.1 x.1 y.1,y.2)
def Jjf (r:Room) (ws:Wds):Option (Ln × Wds) :=
 (Jec ws).bind fun t=>(litT r.ths.l t.1).bind fun a=>if a.nt then none else (Jhw r.ths.l t.2).map fun c=>(.auto a.t a.s c.1,c.2)
def Jhz (ws:Wds):Option (Ln × Wds):=(numW 2 ws).map fun n=>(.players n.1,n.2)
def Jw8 (r:Room) (ws:Wds):Option (Ln × Wds):=(Jcr r.ths.l ws).map fun c=>(.goal c.1,c.2)
def Ja3 (r:Room) (k:Int) (ws:Wds):Option (Ln × Wds) :=
 if k=0 then (Jfn ws).map fun n=>(.place n.1,n.2) else if k=1 then Jdl r ws else if k=2 then Jje r ws else if k=3 then wayW r ws else if k=4 then actW r ws else if k=5 then Jjf r ws
 else if k=6 then Jhz ws else Jw8 r ws
def mayK (kd k:Int):Bool:=decide (kd≤k) && (!(decide (6≤kd) && !decide (k=kd+1)) && (decide (k < 7) || decide (kd=6)))
def Jcd (r:Room) (kd:Int) (t:ByteArray):Option (Int × Ln) :=
 (Jec (Jao 32 t)).bind fun h=>if mayK kd (Jft h.1) then (Ja3 r (Jft h.1) h.2).bind fun x=>if x.2=[] then some (Jft h.1,x.1) else none else none
def nls {α:Type} (l:List α):Sl α:=⟨.slice none 0 0,l⟩
def addL (r:Room):Ln→Room
 | .place nm=>{ r with pls:=nls (r.pls.l++[nm]) }
 | .thing x=>{ r with ths:=nls (r.ths.l++[x]) }
 | .prop nm pl wh=>{ r with prs:=nls (r.prs.l++[⟨nm,pl,nls wh⟩]) }
 | .way a b wh=>{ r with wys:=nls (r.wys.l++[⟨a,b,nls wh⟩]) }
 | .act nm pl lk us wh se sp br=>{ r with acs:=nls (r.acs.l++[⟨nm,pl,lk,nls us,nls wh,nls se,nls sp,nls br⟩]) }
 | .auto t s wh=>{ r with aus:=nls (r.aus.l++[⟨nls wh,t,s⟩]) }
 | .players n=>{ r with ply:=n }
 | .goal c=>{ r with gl:=nls c }
def room0:Room:=⟨nls [],nls [],nls [],nls [],nls [],nls [],0,nls []⟩
def Jdg:Room→Int→List ByteArray→Option (Room × Int)
 | r,kd,[]=>some (r,kd)
 | r,kd,t::ts=>match Jcd r kd t with
  | some (k,x)=>Jdg (addL r x) k ts
  | none=>none
end Go.Proofs.YtkekjhcmephhjaaGreatDoor
namespace Go.Proofs.YtkekjhcmephhjaaGreatDoor
set_option linter.unusedVariables false
set_option linter.unusedSimpArgs false
open Go.RowKit
def agf (P:Program) (f:Field):Option (Nat × Nat) :=
 if f.name == "_" then none else if P.plainKey f.type then
  match P.underlying f.type with
  | some (.int _)=>some (f.offset,0)
  | some .bool=>some (f.offset,1)
  | some .string=>some (f.offset,2)
  | _=>none
 else none
def agl (P:Program):List Field→Option (List (Nat × Nat))
 | []=>some []
 | f::fs=>match agf P f,agl P fs with
  | some a,some r=>some (a::r)
  | _,_=>none
def agq (P:Program) (T:TypeId):Option (List (Nat × Nat)) :=
 match P.underlying T with
 | some (.struct fs)=>if P.stoodInHeld T || P.eqGuardType P.depth T then none else agl P fs.toList
 | _=>none
def cmp1:Nat→Option Value→Option Value→Option Bool
 | 0,some (.int .i64 a),some (.int .i64 b)=>some (decide (a=b))
 | 1,some (.bool a),some (.bool b)=>some (a == b)
 | 2,some (.string a),some (.string b)=>some (seq a b)
 | _,_,_=>none
def cmps (xs ys:List Value):List (Nat × Nat)→Option Bool
 | []=>some true
 | (o,k)::sp=>match cmp1 k xs[o]? ys[o]?,cmps xs ys sp with
  | some a,some r=>some (a && r)
  | _,_=>none
section
variable {P:Program}
theorem Jyy {w:World} {f:Field} {o k:Nat} {xs ys:List Value} {b:Bool} {d:Nat} (hf:agf P f=some (o,k)) (hb:cmp1 k xs[o]? ys[o]? = some b) :
  f.name ≠ "_" ∧ ∃ x y,(Go.part f.type xs.toArray f.offset).run P w = .ok x w∧(Go.part f.type ys.toArray f.offset).run P w = .ok y w∧(Op.equalIn (d+1) f.type x y).run P w = .ok b w:=by
 unfold agf at hf
 split at hf
 ·
  cases hf
 rename_i hn
 refine ⟨by simpa using hn,?_⟩
 split at hf
 ·
  rename_i hp
  split at hf
  ·
   rename_i k' hu
   cases hf
   unfold cmp1 at hb
   split at hb <;> first | cases hb | skip
   ·
    rename_i a b' _ hx hy
    refine ⟨_,_,run_part_plain w hp (by simpa using hx),run_part_plain w hp (by simpa using hy),?_⟩
    rw [run_equalIn_int w d f.type .i64 k' a b' hu]
    by_cases h:a=b' <;> simp [h]
   all_goals simp_all
  ·
   rename_i hu
   cases hf
   unfold cmp1 at hb
   split at hb <;> first | cases hb | skip
   ·
    simp_all
   ·
    rename_i a b' _ hx hy
    refine ⟨_,_,run_part_plain w hp (by simpa using hx),run_part_plain w hp (by simpa using hy),?_⟩
    exact run_equalIn_bool' w d f.type a b' hu
   all_goals simp_all
  ·
   rename_i hu
   cases hf
   unfold cmp1 at hb
   split at hb <;> first | cases hb | skip
   ·
    simp_all
   ·
    simp_all
   rename_i a b' _ hx hy
   refine ⟨_,_,run_part_plain w hp (by simpa using hx),run_part_plain w hp (by simpa using hy),?_⟩
   exact run_equalIn_string w d f.type a b' hu
  cases hf
 cases hf
theorem Jtv {w:World} {xs ys:List Value} {d:Nat}:∀ {fs:List Field} {sp:List (Nat × Nat)} {b:Bool},agl P fs=some sp→cmps xs ys sp=some b→(Op.eqFields (d+1) xs.toArray ys.toArray fs).run P w = .ok b w
 | [],sp,b,h,hb=>by
  simp [agl] at h; subst h
  simp [cmps] at hb; subst hb
  simp [Op.eqFields]
 | f::fs,sp,b,h,hb=>by
  unfold agl at h
  split at h
  ·
   rename_i a r ha hr
   cases h
   obtain ⟨o,k⟩:=a
   unfold cmps at hb
   split at hb
   ·
    rename_i c r' hc hr'
    cases hb
    obtain ⟨hn,x,y,p1,p2,p3⟩:=Jyy (w:=w) (d:=d) ha hc
    have ih:=Jtv (w:=w) (d:=d) hr hr'
    simp only [Op.eqFields,hn,ne_eq,not_false_eq_true,if_true,Sem.run_bind,p1,p2,p3,Result.andThen_ok]
    cases c
    ·
     simp
    simpa using ih
   cases hb
  cases h
variable {l:List Value} {d:Option Tmp} {ty:TypeId} {ps:String} {af:Array Edge} {g:Option (Nat × Bool)} {C:World→Prop}
theorem Jro {w:World} {T:TypeId} {sp:List (Nat × Nat)} {xs ys:List Value} {b:Bool} (hA:agq P T=some sp) (hb:cmps xs ys sp=some b) :
  (∀ (op:BinOp) (x y:Operand),(eqGuard op T x y (.agg xs.toArray) (.agg ys.toArray)).run P w = .ok () w)∧(Op.equalIn 10000 T (.agg xs.toArray) (.agg ys.toArray)).run P w = .ok b w:=by
 unfold agq at hA
 split at hA
 ·
  rename_i fs hu
  split at hA
  ·
   cases hA
  rename_i hc
  simp only [Bool.or_eq_true,not_or,Bool.not_eq_true] at hc
  have hf:P.fieldsOf T=fs:=by simp [Program.fieldsOf,hu]
  refine ⟨fun op x y=>run_eqGuard_agg w op T x y _ _ hc.2,?_⟩
  rw [run_equalIn_struct w 9999 T _ _ (by rw [hf]; exact hu) hc.1,hf]
  exact Jtv hA hb
 cases hA
theorem Jdu {T T':TypeId} {x y:Operand} {xs ys:List Value} {b:Bool} {sp:List (Nat × Nat)} (hA:agq P T=some sp) (hx:evo l x=some (.agg xs.toArray)) (hy:evo l y=some (.agg ys.toArray)) (hb:cmps xs ys sp=some b) :
  Det P C ⟨d,.binOp .neq T x y T',ty,ps,af,g⟩ l (.bool (!b)):=fun u _=>by
 (replace hx:=Jan hx; replace hy:=Jan hy)
 obtain ⟨h1,h2⟩:=Jro (w:=u) hA hb
 simp [execOp,Jap,hx,hy,h1,run_neq_struct,h2]
theorem Jso {T T':TypeId} {x y:Operand} {xs ys:List Value} {b:Bool} {sp:List (Nat × Nat)} (hA:agq P T=some sp) (hx:evo l x=some (.agg xs.toArray)) (hy:evo l y=some (.agg ys.toArray)) (hb:cmps xs ys sp=some b) :
  Det P C ⟨d,.binOp .eql T x y T',ty,ps,af,g⟩ l (.bool b):=fun u _=>by
 (replace hx:=Jan hx; replace hy:=Jan hy)
 obtain ⟨h1,h2⟩:=Jro (w:=u) hA hb
 simp [execOp,Jap,hx,hy,h1,run_eql_struct,h2]
end
noncomputable def clB (p:Prop):Bool := @decide p (Classical.propDecidable p)
theorem Jbv {p:Prop}:clB p=true ↔ p:=by unfold clB; simp
theorem Jbz {p:Prop} (h:p):clB p=true:=Jbv.2 h
theorem Jbk {p:Prop} (h:¬ p):clB p=false:=by
 cases hq:clB p with
 | false=>rfl
 | true=>exact (h (Jbv.1 hq)).elim
theorem Je3 {p:Prop} [Decidable p]:clB p=decide p:=by
 by_cases h:p
 ·
  rw [Jbz h,decide_eq_true h]
 rw [Jbk h,decide_eq_false h]
theorem Je6 {p q:Prop}:clB (p∧q)=(clB p && clB q):=by
 by_cases hp:p
 ·
  by_cases hq:q
  ·
   rw [Jbz ⟨hp,hq⟩,Jbz hp,Jbz hq]; rfl
  rw [Jbk (fun h=>hq h.2),Jbk hq,Bool.and_false]
 rw [Jbk (fun h=>hp h.1),Jbk hp,Bool.false_and]
theorem Jez {a b:ByteArray}:seq a b=true ↔ a=b:=by
 unfold seq
 rw [beq_iff_eq,ByteArray.toList_eq,ByteArray.toList_eq]
 constructor
 ·
  intro h
  cases a; cases b
  simp at h
  rw [h]
 rintro rfl; rfl
theorem Jsg (a b:ByteArray):seq a b=clB (a=b):=by
 cases h:seq a b with
 | true=>exact (Jbz (Jez.1 h)).symm
 | false=>exact (Jbk fun e=>by rw [Jez.2 e] at h; cases h).symm
theorem J23 {a b:ByteArray} (h:seq a b=false):a≠b:=fun e=>by rw [Jez.2 e] at h; cases h
theorem Jhg {α:Type} [Inhabited α] {l:List α} {i:Int} {P:α→Prop} (hi:¬ i < l.length) (h:∀ j:Int,0≤j→j < i→P (nth l j)):∀ a∈l,P a:=fun a ha=>by
 obtain ⟨j,h0,h1,rfl⟩:=Ja4 ha
 exact h j h0 (by omega)
theorem Jb7 {α β:Type} [Inhabited α] (f:α→β) {l m:List α} {i:Int} (hi:¬ i < l.length) (hl:l.length=m.length) (h:∀ j:Int,0≤j→j < i→f (nth l j)=f (nth m j)):l.map f=m.map f:=by
 apply List.ext_getElem (by simp [hl])
 intro k h1 h2
 have h3:k < l.length:=by simpa using h1
 have h4:k < m.length:=by omega
 have:=h k (by omega) (by omega)
 simpa [nth,List.getD,h3,h4] using this
theorem Jga {α:Type} [Inhabited α] {l m:List α} {i:Int} (hi:¬ i < l.length) (hl:l.length=m.length) (h:∀ j:Int,0≤j→j < i→nth l j=nth m j):l=m:=by
 have:=Jb7 (fun x=>x) hi hl h
 simpa using this
theorem Jr9 (x y:Lit):cmps (cLit.cells x) (cLit.cells y) [(0,0),(1,0),(2,1)]=some (decide (x=y)):=by
 cases x; cases y
 simp only [cmps,cmp1,cLit,List.getElem?_cons_zero,List.getElem?_cons_succ,Lit.mk.injEq]
 rename_i a1 a2 a3 b1 b2 b3
 cases a3 <;> cases b3 <;> simp
theorem Jm9 (x y:Put):cmps (cPut.cells x) (cPut.cells y) [(0,0),(1,0)]=some (decide (x=y)):=by
 cases x; cases y
 simp only [cmps,cmp1,cPut,List.getElem?_cons_zero,List.getElem?_cons_succ,Put.mk.injEq]
 simp
theorem Jl0 (x y:Thing):cmps (cThing.cells x) (cThing.cells y) [(0,2),(1,0),(2,0),(3,0)]=some (clB (x=y)):=by
 have e:clB (x=y)=(seq x.nm y.nm && (decide (x.pl=y.pl) && (decide (x.st=y.st) && (decide (x.sr=y.sr) && true)))):=by
  cases x; cases y
  simp only [Thing.mk.injEq,Jsg, ← Je3]
  simp only [Je6,Bool.and_true]
 rw [e]
 rfl
theorem Jy9 {a b:Auto}:cmps [.int .i64 a.t,.int .i64 a.s] [.int .i64 b.t,.int .i64 b.s] [(0,0),(1,0)]=some (decide (a.t=b.t) && decide (a.s=b.s)):=by
 simp [cmps,cmp1]
theorem Jow {P:Program} {L:List SA} {w0:World} {l:List Value} {d:Option Tmp} {ty:TypeId} {ps:String} {af:Array Edge} {g:Option (Nat × Bool)} {α:Type} [Inhabited α] {C:Cel α} {T:TypeId} (k j n:Nat) {x:Operand} {s:Sl α} {i:Int} {cs:List Value}
  (hx:evo l x=some (.pointer (some ⟨slb s.v,slo s.v+i.toNat * k+j,none⟩))) (hs:SlT C w0 s) (hk:C.k=k) (h:0≤i∧i < s.l.length) (hc:((C.cells (nth s.l i)).drop j).take n=cs) (hn:cs.length=n) (hT:tk P T=some (true,n)) :
  Det P (St w0.heap.size w0 L) ⟨d,.load T x,ty,ps,af,g⟩ l (.agg cs.toArray):=by
 subst hk
 refine Jfc (m:=i.toNat * C.k+j) (by rw [hx,sla,Nat.add_assoc]) (fun _ hu=>hs.sp.st hu) (fun q y hy=>?_) (by rw [hn]; exact hT)
 rw [← hc,List.getElem?_take] at hy
 split at hy
 ·
  rw [List.getElem?_drop] at hy
  have hj:j+q < C.k:=by have:=(List.getElem?_eq_some_iff.1 hy).1; rwa [C.len] at this
  rw [Nat.add_assoc,Jco C h.1 h.2 _ hj]; exact hy
 cases hy
theorem sl_e {α:Type} {a b:Sl α} (h:a.l=b.l):a.e (id:α→α)=b.e id:=by unfold Sl.e; rw [h]
theorem Jwx {α β:Type} {f:α→β} {a b:Sl α} (h:a.l.map f=b.l.map f):a.e f=b.e f:=by unfold Sl.e; rw [h]
theorem Jy3 {x y:Pro} (h1:x.nm=y.nm) (h2:x.pl=y.pl) (h3:x.wh.l=y.wh.l):x.e=y.e:=by
 cases x; cases y
 simp only at h1 h2 h3
 subst h1; subst h2
 simp only [Pro.e,sl_e h3]
theorem Jyz {x y:Way} (h1:x.a=y.a) (h2:x.b=y.b) (h3:x.wh.l=y.wh.l):x.e=y.e:=by
 cases x; cases y
 simp only at h1 h2 h3
 subst h1; subst h2
 simp only [Way.e,sl_e h3]
theorem Jx9 {x y:Auto} (h1:x.t=y.t) (h2:x.s=y.s) (h3:x.wh.l=y.wh.l):x.e=y.e:=by
 cases x; cases y
 simp only at h1 h2 h3
 subst h1; subst h2
 simp only [Auto.e,sl_e h3]
theorem J2t {x y:Actn} (h:AlikeA x y):x.e=y.e:=by
 obtain ⟨h1,h2,h3,h4,h5,h6,h7,h8⟩:=h
 cases x; cases y
 simp only at h1 h2 h3 h4 h5 h6 h7 h8
 subst h1; subst h2; subst h3
 simp only [Actn.e,sl_e h4,sl_e h5,sl_e h6,sl_e h7,sl_e h8]
theorem Jyi {a b:Room} (h1:a.pls.l=b.pls.l) (h2:a.ths.l=b.ths.l) (h3:a.prs.l.map Pro.e=b.prs.l.map Pro.e) (h4:a.wys.l.map Way.e=b.wys.l.map Way.e) (h5:a.acs.l.map Actn.e=b.acs.l.map Actn.e) (h6:a.aus.l.map Auto.e=b.aus.l.map Auto.e) (h7:a.ply=b.ply) (h8:a.gl.l=b.gl.l):a.e=b.e:=by
 unfold Room.e
 rw [sl_e h1,sl_e h2,Jwx h3,Jwx h4,Jwx h5,Jwx h6,h7,sl_e h8]
theorem bq:(∀ (p:Prop) [Decidable p],(decide p=true)=p)∧(∀ (p:Prop) [Decidable p],(decide p=false)=¬ p)∧(∀ a b:Bool,((a && b)=true)=(a=true∧b=true))∧(∀ a b:Bool,((a || b)=true)=(a=true∨b=true)) ∧
  (∀ a b:Bool,((a && b)=false)=(a=false∨b=false))∧(∀ a b:Bool,((a || b)=false)=(a=false∧b=false))∧(∀ a:Bool,((!a)=true)=(a=false))∧(∀ a:Bool,((!a)=false)=(a=true))∧(∀ (α:Type) (a b:α),(a≠b)=¬ a=b)∧(∀ p:Prop,[Decidable p]→(¬ ¬ p)=p) ∧
  ((!true)=false)∧((!false)=true)∧(∀ (α:Type) [BEq α] [LawfulBEq α] (a b:α),((a != b)=true)=¬ a=b)∧(∀ (α:Type) [BEq α] [LawfulBEq α] (a b:α),((a != b)=false)=(a=b))∧(∀ (α:Type) [BEq α] [LawfulBEq α] (a b:α),((a == b)=true)=(a=b))∧(∀ (α:Type) [BEq α] [LawfulBEq α] (a b:α),((a == b)=false)=¬ a=b):=by
 refine ⟨fun p _=>by simp,fun p _=>by simp,fun a b=>by simp,fun a b=>by simp,fun a b=>by cases a <;> cases b <;> simp,fun a b=>by simp,fun a=>by simp,fun a=>by simp,fun α a b=>by simp,fun p=>by simp [Decidable.not_not],rfl,rfl,fun α _ _ a b=>by simp,fun α _ _ a b=>by simp,fun α _ _ a b=>by simp,fun α _ _ a b=>by simp⟩
inductive Tb (α:Type) where
 | o
 | n (l:Tb α) (k:Nat) (v:α) (r:Tb α)
def Tb.get {α:Type}:Tb α→Nat→Option α
 | .o,_=>none
 | .n l k v r,i=>match Nat.blt i k with
  | true=>l.get i
  | false=>match Nat.beq i k with
   | true=>some v
   | false=>r.get i
def Tb.all {α:Type} (p:Nat→α→Bool):Tb α→Bool
 | .o=>true
 | .n l k v r=>l.all p && p k v && r.all p
theorem Tb.get_all {α:Type} {p:Nat→α→Bool}:∀ {t:Tb α} {i:Nat} {v:α},t.all p=true→t.get i=some v→p i v=true
 | .o,_,_,_,h=>by simp [Tb.get] at h
 | .n l k x r,i,v,ha,h=>by
  simp only [Tb.all,Bool.and_eq_true] at ha
  unfold Tb.get at h
  split at h
  ·
   exact Tb.get_all ha.1.1 h
  split at h
  ·
   rename_i hb
   have:i=k:=Nat.eq_of_beq_eq_true hb
   cases h
   subst this
   exact ha.1.2
  exact Tb.get_all ha.2 h
class Fx (P:Program) where
 ft:Tb (List Nat)
 kt:Tb (Bool × Nat)
 st:Tb (TypeId × Nat × Nat)
 fk:ft.all (fun T l=>l.zipIdx.all fun x=>fo P T x.2 == some x.1)=true
 kk:kt.all (fun T r=>tk P T == some r)=true
 sk:st.all (fun T r=>sl P T == some r)=true
def fof (P:Program) [F:Fx P] (T i:Nat):Option Nat:=match F.ft.get T with
 | some l=>l[i]?
 | none=>none
def tkf (P:Program) [F:Fx P] (T:Nat):Option (Bool × Nat):=F.kt.get T
def slf (P:Program) [F:Fx P] (T:Nat):Option (TypeId × Nat × Nat):=F.st.get T
section
variable {P:Program} [Fx P]
theorem Jxx {T i m:Nat} (h:fof P T i=some m):fo P T i=some m:=by
 unfold fof at h
 split at h
 ·
  rename_i l hl
  have h1:=Tb.get_all (Fx.fk (P:=P)) hl
  rw [List.all_eq_true] at h1
  have h2:=h1 (m,i) (by rw [List.mk_mem_zipIdx_iff_getElem?]; exact h)
  simpa using h2
 simp at h
theorem Jd9 {T:Nat} {r:Bool × Nat} (h:tkf P T=some r):tk P T=some r:=by
 have:=Tb.get_all (Fx.kk (P:=P)) h
 simpa using this
theorem Jlz {T:Nat} {r:TypeId × Nat × Nat} (h:slf P T=some r):sl P T=some r:=by
 have:=Tb.get_all (Fx.sk (P:=P)) h
 simpa using this
end
def ikq:IntKind→IntKind→Bool
 | .i64,.i64=>true
 | .u8,.u8=>true
 | .i32,.i32=>true
 | _,_=>false
theorem J16 {a b:IntKind} (h:ikq a b=true):a=b:=by cases a <;> cases b <;> first | rfl | cases h
def cmpf:BinOp→Int→Int→Option Bool
 | .eql,a,b=>some (decide (a=b))
 | .neq,a,b=>some (decide (a≠b))
 | .lss,a,b=>some (decide (a < b))
 | .leq,a,b=>some (decide (a≤b))
 | .gtr,a,b=>some (decide (b < a))
 | .geq,a,b=>some (decide (b≤a))
 | _,_,_=>none
def fv (P:Program) [Fx P] (l:List Value):Op→Option Value
 | .move x=>evo l x
 | .assign x=>evo l x
 | .fieldAddr T x f=>match evo l x with
  | some (.pointer (some ⟨b,o,none⟩))=>match fof P T f with
   | some m=>some (.pointer (some ⟨b,o+m,none⟩))
   | none=>none
  | _=>none
 | .binOp k _ x y _=>match evo l x,evo l y with
  | some (.int i a),some (.int j b)=>match ikq i j with
   | true=>match cmpf k a b with
    | some r=>some (.bool r)
    | none=>none
   | false=>none
  | _,_=>none
 | .unOp .not _ x=>match evo l x with
  | some (.bool a)=>some (.bool (!a))
  | _=>none
 | .extract x i=>match evo l x with
  | some (.tuple ⟨vs⟩)=>vs[i]?
  | _=>none
 | .nilCheck x=>match evo l x with
  | some (.pointer (some a))=>some (.pointer (some a))
  | _=>none
 | _=>none
def runF (P:Program) [Fx P]:Nat→List Oper→List Value→Option (List Oper × List Value)
 | 0,ops,l=>some (ops,l)
 | n+1,⟨some d,op,_,_,_,none⟩::ops,l=>match fv P l op with
  | some v=>match lset l d v with
   | some l'=>runF P n ops l'
   | none=>none
  | none=>none
 | _,_,_=>none
section
variable {P:Program} [Fx P] {C:World→Prop} {l:List Value} {d:Option Tmp} {ty:TypeId} {ps:String} {af:Array Edge} {g:Option (Nat × Bool)}
theorem Joz {op:Op} {v:Value} (h:fv P l op=some v):Det P C ⟨d,op,ty,ps,af,g⟩ l v:=by
 unfold fv at h
 split at h
 ·
  exact Jbg h
 ·
  exact Jqz h
 ·
  split at h
  ·
   rename_i b o hx
   split at h
   ·
    rename_i m hm
    cases h
    exact Jgj hx (Jxx hm)
   cases h
  cases h
 ·
  split at h
  ·
   rename_i i a j b hx hy
   split at h
   ·
    rename_i hk
    have:=J16 hk
    subst this
    split at h
    ·
     rename_i r hr
     cases h
     unfold cmpf at hr
     split at hr
     ·
      cases hr; exact Jyq hx hy
     ·
      cases hr; exact Jyc hx hy
     ·
      cases hr; exact Jxu hx hy
     ·
      cases hr; exact Jx7 hx hy
     ·
      cases hr; exact Jyk hx hy
     ·
      cases hr; exact Jx3 hx hy
     cases hr
    cases h
   cases h
  cases h
 ·
  split at h
  ·
   rename_i a hx
   cases h
   exact Jrk hx
  cases h
 ·
  split at h
  ·
   rename_i vs hx
   exact Jne (vs:=vs) hx h
  cases h
 ·
  split at h
  ·
   rename_i a hx
   cases h
   exact Jhv hx
  cases h
 cases h
theorem Jz7 {op:Op} {v:Value} (h:fv P l op=some v):calm op=true:=by
 cases op <;> first | rfl | (simp [fv] at h)
end
section
variable {P:Program} [Fx P] {ro:Option Nat} {n0:Nat} {w0:World} {ds:List Deferred} {ops:Array Oper} {Q:Exit→Act→World→Prop} {L:List SA} {C:World→Prop}
theorem Wz:∀ (n:Nat) {rest rest':List Oper} {l l':List Value} (k:WS P ro n0 w0 ds ops Q L rest' l') (h:runF P n rest l=some (rest',l'):=by exact rfl),WS P ro n0 w0 ds ops Q L rest l
 | 0,_,_,_,_,k,h=>by cases h; exact k
 | n+1,rest,rest',l,l',k,h=>by
  unfold runF at h
  split at h
  ·
   cases h; exact k
  ·
   rename_i n' d op ty ps af os l0 hn
   cases hn
   split at h
   ·
    rename_i v hv
    split at h
    ·
     rename_i l1 hl
     exact WS.det (Jz7 hv) rfl rfl (Joz hv) hl (Wz n k h)
    cases h
   cases h
  cases h
theorem Dz:∀ (n:Nat) {rest rest':List Oper} {l l':List Value} (k:DS P n0 w0 ds ops Q L rest' l') (h:runF P n rest l=some (rest',l'):=by exact rfl),DS P n0 w0 ds ops Q L rest l
 | 0,_,_,_,_,k,h=>by cases h; exact k
 | n+1,rest,rest',l,l',k,h=>by
  unfold runF at h
  split at h
  ·
   cases h; exact k
  ·
   rename_i n' d op ty ps af os l0 hn
   cases hn
   split at h
   ·
    rename_i v hv
    split at h
    ·
     rename_i l1 hl
     exact DS.det rfl rfl (Joz hv) hl (Dz n k h)
    cases h
   cases h
  cases h
variable {rest rest':List Oper} {l l' l'':List Value} {o:Oper} {d j s:Nat} {v:Value} {b c x want:Bool} {bl bl' bl'':List Bool} {fuel fuel' na:Nat}
theorem Wk (n:Nat) (h:Det P (St n0 w0 L) o l v) (k:WS P ro n0 w0 ds ops Q L rest' l'') (hc:calm o.op=true:=by exact rfl) (hd:o.dst=some d:=by exact rfl) (hg:o.guard=none:=by exact rfl) (hl:lset l d v=some l':=by exact rfl) (hr:runF P n rest l'=some (rest',l''):=by exact rfl):WS P ro n0 w0 ds ops Q L (o::rest) l:=WS.det hc hd hg h hl (Wz n k hr)
theorem Wt (n:Nat) (hg:o.guard=some (j,true)) (hb:yielded ops l.toArray j=some b) (h:b=true→Det P (St n0 w0 L) o l v) (k:WS P ro n0 w0 ds ops Q L rest' l'') (hc:calm o.op=true:=by exact rfl) (hd:o.dst=some d:=by exact rfl) (hl:lset l d (cond b v undef)=some l':=by exact rfl) (hr:runF P n rest l'=some (rest',l''):=by exact rfl):WS P ro n0 w0 ds ops Q L (o::rest) l:=WS.guardT hc hd hg hb h hl (Wz n k hr)
theorem Wf (n:Nat) (hg:o.guard=some (j,false)) (hb:yielded ops l.toArray j=some b) (h:(!b)=true→Det P (St n0 w0 L) o l v) (k:WS P ro n0 w0 ds ops Q L rest' l'') (hc:calm o.op=true:=by exact rfl) (hd:o.dst=some d:=by exact rfl) (hl:lset l d (cond (!b) v undef)=some l':=by exact rfl) (hr:runF P n rest l'=some (rest',l''):=by exact rfl):WS P ro n0 w0 ds ops Q L (o::rest) l:=WS.guardF hc hd hg hb h hl (Wz n k hr)
theorem Wn (n:Nat) (hg:o.guard=some (j,want)) (hs:(ops[j]?).bind (·.dst)=some s) (hv:l[s]? = some (cond c (.bool x) undef)) (h:(c && (x == want))=true→Det P (St n0 w0 L) o l v) (k:WS P ro n0 w0 ds ops Q L rest' l'') (hc:calm o.op=true:=by exact rfl) (hd:o.dst=some d:=by exact rfl) (hl:lset l d (cond (c && (x == want)) v undef)=some l':=by exact rfl) (hr:runF P n rest l'=some (rest',l''):=by exact rfl):WS P ro n0 w0 ds ops Q L (o::rest) l:=WS.guardN hc hd hg hs hv h hl (Wz n k hr)
theorem Dk (n:Nat) (h:Det P (St n0 w0 L) o l v) (k:DS P n0 w0 ds ops Q L rest' l'') (hd:o.dst=some d:=by exact rfl) (hg:o.guard=none:=by exact rfl) (hl:lset l d v=some l':=by exact rfl) (hr:runF P n rest l'=some (rest',l''):=by exact rfl):DS P n0 w0 ds ops Q L (o::rest) l:=DS.det hd hg h hl (Dz n k hr)
theorem Dt (n:Nat) (hg:o.guard=some (j,true)) (hb:yielded ops l.toArray j=some b) (h:b=true→Det P (St n0 w0 L) o l v) (k:DS P n0 w0 ds ops Q L rest' l'') (hd:o.dst=some d:=by exact rfl) (hl:lset l d (cond b v undef)=some l':=by exact rfl) (hr:runF P n rest l'=some (rest',l''):=by exact rfl):DS P n0 w0 ds ops Q L (o::rest) l:=DS.guardT hd hg hb h hl (Dz n k hr)
theorem Df (n:Nat) (hg:o.guard=some (j,false)) (hb:yielded ops l.toArray j=some b) (h:(!b)=true→Det P (St n0 w0 L) o l v) (k:DS P n0 w0 ds ops Q L rest' l'') (hd:o.dst=some d:=by exact rfl) (hl:lset l d (cond (!b) v undef)=some l':=by exact rfl) (hr:runF P n rest l'=some (rest',l''):=by exact rfl):DS P n0 w0 ds ops Q L (o::rest) l:=DS.guardF hd hg hb h hl (Dz n k hr)
theorem Dn (n:Nat) (hg:o.guard=some (j,want)) (hs:(ops[j]?).bind (·.dst)=some s) (hv:l[s]? = some (cond c (.bool x) undef)) (h:(c && (x == want))=true→Det P (St n0 w0 L) o l v) (k:DS P n0 w0 ds ops Q L rest' l'') (hd:o.dst=some d:=by exact rfl) (hl:lset l d (cond (c && (x == want)) v undef)=some l':=by exact rfl) (hr:runF P n rest l'=some (rest',l''):=by exact rfl):DS P n0 w0 ds ops Q L (o::rest) l:=DS.guardN hd hg hs hv h hl (Dz n k hr)
def asOk (ops:Array Oper):List Nat→List Bool→Bool
 | [],_=>true
 | i::is,bl=>Region.free .any ops bl.toArray i && (Region.ready .any ops bl.toArray).contains i && asOk ops is (bl.set i true)
def atOk (ops:Array Oper) (na s:Nat):List Nat→List Bool→Bool
 | [],_=>true
 | i::is,bl=>Ji7 ops na i s && !(i == s) && Jf1 ops bl.toArray && Region.free .any ops bl.toArray i && (Region.ready .any ops bl.toArray).contains i && atOk ops na s is (bl.set i true)
def runA (P:Program) [Fx P] (ops:Array Oper):List Nat→Nat→List Bool→List Value→Option (Nat × List Bool × List Value)
 | [],f,bl,l=>some (f,bl,l)
 | i::is,f+1,bl,l=>match ops[i]? with
  | some ⟨some d,op,_,_,_,none⟩=>match fv P l op with
   | some v=>match lset l d v with
    | some l'=>match lset bl i true with
     | some bl'=>runA P ops is f bl' l'
     | none=>none
    | none=>none
   | none=>none
  | _=>none
 | _,_,_,_=>none
theorem Az (hcalm:Ja5 ops=true):∀ (is:List Nat) {fuel fuel':Nat} {bl bl':List Bool} {l l':List Value} (hk:asOk ops is bl=true) (k:AS P ro n0 w0 ds ops Q C L fuel' bl' l')
  (h:runA P ops is fuel bl l=some (fuel',bl',l')),AS P ro n0 w0 ds ops Q C L fuel bl l
 | [],_,_,_,_,_,_,_,k,h=>by cases h; exact k
 | i::is,fuel,fuel',bl,bl',l,l',hk,k,h=>by
  unfold runA at h
  split at h
  ·
   rename_i he; cases he
  ·
   rename_i i' is' f bl0 l0 he
   cases he
   simp only [asOk,Bool.and_eq_true] at hk
   split at h
   ·
    rename_i d op ty ps af ho
    split at h
    ·
     rename_i v hv
     split at h
     ·
      rename_i l1 hl
      split at h
      ·
       rename_i bl1 hb
       have hb1:=Jal hb
       exact AS.take i ho hcalm hk.1.1 hk.1.2 rfl rfl (Joz hv) hb hl (Az hcalm is (by rw [← hb1]; exact hk.2) k h)
      cases h
     cases h
    cases h
   cases h
  cases h
theorem Tz (hcalm:Ja5 ops=true) {na s:Nat}:∀ (is:List Nat) {fuel fuel':Nat} {bl bl':List Bool} {l l':List Value} (hk:atOk ops na s is bl=true) (k:AT P ro n0 w0 ds ops Q C s L fuel' bl' l')
  (h:runA P ops is fuel bl l=some (fuel',bl',l')),AT P ro n0 w0 ds ops Q C s L fuel bl l
 | [],_,_,_,_,_,_,_,k,h=>by cases h; exact k
 | i::is,fuel,fuel',bl,bl',l,l',hk,k,h=>by
  unfold runA at h
  split at h
  ·
   rename_i he; cases he
  ·
   rename_i i' is' f bl0 l0 he
   cases he
   simp only [atOk,Bool.and_eq_true] at hk
   split at h
   ·
    rename_i d op ty ps af ho
    split at h
    ·
     rename_i v hv
     split at h
     ·
      rename_i l1 hl
      split at h
      ·
       rename_i bl1 hb
       have hb1:=Jal hb
       exact AT.take i ho hcalm hk.1.1.1.1.1 (by simpa using hk.1.1.1.1.2) hk.1.1.1.2 hk.1.1.2 hk.1.2 rfl rfl (Joz hv) hb hl (Tz hcalm is (by rw [← hb1]; exact hk.2) k h)
      cases h
     cases h
    cases h
   cases h
  cases h
theorem Ar (is:List Nat) (k:AS P ro n0 w0 ds ops Q C L fuel' bl' l') (hcalm:Ja5 ops=true:=by kernel_rfl) (hk:asOk ops is bl=true:=by kernel_rfl) (h:runA P ops is fuel bl l=some (fuel',bl',l'):=by exact rfl):AS P ro n0 w0 ds ops Q C L fuel bl l:=Az hcalm is hk k h
theorem Ak (i:Nat) (is:List Nat) (hi:ops[i]? = some o) (h:Det P C o l v) (k:AS P ro n0 w0 ds ops Q C L fuel' bl'' l'') (hcalm:Ja5 ops=true:=by kernel_rfl) (hk:asOk ops (i::is) bl=true:=by kernel_rfl)
  (hd:o.dst=some d:=by exact rfl) (hg:o.guard=none:=by exact rfl) (hb:lset bl i true=some bl':=by exact rfl) (hl:lset l d v=some l':=by exact rfl) (hr:runA P ops is fuel bl' l'=some (fuel',bl'',l''):=by exact rfl):AS P ro n0 w0 ds ops Q C L (fuel+1) bl l:=by
 simp only [asOk,Bool.and_eq_true] at hk
 exact AS.take i hi hcalm hk.1.1 hk.1.2 hd hg h hb hl (Az hcalm is (by rw [← Jal hb]; exact hk.2) k hr)
theorem At (i:Nat) (is:List Nat) (hi:ops[i]? = some o) (hg:o.guard=some (j,true)) (hw:yielded ops l.toArray j=some b) (h:b=true→Det P C o l v) (k:AS P ro n0 w0 ds ops Q C L fuel' bl'' l'') (hcalm:Ja5 ops=true:=by kernel_rfl) (hk:asOk ops (i::is) bl=true:=by kernel_rfl)
  (hd:o.dst=some d:=by exact rfl) (hb:lset bl i true=some bl':=by exact rfl) (hl:lset l d (cond b v undef)=some l':=by exact rfl) (hr:runA P ops is fuel bl' l'=some (fuel',bl'',l''):=by exact rfl):AS P ro n0 w0 ds ops Q C L (fuel+1) bl l:=by
 simp only [asOk,Bool.and_eq_true] at hk
 exact AS.takeT i hi hcalm hk.1.1 hk.1.2 hd hg hw h hb hl (Az hcalm is (by rw [← Jal hb]; exact hk.2) k hr)
theorem Af (i:Nat) (is:List Nat) (hi:ops[i]? = some o) (hg:o.guard=some (j,false)) (hw:yielded ops l.toArray j=some b) (h:(!b)=true→Det P C o l v) (k:AS P ro n0 w0 ds ops Q C L fuel' bl'' l'') (hcalm:Ja5 ops=true:=by kernel_rfl) (hk:asOk ops (i::is) bl=true:=by kernel_rfl)
  (hd:o.dst=some d:=by exact rfl) (hb:lset bl i true=some bl':=by exact rfl) (hl:lset l d (cond (!b) v undef)=some l':=by exact rfl) (hr:runA P ops is fuel bl' l'=some (fuel',bl'',l''):=by exact rfl):AS P ro n0 w0 ds ops Q C L (fuel+1) bl l:=by
 simp only [asOk,Bool.and_eq_true] at hk
 exact AS.takeF i hi hcalm hk.1.1 hk.1.2 hd hg hw h hb hl (Az hcalm is (by rw [← Jal hb]; exact hk.2) k hr)
theorem Tr (na:Nat) (is:List Nat) (k:AT P ro n0 w0 ds ops Q C s L fuel' bl' l') (hcalm:Ja5 ops=true:=by kernel_rfl) (hk:atOk ops na s is bl=true:=by kernel_rfl) (h:runA P ops is fuel bl l=some (fuel',bl',l'):=by exact rfl):AT P ro n0 w0 ds ops Q C s L fuel bl l:=Tz hcalm is hk k h
theorem Tk (na i:Nat) (is:List Nat) (hi:ops[i]? = some o) (h:Det P C o l v) (k:AT P ro n0 w0 ds ops Q C s L fuel' bl'' l'') (hcalm:Ja5 ops=true:=by kernel_rfl) (hk:atOk ops na s (i::is) bl=true:=by kernel_rfl)
  (hd:o.dst=some d:=by exact rfl) (hg:o.guard=none:=by exact rfl) (hb:lset bl i true=some bl':=by exact rfl) (hl:lset l d v=some l':=by exact rfl) (hr:runA P ops is fuel bl' l'=some (fuel',bl'',l''):=by exact rfl):AT P ro n0 w0 ds ops Q C s L (fuel+1) bl l:=by
 simp only [atOk,Bool.and_eq_true] at hk
 exact AT.take i hi hcalm hk.1.1.1.1.1 (by simpa using hk.1.1.1.1.2) hk.1.1.1.2 hk.1.1.2 hk.1.2 hd hg h hb hl (Tz hcalm is (by rw [← Jal hb]; exact hk.2) k hr)
theorem Dr {id:Nat} {os:List Oper} (hm:P.follows .mixedOrders=true) (n:Nat) (k:DS P n0 w0 ds os.toArray Q L rest' l') (hr:runF P n os l=some (rest',l'):=by exact rfl) (hB:Region.lexB .any os.toArray=true:=by kernel_rfl) (hcalm:Ja5 os.toArray=true:=by kernel_rfl) :
  CS P ro n0 w0 ds (.region id os.toArray true) Q L l:=CS.draw hm hB hcalm (Dz n k hr)
end
section
variable {P:Program} {ro:Option Nat} {n0:Nat} {w0:World} {ds:List Deferred} {ops:Array Oper} {Q:Exit→Act→World→Prop} {L:List SA} {C:World→Prop} {l:List Value} {o:Oper} {s:Nat} {bl bl':List Bool} {fuel:Nat}
theorem Ao (i:Nat) (hi:ops[i]? = some o) (k:WS P ro n0 w0 ds ops (Exit.then (AH P ro ops (NP ops Q) C fuel bl'.toArray) (NP ops Q)) L [o] l) (hr:Region.ready .any ops bl.toArray=[i]:=by kernel_rfl)
  (hC:∀ u,St n0 w0 L u→C u:=by first | exact fun _ h=>h | exact fun _ h=>h.sub (by repeat first | exact List.Sublist.refl _ | apply List.Sublist.cons_cons | apply List.Sublist.cons)) (hb:lset bl i true=some bl':=by exact rfl):AS P ro n0 w0 ds ops Q C L (fuel+1) bl l:=AS.one hr hi hC hb k
theorem Ae (k:QS n0 w0 ds Q .normal L l) (hr:Region.ready .any ops bl.toArray=[]:=by kernel_rfl)
  (hC:∀ u,St n0 w0 L u→C u:=by first | exact fun _ h=>h | exact fun _ h=>h.sub (by repeat first | exact List.Sublist.refl _ | apply List.Sublist.cons_cons | apply List.Sublist.cons)):AS P ro n0 w0 ds ops Q C L 0 bl l:=AS.done hr hC k
theorem To (i:Nat) (hi:ops[i]? = some o) (k:WS P ro n0 w0 ds ops (Exit.then (AZ P ro ops (NP ops Q) C s fuel bl'.toArray) (NP ops Q)) L [o] l) (hr:Region.ready .any ops bl.toArray=[i]:=by kernel_rfl)
  (hC:bl.toArray.getD s true=false→∀ u,St n0 w0 L u→C u:=by first | (intro h; exact absurd h (by decide)) | exact fun _ _ h=>h | exact fun _ _ h=>h.sub (by repeat first | exact List.Sublist.refl _ | apply List.Sublist.cons_cons | apply List.Sublist.cons)) (hb:lset bl i true=some bl':=by exact rfl):AT P ro n0 w0 ds ops Q C s L (fuel+1) bl l:=AT.one hr hi hC hb k
theorem Te (k:QS n0 w0 ds Q .normal L l) (hr:Region.ready .any ops bl.toArray=[]:=by kernel_rfl)
  (hC:bl.toArray.getD s true=false→∀ u,St n0 w0 L u→C u:=by first | (intro h; exact absurd h (by decide)) | exact fun _ _ h=>h | exact fun _ _ h=>h.sub (by repeat first | exact List.Sublist.refl _ | apply List.Sublist.cons_cons | apply List.Sublist.cons)):AT P ro n0 w0 ds ops Q C s L 0 bl l:=AT.done hr hC k
end
def cuto:Nat→Nat→List Value→Option (List Value)
 | 0,0,_=>some []
 | 0,n+1,v::l=>match cuto 0 n l with
  | some r=>some (v::r)
  | none=>none
 | i+1,n,_::l=>cuto i n l
 | _,_,[]=>none
theorem Jkg:∀ {i n:Nat} {c cs:List Value},cuto i n c=some cs→(c.drop i).take n=cs∧cs.length=n
 | 0,0,c,cs,h=>by simp [cuto] at h; subst h; simp
 | 0,n+1,[],cs,h=>by simp [cuto] at h
 | 0,n+1,v::l,cs,h=>by
  unfold cuto at h
  split at h
  ·
   rename_i r hr
   simp at h
   subst h
   have:=Jkg hr
   simp at this ⊢
   exact this
  simp at h
 | i+1,n,[],cs,h=>by simp [cuto] at h
 | i+1,n,v::l,cs,h=>by
  have:=Jkg (show cuto i n l=some cs from h)
  simpa using this
section
variable {P:Program} {C:World→Prop} {l:List Value} {d:Option Tmp} {ty:TypeId} {ps:String} {af:Array Edge} {g:Option (Nat × Bool)} {v:Value}
theorem op_ {x:Operand} (h:evo l x=some v:=by first | rfl | exact Jm8 (by assumption) rfl | exact Jm8 (J41 (by assumption)) rfl):evo l x=some v:=h
variable {n0:Nat} {w0:World} {L:List SA} {T T' e e':TypeId} {x y z:Operand} {i b o a k q q' m n:Nat} {c cs:List Value} {vv:Value} {xs:List Int} {ii aa bb:Int} {w:World} {ik:IntKind} {ba bc br:Bool}
theorem Fm (h:evo l x=some v:=by exact op_):Det P C ⟨d,.move x,ty,ps,af,g⟩ l v:=Jbg h
theorem Fq (hx:evo l x=some (.int ik aa):=by exact op_) (hy:evo l y=some (.int ik bb):=by exact op_):Det P C ⟨d,.binOp .eql T x y T',ty,ps,af,g⟩ l (.bool (decide (aa=bb))):=Jyq hx hy
theorem Fr (hx:evo l x=some (.int ik aa):=by exact op_) (hy:evo l y=some (.int ik bb):=by exact op_):Det P C ⟨d,.binOp .neq T x y T',ty,ps,af,g⟩ l (.bool (decide (aa≠bb))):=Jyc hx hy
theorem Fl (hx:evo l x=some (.int ik aa):=by exact op_) (hy:evo l y=some (.int ik bb):=by exact op_):Det P C ⟨d,.binOp .lss T x y T',ty,ps,af,g⟩ l (.bool (decide (aa < bb))):=Jxu hx hy
theorem Fk (hx:evo l x=some (.int ik aa):=by exact op_) (hy:evo l y=some (.int ik bb):=by exact op_):Det P C ⟨d,.binOp .leq T x y T',ty,ps,af,g⟩ l (.bool (decide (aa≤bb))):=Jx7 hx hy
theorem Fg (hx:evo l x=some (.int ik aa):=by exact op_) (hy:evo l y=some (.int ik bb):=by exact op_):Det P C ⟨d,.binOp .gtr T x y T',ty,ps,af,g⟩ l (.bool (decide (bb < aa))):=Jyk hx hy
theorem Fh (hx:evo l x=some (.int ik aa):=by exact op_) (hy:evo l y=some (.int ik bb):=by exact op_):Det P C ⟨d,.binOp .geq T x y T',ty,ps,af,g⟩ l (.bool (decide (bb≤aa))):=Jx3 hx hy
theorem Fn (hx:evo l x=some (.bool ba):=by exact op_):Det P C ⟨d,.unOp .not T x,ty,ps,af,g⟩ l (.bool (!ba)):=Jrk hx
theorem Fc {aq:Addr} (hx:evo l x=some (.pointer (some aq)):=by exact op_):Det P C ⟨d,.nilCheck x,ty,ps,af,g⟩ l (.pointer (some aq)):=Jhv hx
theorem Pa (hc:evo l x=some (.bool bc):=by exact op_) (hx:evo l y=some (cond bc (.bool br) undef):=by exact rfl) (hy:evo l z=some (.bool false):=by exact rfl):Det P C ⟨d,.pick x y z,ty,ps,af,g⟩ l (.bool (bc && br)):=Jc8 hc hx hy
theorem Po (hc:evo l x=some (.bool bc):=by exact op_) (hy:evo l z=some (cond (!bc) (.bool br) undef):=by exact rfl) (hx:evo l y=some (.bool true):=by exact rfl):Det P C ⟨d,.pick x y z,ty,ps,af,g⟩ l (.bool (bc || br)):=Jfv hc hy hx
theorem Za (hx:evo l x=some (.int .i64 aa):=by exact op_) (hy:evo l y=some (.int .i64 bb):=by exact op_) (h : -9223372036854775808≤aa+bb∧aa+bb≤9223372036854775807:=by (try simp only [bq] at hg); omega):Det P C ⟨d,.binOp .add T x y T',ty,ps,af,g⟩ l (.int .i64 (aa+bb)):=Jtw hx hy h
theorem Zb (hx:evo l x=some (.int .i64 aa):=by exact op_) (hy:evo l y=some (.int .i64 bb):=by exact op_) (h : -9223372036854775808≤aa - bb∧aa - bb≤9223372036854775807:=by (try simp only [bq] at hg); omega):Det P C ⟨d,.binOp .sub T x y T',ty,ps,af,g⟩ l (.int .i64 (aa - bb)):=Jzq hx hy h
theorem Db {pl:List (Nat × Operand)} {pls:List (Nat × Nat)} {zs:List Value} {parts:List (Nat × Value)} (hp:plc P T=some pls) (hz:zv P T=some zs) (hv:evp l pl=some parts:=by exact rfl) (hb:bld pls zs parts=some cs:=by exact rfl)
  (h1:∀ p∈parts,p.2.oneCell'=true:=by first | (simp [Value.oneCell']; done) | ((repeat (refine List.forall_mem_cons.2 ⟨by first | rfl | assumption,?_⟩)); exact fun _ h=>absurd h List.not_mem_nil)):Det P C ⟨d,.build T pl.toArray,ty,ps,af,g⟩ l (.agg cs.toArray):=Jj3 hp hz hv hb h1
theorem Cb {f:Operand} {args:List Operand} {ts:Array TypeId} {fn:FuncId} {cap:List Value} {vs:List Value} (hf:evo l f=some (.func (.func fn) #[] cap.toArray)) (hv:evs l args=some vs) (he:Ent P fn)
  (hc:∀ u,St n0 w0 L u→Calls P fn (vs++cap).toArray u (RetB u v)):Det P (St n0 w0 L) ⟨d,.call ⟨.value f,args.toArray,ts⟩,ty,ps,af,g⟩ l v:=Ju3 hf hv he hc
end
section
variable {P:Program} [Fx P] {C:World→Prop} {l:List Value} {d:Option Tmp} {ty:TypeId} {ps:String} {af:Array Edge} {g:Option (Nat × Bool)} {v:Value}
variable {n0:Nat} {w0:World} {L:List SA} {T T' e e':TypeId} {x y z:Operand} {i b o a k q q' m n:Nat} {c cs:List Value} {vv:Value} {xs:List Int} {ii aa bb:Int} {w:World} {ik:IntKind} {ba bc br:Bool}
theorem Ff {f:Nat} (hx:evo l x=some (.pointer (some ⟨b,o,none⟩)):=by exact op_) (hf:fof P T f=some m:=by exact rfl):Det P C ⟨d,.fieldAddr T x f,ty,ps,af,g⟩ l (.pointer (some ⟨b,o+m,none⟩)):=Jgj hx (Jxx hf)
theorem Ba (j:Nat) (hx:evo l x=some (.pointer (some ⟨b,i,none⟩)):=by exact op_) (hj:L[j]? = some (blk b c e):=by exact rfl) (hv:c[i]? = some v:=by exact rfl) (hT:tkf P T=some (false,k):=by exact rfl):Det P (St n0 w0 L) ⟨d,.load T x,ty,ps,af,g⟩ l v:=Jaa hx hj hv (Jd9 hT)
theorem Bb (j:Nat) (hx:evo l x=some (.pointer (some ⟨b,0,none⟩)):=by exact op_) (hj:L[j]? = some (blk b c e):=by exact rfl) (hT:tkf P T=some (true,c.length):=by exact rfl):Det P (St n0 w0 L) ⟨d,.load T x,ty,ps,af,g⟩ l (.agg c.toArray):=Jad hx hj (Jd9 hT)
theorem Bc (j:Nat) (hx:evo l x=some (.pointer (some ⟨b,i,none⟩)):=by exact op_) (hj:L[j]? = some (blk b c e):=by exact rfl) (hT:tkf P T=some (true,n):=by exact rfl) (hv:cuto i n c=some cs:=by exact rfl):Det P (St n0 w0 L) ⟨d,.load T x,ty,ps,af,g⟩ l (.agg cs.toArray):=Jaf hx hj (Jkg hv).1 (Jkg hv).2 (Jd9 hT)
theorem Ga (hx:evo l x=some (.pointer (some ⟨b,i,none⟩)):=by exact op_) (hb:BlkAt w0 b c e:=by assumption) (hv:c[i]? = some v:=by exact rfl) (hT:tkf P T=some (false,k):=by exact rfl):Det P (St w0.heap.size w0 L) ⟨d,.load T x,ty,ps,af,g⟩ l v:=Jab hx hb hv (Jd9 hT)
theorem Gb (hx:evo l x=some (.pointer (some ⟨b,0,none⟩)):=by exact op_) (hb:BlkAt w0 b c e:=by assumption) (hT:tkf P T=some (true,n):=by exact rfl) (hn:c.length=n:=by exact rfl):Det P (St w0.heap.size w0 L) ⟨d,.load T x,ty,ps,af,g⟩ l (.agg c.toArray):=Jai hx hb hn (Jd9 hT)
theorem Ia (hx:evo l x=some (.pointer (some (sla vv ii.toNat))):=by exact op_) (hs:SlI w0 vv xs:=by assumption) (h:0≤ii∧ii < xs.length:=by (try simp only [bq] at hg); omega) (hT:tkf P T=some (false,q):=by exact rfl):Det P (St w0.heap.size w0 L) ⟨d,.load T x,ty,ps,af,g⟩ l (.int .i64 (nth xs ii)):=Jd1 hx hs h (Jd9 hT)
theorem Ib (j:Nat) (hx:evo l x=some (.pointer (some (sla vv ii.toNat))):=by exact op_) (hj:L[j]? = some (oints e vv xs):=by exact rfl) (h:0≤ii∧ii < xs.length:=by (try simp only [bq] at hg); omega) (hT:tkf P T=some (false,q):=by exact rfl):Det P (St n0 w0 L) ⟨d,.load T x,ty,ps,af,g⟩ l (.int .i64 (nth xs ii)):=Jvn hx hj h (Jd9 hT)
theorem Xa (hx:evo l x=some vv:=by exact op_) (hy:evo l y=some (.int .i64 ii):=by exact op_) (hs:SlI w vv xs:=by assumption) (h0:0≤ii:=by (try simp only [bq] at hg); omega) (h1:ii < xs.length:=by (try simp only [bq] at hg); omega) (hT:slf P T=some (e,1,q):=by exact rfl):Det P C ⟨d,.indexAddr T x y,ty,ps,af,g⟩ l (.pointer (some (sla vv ii.toNat))):=Jgx (Jlz hT) hx hy hs h0 h1
theorem Xb (j:Nat) (hx:evo l x=some vv:=by exact op_) (hy:evo l y=some (.int .i64 ii):=by exact op_) (hj:L[j]? = some (oints e' vv xs):=by exact rfl) (h0:0≤ii:=by (try simp only [bq] at hg); omega) (h1:ii < xs.length:=by (try simp only [bq] at hg); omega) (hT:slf P T=some (e,1,q):=by exact rfl):Det P (St n0 w0 L) ⟨d,.indexAddr T x y,ty,ps,af,g⟩ l (.pointer (some (sla vv ii.toNat))):=Jrj (Jlz hT) hx hy hj h0 h1
theorem Na (hx:evo l x=some vv:=by exact op_) (hs:SlI w vv xs:=by assumption) (hT:slf P T=some (e,a,q):=by exact rfl):Det P C ⟨d,.call ⟨.builtin .len, #[x], #[T]⟩,ty,ps,af,g⟩ l (.int .i64 xs.length):=Jdw (Jlz hT) hx hs
section
variable {α:Type} {K:Cel α} {s:Sl α}
theorem Nc (hx:evo l x=some s.v:=by exact op_) (hs:SlT K w s:=by assumption) (hT:slf P T=some (e,a,q):=by exact rfl):Det P C ⟨d,.call ⟨.builtin .len, #[x], #[T]⟩,ty,ps,af,g⟩ l (.int .i64 s.l.length):=Jv6 (Jlz hT) hx hs
theorem Xc (hx:evo l x=some s.v:=by exact op_) (hy:evo l y=some (.int .i64 ii):=by exact op_) (hs:SlT K w s:=by assumption) (hT:slf P T=some (e,k,q):=by exact rfl) (hk:K.k=k:=by exact rfl) (h0:0≤ii:=by (try simp only [bq] at hg); omega) (h1:ii < s.l.length:=by (try simp only [bq] at hg); omega):Det P C ⟨d,.indexAddr T x y,ty,ps,af,g⟩ l (.pointer (some (sla s.v (ii.toNat * k)))):=Jkp (Jlz hT) hx hy hs hk h0 h1
theorem Uc (k j:Nat) (hx:evo l x=some (.pointer (some ⟨slb s.v,slo s.v+ii.toNat * k+j,none⟩)):=by exact op_) (hs:SlT K w0 s:=by assumption) (ih:Inhabited α:=by infer_instance) (hk:K.k=k:=by exact rfl) (h:0≤ii∧ii < s.l.length:=by (try simp only [bq] at hg); omega) (hj:j < k:=by decide) (hc:(K.cells (nth s.l ii))[j]? = some v:=by exact rfl) (hT:tkf P T=some (false,q):=by exact rfl):Det P (St w0.heap.size w0 L) ⟨d,.load T x,ty,ps,af,g⟩ l v:=Jve k j hx hs hk h hj hc (Jd9 hT)
theorem Ub (hx:evo l x=some (.pointer (some (sla s.v (ii.toNat * 1)))):=by exact op_) (hs:SlT K w0 s:=by assumption) (ih:Inhabited α:=by infer_instance) (hk:K.k=1:=by exact rfl) (h:0≤ii∧ii < s.l.length:=by (try simp only [bq] at hg); omega) (hc:(K.cells (nth s.l ii))[0]? = some v:=by exact rfl) (hT:tkf P T=some (false,q):=by exact rfl):Det P (St w0.heap.size w0 L) ⟨d,.load T x,ty,ps,af,g⟩ l v:=Jxk hx hs hk h hc (Jd9 hT)
theorem Ua (hx:evo l x=some (.pointer (some (sla s.v (ii.toNat * k)))):=by exact op_) (hs:SlT K w0 s:=by assumption) (ih:Inhabited α:=by infer_instance) (hk:K.k=k:=by exact rfl) (h:0≤ii∧ii < s.l.length:=by (try simp only [bq] at hg); omega) (hc:K.cells (nth s.l ii)=cs:=by exact rfl) (hT:tkf P T=some (true,k):=by exact rfl):Det P (St w0.heap.size w0 L) ⟨d,.load T x,ty,ps,af,g⟩ l (.agg cs.toArray):=J0s hx hs hk h hc (Jd9 hT)
variable [Inhabited α]
theorem Vb (jj:Nat) (hj:L[jj]? = some (roT K s)) (hx:evo l x=some (.pointer (some (sla s.v (ii.toNat * 1)))):=by exact op_) (hk:K.k=1:=by exact rfl) (h:0≤ii∧ii < s.l.length:=by (try simp only [bq] at hg); omega) (hc:(K.cells (nth s.l ii))[0]? = some v:=by exact rfl) (hT:tkf P T=some (false,q):=by exact rfl):Det P (St n0 w0 L) ⟨d,.load T x,ty,ps,af,g⟩ l v:=Jpm hj hx rfl hk h hc (Jd9 hT)
end
end
section
variable {P:Program} [Fx P] {ro:Option Nat} {n0:Nat} {w0:World} {ds:List Deferred} {ops:Array Oper} {Q:Exit→Act→World→Prop} {L L':List SA} {l l'':List Value} {T ty e:TypeId} {x y:Operand} {ps:String} {af:Array Edge} {b i q d:Nat} {bq_:Bool} {c c' vs:List Value} {v:Value} {rest rest':List Oper}
theorem Ws (n j:Nat) (k:WS P ro n0 w0 ds ops Q L' rest' l'') (hx:evo l x=some (.pointer (some ⟨b,i,none⟩)):=by exact rfl) (hj:L[j]? = some (blk b c e):=by exact rfl) (hi:i < c.length:=by first | decide | omega | (simp; done) | (simp; omega) | exact Nat.le_of_ble_eq_true rfl)
  (hy:evo l y=some v:=by exact rfl) (h1:v.oneCell'=true:=by first | rfl | assumption) (hT:tkf P T=some (bq_,1):=by exact rfl) (hc:lset c i v=some c':=by first | exact rfl | exact Jac _ _ _) (hL:lset L j (blk b c' e)=some L':=by exact rfl) (hr:runF P n rest l=some (rest',l''):=by exact rfl) :
  WS P ro n0 w0 ds ops Q L (⟨none,.store T x y,ty,ps,af,none⟩::rest) l:=WS.store hx hj hi hy h1 (Jd9 hT) hc hL (Wz n k hr)
theorem Wv (n j:Nat) (k:WS P ro n0 w0 ds ops Q L' rest' l'') (hx:evo l x=some (.pointer (some ⟨b,0,none⟩)):=by exact rfl) (hj:L[j]? = some (blk b c e):=by exact rfl) (hy:evo l y=some (.agg vs.toArray):=by exact rfl) (hn:vs.length=c.length:=by exact rfl)
  (h1:∀ v∈vs,v.oneCell'=true:=by first | (simp [Value.oneCell']; done) | ((repeat (refine List.forall_mem_cons.2 ⟨by first | rfl | assumption,?_⟩)); exact fun _ h=>absurd h List.not_mem_nil) | exact Cel.one _ w _ (by first | assumption | exact trivial))
  (hT:tkf P T=some (true,q):=by exact rfl) (hnn:vs.length=q:=by exact rfl) (hL:lset L j (blk b vs e)=some L':=by exact rfl) (hr:runF P n rest l=some (rest',l''):=by exact rfl) :
  WS P ro n0 w0 ds ops Q L (⟨none,.store T x y,ty,ps,af,none⟩::rest) l:=WS.storeW hx hj hy hn h1 (Jd9 hT) hnn hL (Wz n k hr)
variable {ll:Nat→List Value} {rr:Nat→List Oper} {lz:Nat→List Value}
theorem Wb (n:Nat) (hx:evo l x=some v) (hc:v.cells=c.toArray) (hl:∀ b,lset l d (.pointer (some ⟨b,0,none⟩))=some (ll b)) (hr:∀ b,runF P n rest (ll b)=some (rr b,lz b))
  (k:∀ b,n0≤b→WS P ro n0 w0 ds ops Q (blk b c T::L) (rr b) (lz b)):WS P ro n0 w0 ds ops Q L (⟨some d,.box T x,ty,ps,af,none⟩::rest) l:=WS.box hx hc hl fun b hb=>Wz n (k b hb) (hr b)
theorem Wl (n:Nat) (hz:zv P T=some c) (hl:∀ b,lset l d (.pointer (some ⟨b,0,none⟩))=some (ll b)) (hr:∀ b,runF P n rest (ll b)=some (rr b,lz b))
  (k:∀ b,n0≤b→WS P ro n0 w0 ds ops Q (blk b c T::L) (rr b) (lz b)):WS P ro n0 w0 ds ops Q L (⟨some d,.alloc T,ty,ps,af,none⟩::rest) l:=WS.alloc hz hl fun b hb=>Wz n (k b hb) (hr b)
theorem Nz (n:Nat) {id:Nat} {os:List Oper} {z:Code} (k:WS P ro n0 w0 ds os.toArray (Exit.then (z.wpIn (FW ro) 0 P Q) Q) L rest' l'') (hr:runF P n os l=some (rest',l''):=by exact rfl):CS P ro n0 w0 ds (.seq (.region id os.toArray false) z) Q L l:=CS.seq (CS.region (Wz n k hr))
theorem Ny (n:Nat) {id:Nat} {os:List Oper} (k:WS P ro n0 w0 ds os.toArray Q L rest' l'') (hr:runF P n os l=some (rest',l''):=by exact rfl):CS P ro n0 w0 ds (.region id os.toArray false) Q L l:=CS.region (Wz n k hr)
end
section
variable {P:Program} {ro:Option Nat} {n0:Nat} {w0:World} {ds:List Deferred} {ops:Array Oper} {Q:Exit→Act→World→Prop} {L:List SA} {C:World→Prop} {l:List Value} {o:Oper} {b:Bool} {rest:List Oper}
theorem Fy_ (h:False):Det P C o l undef:=h.elim
theorem Fz_ (h:False):Det P C o l (.bool false):=h.elim
theorem Fy (h:b=false) (k:b=true):Det P C o l undef:=Bool.noConfusion (h.symm.trans k)
theorem Fz (h:b=false) (k:b=true):Det P C o l (.bool false):=Bool.noConfusion (h.symm.trans k)
theorem eg_ {x:Operand} {v:Value} (hb:b=true) (h:evo l x=some (cond b v undef)):evo l x=some v:=Jm8 hb h
theorem en_:evs l []=some []:=rfl
theorem ec_ {x:Operand} {xs:List Operand} {v:Value} {vs:List Value} (h:evo l x=some v) (h2:evs l xs=some vs):evs l (x::xs)=some (v::vs):=Jw2 h h2
theorem Ck (k:QS n0 w0 ds Q .normal L l):CS P ro n0 w0 ds .skip Q L l:=CS.skip k
theorem Cr (k:QS n0 w0 ds Q .ret L l):CS P ro n0 w0 ds .ret Q L l:=CS.ret k
theorem Cv {id:Nat} (k:QS n0 w0 ds Q (.exit id) L l):CS P ro n0 w0 ds (.exit id) Q L l:=CS.leave k
theorem Cs {x y:Code} (k:CS P ro n0 w0 ds x (Exit.then (y.wpIn (FW ro) 0 P Q) Q) L l):CS P ro n0 w0 ds (.seq x y) Q L l:=CS.seq k
theorem Ce {id:Nat} {c:Code} (k:CS P ro n0 w0 ds c (Exit.inBlock id Q) L l):CS P ro n0 w0 ds (.block id c) Q L l:=CS.block k
theorem Qc {y:Code} {Q':Exit→Act→World→Prop} (k:CS P ro n0 w0 ds y Q' L l):QS n0 w0 ds (Exit.then (y.wpIn (FW ro) 0 P Q') Q) .normal L l:=k
theorem Qr {K:Act→World→Prop} (k:QS n0 w0 ds Q .ret L l):QS n0 w0 ds (Exit.then K Q) .ret L l:=k
theorem Qe {K:Act→World→Prop} {i:Nat} (k:QS n0 w0 ds Q (.exit i) L l):QS n0 w0 ds (Exit.then K Q) (.exit i) L l:=k
theorem Qb {id:Nat} (k:QS n0 w0 ds Q .normal L l):QS n0 w0 ds (Exit.inBlock id Q) .normal L l:=k
theorem Qs {id:Nat} (k:QS n0 w0 ds Q .ret L l):QS n0 w0 ds (Exit.inBlock id Q) .ret L l:=k
theorem Qx {id:Nat} (k:QS n0 w0 ds Q .normal L l):QS n0 w0 ds (Exit.inBlock id Q) (.exit id) L l:=QS.block_exit k
theorem Wd (k:QS n0 w0 ds Q .normal L l):WS P ro n0 w0 ds ops Q L [] l:=WS.done k
theorem Dd (k:QS n0 w0 ds Q .normal L l):DS P n0 w0 ds ops Q L [] l:=k
theorem Qa {bl:List Bool} {fuel:Nat} (k:AS P ro n0 w0 ds ops Q C L fuel bl l):QS n0 w0 ds (Exit.then (AH P ro ops (NP ops Q) C fuel bl.toArray) (NP ops Q)) .normal L l:=QS.then_AS k
theorem Qt {bl:List Bool} {fuel s:Nat} (k:AT P ro n0 w0 ds ops Q C s L fuel bl l):QS n0 w0 ds (Exit.then (AZ P ro ops (NP ops Q) C s fuel bl.toArray) (NP ops Q)) .normal L l:=QS.then_AT k
theorem Wc {β:Type} {f:Operand} {args:List Operand} {ts:Array TypeId} {fn:FuncId} {cap:List Value} {vs:List Value} {v:β→Value} {A:β→SA} {p:β→Prop} {i:Nat} {l':β→List Value} {ty:TypeId} {ps:String} {af:Array Edge}
  (hf:evo l f=some (.func (.func fn) #[] cap.toArray)) (hv:evs l args=some vs) (he:Ent P fn)
  (hc:∀ u,St n0 w0 L u→Calls P fn (vs++cap).toArray u (fun e u'=>∃ x,p x∧RetF u (v x) (A x) e u'))
  (hl:∀ x,lset l i (v x)=some (l' x)) (k:∀ x,p x→WS P ro n0 w0 ds ops Q (A x::L) rest (l' x)) :
  WS P ro n0 w0 ds ops Q L (⟨some i,.call ⟨.value f,args.toArray,ts⟩,ty,ps,af,none⟩::rest) l:=WS.callF hf hv he hc hl k
end
end Go.Proofs.YtkekjhcmephhjaaGreatDoor
namespace Go.Proofs.YtkekjhcmephhjaaGreatDoor
set_option linter.unusedVariables false
set_option linter.unusedSimpArgs false
open Go.RowKit Go.Proofs
def cU8:Cel Int:=⟨1,fun x=>[.int .u8 x],fun _ _=>True,fun _=>rfl,fun _ _ _ _ _=>trivial,fun _ _ _ v hv=>by simp at hv; subst hv; rfl⟩
def byts (t:ByteArray):List Int:=(bl t).map fun b=>(b.toNat:Int)
theorem Jib (t:ByteArray):(byts t).length=t.size:=by simp [byts]
theorem Jwl {t:ByteArray} {i:Int} (h0:0≤i) (h1:i < t.size):nth (byts t) i=byt t i:=by
 have h2:i.toNat < (bl t).length:=by rw [Jbj]; omega
 have e:=Jio (t:=t) (i:=i.toNat) (by omega)
 rw [show ((i.toNat:Nat):Int)=i by omega] at e
 rw [e]
 simp only [byts,nth,List.getD,List.getElem?_map,List.getElem?_eq_getElem h2,Option.map_some,Option.getD_some]
def RetL (w:World) (xs:List ByteArray):Ending→World→Prop:=fun e w'=>∃ v:Value,(∃ u0,SlT cStr u0 ⟨v,xs⟩)∧RetF w v (roT cStr ⟨v,xs⟩) e w'
theorem Jvf (xs:List ByteArray):Jax cStr xs=xs.map Value.string:=by
 unfold Jax
 induction xs with
 | nil=>rfl
 | cons x xs ih=>rw [List.map_cons,List.flatten_cons,ih]; rfl
theorem Jl1 {u:World} {b:Nat} {xs:List ByteArray} {e:TypeId} (hb:u.heap[b]? = some (.cells (xs.map Value.string).toArray e (0,0))) (h:xs.length≤9223372036854775807) :
  SlT cStr u ⟨.slice (some ⟨b,0,none⟩) xs.length xs.length,xs⟩:=by
 refine ⟨⟨by rw [Jbx],some ⟨b,0,none⟩,xs.length,rfl,⟨Nat.le_refl _,h⟩,.inr ⟨b,0,rfl,fun m x hx=>?_⟩⟩,fun _ _=>trivial⟩
 simp only at hx
 rw [Jvf] at hx
 rw [Nat.zero_add,Jcz hb m]
 exact hx
theorem Jqm {w:World} {xs:List ByteArray} {e:TypeId} (h:xs.length≤9223372036854775807) :
  RetL w xs (.returned (.slice (some ⟨w.heap.size,0,none⟩) xs.length xs.length)) (w.alloc (.cells (xs.map Value.string).toArray e)):=by
 have h0:(w.alloc (.cells (xs.map Value.string).toArray e)).heap[w.heap.size]? = some (.cells (xs.map Value.string).toArray e (0,0)):=World.alloc_heap_new w _
 refine ⟨_,⟨_,Jl1 h0 h⟩,rfl,(Below.refl _ w).alloc (Nat.le_refl _) _,fun k=>k=w.heap.size,⟨fun u' hk=>Jl1 (hk _ rfl _ h0) h,fun k hk=>?_⟩,fun k hk=>by omega⟩
 subst hk
 exact (Array.getElem?_eq_some_iff.1 h0).1
section
variable {P:Program} {ro:Option Nat} {n0:Nat} {w0:World} {ds:List Deferred} {ops:Array Oper} {Q:Exit→Act→World→Prop} {L:List SA} {rest:List Oper} {l:List Value} {d:Option Tmp} {ty:TypeId} {ps:String} {af:Array Edge} {g:Option (Nat × Bool)} {C:World→Prop}
theorem Jm1 {T T':TypeId} {x:Operand} (hT:P.underlying T=some (.interface (P.methodsAt T))) (hx:evo l x=some .nilIface):Det P C ⟨d,.binOp .eql T x (.const .nilIface) T',ty,ps,af,g⟩ l (.bool true):=fun u _=>by
 replace hx:=Jan hx
 have h:=run_equal_nil_nil u T hT
 have hy:ev l (.const .nilIface) = .nilIface:=rfl
 simp [execOp,Jap,hx,hy,eqGuard,binOp,h]
theorem Jmo {u:World} {b:Nat} {t:ByteArray} {w:World} {e:TypeId} (hb:∀ j,j < t.size→u.cell? ⟨b,j,none⟩=some (.int .u8 (t.data.toList.getD j 0).toNat)) (h:t.size≤maxLen) :
  SlT cU8 u ⟨.slice (some ⟨b,0,none⟩) t.size (grownCap w t.size 0 e),byts t⟩:=by
 refine ⟨⟨by rw [Jbx],some ⟨b,0,none⟩,grownCap w t.size 0 e,by simp only [Jib],⟨by simp only [Jib]; exact grownCap_ge .., ?_⟩,.inr ⟨b,0,rfl,fun m x hx=>?_⟩⟩,fun _ _=>trivial⟩
 ·
  have:=grownCap_le_maxLen w t.size 0 e h
  unfold maxLen at this
  omega
 simp only at hx
 have hm:=(List.getElem?_eq_some_iff.1 hx).1
 rw [Jbx,Jib,show cU8.k=1 from rfl,Nat.mul_one] at hm
 have h2:=Jco cU8 (l:=byts t) (i:=(m:Int)) (by omega) (by rw [Jib]; omega) 0 (by decide)
 rw [show cU8.k=1 from rfl,Nat.mul_one,Nat.add_zero,show ((m:Int)).toNat=m by omega,hx] at h2
 rw [Nat.zero_add,hb m hm,h2]
 have e1:nth (byts t) (m:Int)=((t.data.toList.getD m 0).toNat:Int):=by
  rw [Jwl (by omega) (by omega),Jio hm]
  congr 2
  rw [List.getD,List.getElem?_eq_getElem (by rw [Jbj]; exact hm)]; rfl
 rw [e1]; rfl
theorem WS.bytes {T T' e:TypeId} {i:Nat} {x:Operand} {t:ByteArray} (hT:P.underlying T=some .string) (hT':P.underlying T'=some (.slice e)) (he:P.underlying e=some (.int .u8)) (hx:evo l x=some (.string t)) (h:t.size≤maxLen)
  {l':Value→List Value} (hl:∀ v,lset l i v=some (l' v)) (k:∀ v,(∃ u0,SlT cU8 u0 ⟨v,byts t⟩)→WS P ro n0 w0 ds ops Q (roT cU8 ⟨v,byts t⟩::L) rest (l' v)) :
  WS P ro n0 w0 ds ops Q L (⟨some i,.convert T T' x,ty,ps,af,none⟩::rest) l:=by
 refine WS.world rfl rfl fun u hu=>?_
 replace hx:=Jan hx
 refine ⟨.slice (some ⟨u.heap.size,0,none⟩) t.size (grownCap u t.size 0 e),Lib.bytesWorld u e t,?_,?_⟩
 ·
  have h1:(convert T T' (.string t)).run P u=_:=Lib.run_convert_string_bytes u T T' e t hT hT' he
  simp [execOp,hx,h1]
 show wpListIn (FW ro) 0 P ops Q rest ((Act.mk l.toArray ds).put (some i) _) _
 rw [Jaz,Jal (hl _)]
 have hc:∀ j,j < t.size→(Lib.bytesWorld u e t).cell? ⟨u.heap.size,j,none⟩=some (.int .u8 (t.data.toList.getD j 0).toNat):=Lib.bytesWorld_cell u e t
 have hat:=Lib.bytesWorld_at_new u e t
 refine k _ ⟨_,Jmo hc h⟩ _ (hu.cons (T:=fun k=>k=u.heap.size) (Lib.bytesWorld_below u e t) ⟨fun u' hk=>Jmo (fun j hj=>?_) h,fun k hk=>?_⟩ fun k hk=>by omega)
 ·
  rw [← hc j hj]
  have h3:=hk _ rfl _ hat
  simp [World.cell?,h3,hat]
 subst hk
 exact (Array.getElem?_eq_some_iff.1 hat).1
end
end Go.Proofs.YtkekjhcmephhjaaGreatDoor
namespace Go.Proofs.YtkekjhcmephhjaaGreatDoor
set_option linter.unusedVariables false
set_option linter.unusedSimpArgs false
open Go.RowKit
structure LockD where
 w:Int
 s:Int
 deriving Inhabited,DecidableEq
structure NoteD where
 nm:ByteArray
 pl:Int
 lk:Int
 wh:Sl Lit
 cl:Clue
 gv:Value
 deriving Inhabited
structure NoteP where
 nm:ByteArray
 pl:Int
 lk:Int
 wh:List Lit
 cl:Clue
 deriving Inhabited
def NoteD.p (n:NoteD):NoteP:=⟨n.nm,n.pl,n.lk,n.wh.l,n.cl⟩
structure Game where
 rm:Room
 lks:Sl LockD
 cds:Sl (Sl Int)
 nts:Sl NoteD
 tr:Int
 deriving Inhabited
structure GP where
 rm:Room
 lks:List LockD
 cds:List (List Int)
 nts:List NoteP
 tr:Int
 deriving Inhabited
def Game.p (g:Game):GP:=⟨g.rm.e,g.lks.l,g.cds.l.map Sl.l,g.nts.l.map NoteD.p,g.tr⟩
structure Pos where
 st:Stt
 rd:Sl Bool
 deriving Inhabited
def J37:Cel LockD:=⟨2,fun a=>[.int .i64 a.w,.int .i64 a.s],fun _ _=>True,fun _=>rfl,fun _ _ _ _ _=>trivial,fun _ _ _ v hv=>by simp at hv; rcases hv with rfl | rfl <;> rfl⟩
theorem SlI.one1 {w:World} {v:Value} {xs:List Int} (h:SlI w v xs):v.oneCell'=true:=by
 obtain ⟨p,cap,rfl⟩:=h.shape; rfl
def J4r:Cel NoteD:=⟨11,fun a=>[.string a.nm,.int .i64 a.pl,.int .i64 a.lk,a.wh.v,.int .i64 a.cl.k,.int .i64 a.cl.a,.int .i64 a.cl.b,.int .i64 a.cl.n,.int .i64 a.cl.m,a.gv,.bool a.cl.nt],
 fun w a=>SlT cLit w a.wh∧SlI w a.gv a.cl.g,fun _=>rfl,fun _ _ _ h hb=>⟨h.1.ext hb,h.2.ext hb⟩,fun _ _ h v hv=>by
 simp at hv; rcases hv with rfl | rfl | rfl | rfl | rfl | rfl | rfl | rfl | rfl | rfl | rfl
 ·
  rfl
 ·
  rfl
 ·
  rfl
 ·
  exact Sl.one h.1
 ·
  rfl
 ·
  rfl
 ·
  rfl
 ·
  rfl
 ·
  rfl
 ·
  exact h.2.one1
 rfl⟩
structure GameOk (w:World) (g:Game):Prop where
 rm:RoomOk w g.rm
 lks:SlT J37 w g.lks
 cds:SlT (cSl cInt) w g.cds
 nts:SlT J4r w g.nts
theorem GameOk.ext {w u:World} {g:Game} (h:GameOk w g) (hb:Below w.heap.size w u):GameOk u g:=⟨h.rm.ext hb,h.lks.ext hb,h.cds.ext hb,h.nts.ext hb⟩
theorem GameOk.st {w u:World} {L:List SA} {g:Game} (h:GameOk w g) (hu:St w.heap.size w L u):GameOk u g:=h.ext hu.below
structure PosOk (w:World) (p:Pos):Prop where
 st:SttOk w p.st
 rd:SlT cBool w p.rd
theorem PosOk.ext {w u:World} {p:Pos} (h:PosOk w p) (hb:Below w.heap.size w u):PosOk u p:=⟨h.st.ext hb,h.rd.ext hb⟩
abbrev PX:=P3 × List Bool
def Pos.x (p:Pos):PX:=(p.st.x,p.rd.l)
def J4a (c:Clue):Bool:=decide (c.k=0) && (decide (c.a=0) && (decide (c.b=0) && (decide (c.n=0) && (decide (c.m=0) && (decide ((c.g.length:Int)=0) && !c.nt)))))
def Jp2 (x:P3) (n:NoteP):Bool:=x.2.2.any (fun p=>decide (p=n.pl)) && Jfo x.1 n.wh
def Jrl (G:GP) (x:P3) (rd:List Bool):List Bool:=(Jkb rd.length).map fun i=>nth rd i || Jp2 x (nth G.nts i)
def J1k (G:Game) (n:NoteD):Bool:=if n.lk = -1 then J4a n.cl else decide (Jz4 (nth G.lks.l n.lk).w (nth G.lks.l n.lk).s n.cl=0) && Jur n.cl (nth G.cds.l n.lk).l
def ntG (G:Game) (i:Int):Bool:=newB NoteD.nm G.nts.l i && (Jay (nth G.nts.l i).nm && (placeB G.rm (nth G.nts.l i).pl && ((decide (-1≤(nth G.nts.l i).lk) && decide ((nth G.nts.l i).lk≤(G.lks.l.length:Int) - 1)) && J1k G (nth G.nts.l i))))
theorem Jqp {G:Game} {n:NoteD} (h:¬ n.lk = -1):J1k G n=(decide (Jz4 (nth G.lks.l n.lk).w (nth G.lks.l n.lk).s n.cl=0) && Jur n.cl (nth G.cds.l n.lk).l):=if_neg h
end Go.Proofs.YtkekjhcmephhjaaGreatDoor
namespace Go.Proofs.YtkekjhcmephhjaaGreatDoor
set_option linter.unusedVariables false
set_option linter.unusedSimpArgs false
open Go.RowKit Go.MapKept
structure MapI (es:Array MapEntry) (f:Int→Int):Prop where
 num:∀ e∈es.toList,∃ k,e.key = .int .i64 k∧e.val = .int .i64 (f k)
 non:∀ k,(∀ e∈es.toList,e.key ≠ .int .i64 k)→f k=0
 dis:es.toList.Pairwise fun a b=>a.key≠b.key
theorem Jjg {α:Type} (f:α→α):∀ (l:List α) (j:Nat) (e:α),l[j]? = some e→l.modify j f=l.set j (f e)
 | [],_,_,h=>by simp at h
 | a::l,0,e,h=>by simp at h; subst h; rfl
 | a::l,j+1,e,h=>by
  rw [List.modify_succ_cons,List.set_cons_succ,Jjg f l j e (by simpa using h)]
def zo (P:Program) (T:TypeId):Option Value:=(P.info? T).bind fun i=>i.zero
def updI (f:Int→Int) (k v:Int):Int→Int:=fun j=>if j=k then v else f j
theorem MapI.nil:MapI #[] fun _=>0:=⟨by simp,fun _ _=>rfl,by simp⟩
theorem MapI.new {es:Array MapEntry} {f:Int→Int} (h:MapI es f) {k:Int} (hk:∀ x∈es.toList,x.key ≠ .int .i64 k) (v:Int) (c:Nat):MapI (es.push ⟨.int .i64 k,.int .i64 v,c⟩) (updI f k v):=by
 refine ⟨fun e he=>?_,fun j hj=>?_,?_⟩
 ·
  rw [Array.toList_push,List.mem_append,List.mem_singleton] at he
  rcases he with he | rfl
  ·
   obtain ⟨q,h1,h2⟩:=h.num e he
   refine ⟨q,h1,?_⟩
   have:q≠k:=fun hq=>hk e he (by rw [h1,hq])
   rw [h2,updI,if_neg this]
  exact ⟨k,rfl,by simp [updI]⟩
 ·
  have h1:j≠k:=fun hq=>hj ⟨.int .i64 k,.int .i64 v,c⟩ (by simp) (by rw [hq])
  rw [updI,if_neg h1]
  exact h.non j fun e he=>hj e (by simp [Array.toList_push]; exact .inl (by simpa using he))
 rw [Array.toList_push,List.pairwise_append]
 exact ⟨h.dis,List.pairwise_singleton _ _,fun a ha b hb=>by rw [List.mem_singleton] at hb; subst hb; exact hk a ha⟩
theorem MapI.at {es:Array MapEntry} {f:Int→Int} (h:MapI es f) {j:Nat} {e:MapEntry} {k:Int} (hj:es.toList[j]? = some e) (hk:e.key = .int .i64 k):e.val = .int .i64 (f k):=by
 obtain ⟨q,h1,h2⟩:=h.num e (List.mem_of_getElem? hj)
 rw [hk] at h1
 rw [h2]; injection h1 with _ h3; rw [h3]
theorem MapI.apart {es:Array MapEntry} {f:Int→Int} (h:MapI es f) {i j:Nat} {a b:MapEntry} (hi:es.toList[i]? = some a) (hj:es.toList[j]? = some b) (hk:a.key=b.key):i=j:=by
 obtain ⟨hi1,hi2⟩:=List.getElem?_eq_some_iff.1 hi
 obtain ⟨hj1,hj2⟩:=List.getElem?_eq_some_iff.1 hj
 have hp:=List.pairwise_iff_getElem.1 h.dis
 rcases Nat.lt_trichotomy i j with h1 | h1 | h1
 ·
  exact (hp i j hi1 hj1 h1 (by rw [hi2,hj2]; exact hk)).elim
 ·
  exact h1
 exact (hp j i hj1 hi1 h1 (by rw [hi2,hj2]; exact hk.symm)).elim
theorem MapI.old {es:Array MapEntry} {f:Int→Int} (h:MapI es f) {j:Nat} {e:MapEntry} {k:Int} (hj:es.toList[j]? = some e) (hk:e.key = .int .i64 k) (v:Int) :
  MapI (es.modify j fun e'=>{ e' with key:=.int .i64 k,val:=.int .i64 v }) (updI f k v):=by
 have hl:(es.modify j fun e'=>{ e' with key:=.int .i64 k,val:=.int .i64 v }).toList=es.toList.set j { e with key:=.int .i64 k,val:=.int .i64 v }:=by
  rw [Array.toList_modify,Jjg _ _ _ _ hj]
 have hjl:=(List.getElem?_eq_some_iff.1 hj).1
 refine ⟨fun x hx=>?_,fun q hq=>?_,?_⟩
 ·
  rw [hl] at hx
  obtain ⟨i,hi⟩:=List.getElem?_of_mem hx
  by_cases hij:i=j
  ·
   subst hij
   rw [List.getElem?_set_self hjl] at hi
   cases hi
   exact ⟨k,rfl,by simp [updI]⟩
  rw [List.getElem?_set_ne (Ne.symm hij)] at hi
  obtain ⟨q,h1,h2⟩:=h.num x (List.mem_of_getElem? hi)
  refine ⟨q,h1,?_⟩
  have:q≠k:=fun hq=>hij (h.apart hi hj (by rw [h1,hk,hq]))
  rw [h2,updI,if_neg this]
 ·
  rw [hl] at hq
  have h1:q≠k:=fun h0=>hq _ (List.mem_of_getElem? (List.getElem?_set_self hjl)) (by simp [h0])
  rw [updI,if_neg h1]
  refine h.non q fun x hx hxk=>?_
  obtain ⟨i,hi⟩:=List.getElem?_of_mem hx
  by_cases hij:i=j
  ·
   subst hij
   rw [hj] at hi; cases hi
   rw [hk] at hxk; injection hxk with _ h3; exact h1 h3.symm
  exact hq x (List.mem_of_getElem? (by rw [List.getElem?_set_ne (Ne.symm hij)]; exact hi)) hxk
 rw [hl,List.pairwise_iff_getElem]
 intro a b ha hb hab
 have hp:=List.pairwise_iff_getElem.1 h.dis
 have e1:∀ i (hi:i < (es.toList.set j { e with key:=.int .i64 k,val:=.int .i64 v }).length),((es.toList.set j { e with key:=.int .i64 k,val:=.int .i64 v })[i]).key=(es.toList[i]'(by simpa using hi)).key:=fun i hi=>by
  rw [List.getElem_set]
  split
  ·
   rename_i hji; subst hji
   have:=(List.getElem?_eq_some_iff.1 hj).2
   rw [this,hk]
  rfl
 rw [e1,e1]
 exact hp a b (by simpa using ha) (by simpa using hb) hab
theorem MapI.drop {es:Array MapEntry} {f:Int→Int} (h:MapI es f) {j:Nat} {e:MapEntry} {k:Int} (hj:es.toList[j]? = some e) (hk:e.key = .int .i64 k):MapI (es.eraseIdxIfInBounds j) (updI f k 0):=by
 have hjl:j < es.toList.length:=(List.getElem?_eq_some_iff.1 hj).1
 have hjs:j < es.size:=by simpa using hjl
 have hl:(es.eraseIdxIfInBounds j).toList=es.toList.eraseIdx j:=by
  unfold Array.eraseIdxIfInBounds
  rw [dif_pos hjs]; simp
 have hne:∀ x∈es.toList.eraseIdx j,x.key ≠ .int .i64 k:=fun x hx hxk=>by
  obtain ⟨i,hij,hi⟩:=List.mem_eraseIdx_iff_getElem?.1 hx
  exact hij (h.apart hi hj (by rw [hxk,hk]))
 refine ⟨fun x hx=>?_,fun q hq=>?_,by rw [hl]; exact h.dis.sublist (List.eraseIdx_sublist _ _)⟩
 ·
  rw [hl] at hx
  obtain ⟨q,h1,h2⟩:=h.num x ((List.eraseIdx_sublist _ _).subset hx)
  refine ⟨q,h1,?_⟩
  have:q≠k:=fun hq=>hne x hx (by rw [h1,hq])
  rw [h2,updI,if_neg this]
 rw [hl] at hq
 by_cases h1:q=k
 ·
  simp [updI,h1]
 rw [updI,if_neg h1]
 refine h.non q fun x hx hxk=>?_
 obtain ⟨i,hi⟩:=List.getElem?_of_mem hx
 by_cases hij:i=j
 ·
  subst hij
  rw [hj] at hi; cases hi
  rw [hk] at hxk; injection hxk with _ h3; exact h1 h3.symm
 exact hq x (List.mem_eraseIdx_iff_getElem?.2 ⟨i,hij,hi⟩) hxk
end Go.Proofs.YtkekjhcmephhjaaGreatDoor
namespace Go.Proofs.YtkekjhcmephhjaaGreatDoor
set_option linter.unusedVariables false
set_option linter.unusedSimpArgs false
open Go.RowKit
def putL:Nat→List Value→List Value→Option (List Value)
 | 0,[],z=>some z
 | 0,c::cs,_::z=>match putL 0 cs z with
  | some r=>some (c::r)
  | none=>none
 | o+1,cs,x::z=>match putL o cs z with
  | some r=>some (x::r)
  | none=>none
 | _,_,[]=>none
theorem Jim:∀ {o:Nat} {cs z r:List Value},putL o cs z=some r→o+cs.length≤z.length∧r=z.take o++(cs++z.drop (o+cs.length))
 | 0,[],z,r,h=>by simp [putL] at h; subst h; simp
 | 0,c::cs,[],r,h=>by simp [putL] at h
 | 0,c::cs,y::z,r,h=>by
  unfold putL at h
  split at h
  ·
   rename_i r' hr
   simp at h
   subst h
   have:=Jim hr
   simp at this ⊢
   obtain ⟨h1,h2⟩:=this
   exact ⟨by omega,by rw [h2]⟩
  simp at h
 | o+1,cs,[],r,h=>by cases cs <;> simp [putL] at h
 | o+1,cs,x::z,r,h=>by
  have h':(match putL o cs z with | some r=>some (x::r) | none=>none)=some r:=by cases cs <;> exact h
  split at h'
  ·
   rename_i r' hr
   simp at h'
   subst h'
   have:=Jim hr
   obtain ⟨h1,h2⟩:=this
   refine ⟨by simp; omega,?_⟩
   rw [show o+1+cs.length=o+cs.length+1 by omega]
   simp [h2]
  simp at h'
def bldG (pls:List (Nat × Nat)):List Value→List (Nat × List Value)→Option (List Value)
 | z,[]=>some z
 | z,(i,cs)::r=>match pls[i]? with
  | some (o,n)=>match Nat.beq cs.length n with
   | true=>match putL o cs z with
    | some z'=>bldG pls z' r
    | none=>none
   | false=>none
  | none=>none
inductive CellsOf:List (Nat × Value)→List (Nat × List Value)→Prop
 | nil:CellsOf [] []
 | agg {i:Nat} {c:List Value} {r:List (Nat × Value)} {s:List (Nat × List Value)} (h:CellsOf r s):CellsOf ((i,.agg c.toArray)::r) ((i,c)::s)
 | one {i:Nat} {v:Value} {r:List (Nat × Value)} {s:List (Nat × List Value)} (h1:v.oneCell'=true) (h:CellsOf r s):CellsOf ((i,v)::r) ((i,[v])::s)
theorem Jt7 {v:Value} (h:v.oneCell'=true):v.cells = #[v]:=by cases v <;> simp_all [Value.cells,Value.oneCell']
theorem Jsp (pls:List (Nat × Nat)):∀ {ps:List (Nat × Value)} {pcs:List (Nat × List Value)} {z cs:List Value},CellsOf ps pcs→bldG pls z pcs=some cs→Instr.fill (pls.toArray[·]?) z.toArray ps=some cs.toArray:=by
 have step:∀ {i:Nat} {v:Value} {c:List Value} {ps:List (Nat × Value)} {pcs:List (Nat × List Value)} {z cs:List Value},v.cells=c.toArray →
   (∀ {z cs:List Value},bldG pls z pcs=some cs→Instr.fill (pls.toArray[·]?) z.toArray ps=some cs.toArray)→bldG pls z ((i,c)::pcs)=some cs→Instr.fill (pls.toArray[·]?) z.toArray ((i,v)::ps)=some cs.toArray:=by
  intro i v c ps pcs z cs hv ih h
  unfold bldG at h
  split at h
  ·
   rename_i o n ho
   split at h
   ·
    rename_i hn
    have hn':c.length=n:=Nat.eq_of_beq_eq_true hn
    split at h
    ·
     rename_i z' hz
     obtain ⟨h1,h2⟩:=Jim hz
     have h3:=ih h
     have ho':pls.toArray[i]? = some (o,n):=by simpa using ho
     simp only [Instr.fill,ho',hv]
     rw [if_neg (by simp [hn']; omega)]
     have h4:=Jnu c ((z.drop o).take c.length) (z.take o) (z.drop (o+c.length)) o 0 (by simp; omega) (by simp; omega)
     have h5:z.take o++((z.drop o).take c.length++z.drop (o+c.length))=z:=by
      rw [← List.drop_drop,List.take_append_drop,List.take_append_drop]
     rw [h5] at h4
     have h6:(c.toArray.zipIdx.foldl (fun (cs:Array Value) (x:Value × Nat)=>cs.setIfInBounds (o+x.2) x.1) z.toArray)=z'.toArray:=by
      rw [h2, ← h4]
      simp [← Array.foldl_toList]
     show Instr.fill _ (Array.foldl (fun cs (x:Value × Nat)=>cs.setIfInBounds (o+x.2) x.1) z.toArray c.toArray.zipIdx) ps=_
     rw [h6]
     exact h3
    simp at h
   simp at h
  simp at h
 intro ps pcs z cs hc
 induction hc generalizing z cs with
 | nil=>intro h; simp [bldG] at h; subst h; simp [Instr.fill]
 | agg hc ih=>exact fun h=>step rfl ih h
 | one h1 hc ih=>exact fun h=>step (by rw [Jt7 h1]) ih h
section
variable {P:Program} {ro:Option Nat} {n0:Nat} {w0:World} {ds:List Deferred} {ops:Array Oper} {Q:Exit→Act→World→Prop} {L:List SA}
 {rest:List Oper} {l:List Value} {d:Option Tmp} {ty:TypeId} {ps:String} {af:Array Edge} {g:Option (Nat × Bool)} {C:World→Prop}
theorem Jqu {T:TypeId} {pl:List (Nat × Operand)} {pls:List (Nat × Nat)} {z cs:List Value} {parts:List (Nat × Value)} {pcs:List (Nat × List Value)} (hp:plc P T=some pls) (hz:zv P T=some z) (hv:evp l pl=some parts) (hc:CellsOf parts pcs)
  (hf:bldG pls z pcs=some cs):Det P C ⟨d,.build T pl.toArray,ty,ps,af,g⟩ l (.agg cs.toArray):=Jjh hp hz hv (Jsp pls hc hf)
end
structure GoodG (G:Game):Prop where
 ck:checkE G.rm=0
 nl:G.lks.l.length≤8
 nn:G.nts.l.length≤16
 lk:∀ j:Int,0≤j→j < G.lks.l.length→Jna (nth G.lks.l j).w (nth G.lks.l j).s=true
 cl:G.cds.l.length=G.lks.l.length
 cd:∀ j:Int,0≤j→j < G.lks.l.length→J40 (nth G.lks.l j).w (nth G.lks.l j).s (nth G.cds.l j).l=0
 al:∀ j:Int,0≤j→j < G.rm.acs.l.length→(nth G.rm.acs.l j).lk < G.lks.l.length
 nt:∀ j:Int,0≤j→j < G.nts.l.length→ntG G j=true
 wh:∀ j:Int,0≤j→j < G.nts.l.length→Jeg G.rm.ths.l (nth G.nts.l j).wh.l=true
 tr:1≤G.tr∧G.tr≤100
theorem GoodG.ready {G:Game} (h:GoodG G):Ready G.rm:=Jfd h.ck
theorem GoodG.cond {G:Game} (h:GoodG G) {j:Int} (h0:0≤j) (h1:j < G.nts.l.length):Jg7 G.rm.ths.l.length (nth G.nts.l j).wh.l:=Jhh (h.wh j h0 h1)
theorem PosOk.nil (w:World):PosOk w ⟨⟨⟨.slice none 0 0,[]⟩,⟨.slice none 0 0,[]⟩,⟨.slice none 0 0,[]⟩⟩,⟨.slice none 0 0,[]⟩⟩:=⟨⟨SlT.nil _ _,SlT.nil _ _,SlT.nil _ _⟩,SlT.nil _ _⟩
structure ReadTo (G:GP) (x:P3) (rd:List Bool) (i:Int) (s:List Bool):Prop where
 len:s.length=rd.length
 lo:∀ j:Int,0≤j→j < i→nth s j=(nth rd j || Jp2 x (nth G.nts j))
 hi:∀ j:Int,i≤j→0≤j→nth s j=nth rd j
theorem ReadTo.zero {G:GP} {x:P3} {rd:List Bool}:ReadTo G x rd 0 rd:=⟨rfl,fun j a b=>by omega,fun j a b=>rfl⟩
theorem Jwy {n:Nat} {i:Int} (h0:0≤i) (h1:i < n):nth (Jkb n) i=i:=by
 have h2:i.toNat < n:=by omega
 simp [Jkb,nth,List.getD,h2]; omega
theorem Jvq {α β:Type} [Inhabited α] [Inhabited β] (f:α→β) {l:List α} {i:Int} (h0:0≤i) (h1:i < l.length):nth (l.map f) i=f (nth l i):=by
 have h2:i.toNat < l.length:=by omega
 simp [nth,List.getD,h2]
theorem Jtm {G:GP} {x:P3} {rd:List Bool} {i:Int} (h0:0≤i) (h1:i < rd.length):nth (Jrl G x rd) i=(nth rd i || Jp2 x (nth G.nts i)):=by
 unfold Jrl
 have h2:i < ((Jkb rd.length).length:Int):=by simp [Jkb]; omega
 rw [Jvq _ h0 h2,Jwy h0 h1]
theorem Jux {G:GP} {x:P3} {rd:List Bool}:(Jrl G x rd).length=rd.length:=by simp [Jrl,Jkb]
theorem ReadTo.done {G:GP} {x:P3} {rd s:List Bool} {i:Int} (h:ReadTo G x rd i s) (hi:rd.length≤i):s=Jrl G x rd:=by
 refine Jxo (by rw [h.len,Jux]) fun j h0 h1=>?_
 rw [h.len] at h1
 rw [h.lo j h0 (by omega),Jtm h0 h1]
theorem ReadTo.next {G:GP} {x:P3} {rd s s':List Bool} {i:Int} (h:ReadTo G x rd i s) (h0:0≤i) (h1:i < rd.length) (hs:s'=if Jp2 x (nth G.nts i)=true then s.set i.toNat true else s):ReadTo G x rd (i+1) s':=by
 subst hs
 have hl:=h.len
 by_cases hc:Jp2 x (nth G.nts i)=true
 ·
  rw [if_pos hc]
  refine ⟨by simp [hl],fun j a b=>?_,fun j a b=>?_⟩
  ·
   by_cases e:j=i
   ·
    subst e; rw [Jjq h0 (by omega),hc]; simp
   rw [Jcu h0 a e]; exact h.lo j a (by omega)
  rw [Jcu h0 b (by omega)]; exact h.hi j (by omega) b
 rw [if_neg hc]
 refine ⟨hl,fun j a b=>?_,fun j a b=>h.hi j (by omega) b⟩
 by_cases e:j=i
 ·
  subst e; have hc':Jp2 x (nth G.nts j)=false:=by simpa using hc
  rw [h.hi j (Int.le_refl _) a,hc']; simp
 exact h.lo j a (by omega)
theorem GoodG.says {G:Game} (hV:GoodG G) {k:Int} (h0:0≤k) (h1:k < G.nts.l.length) (hl:0≤(nth G.nts.l k).lk) :
  Ji9 (nth G.lks.l (nth G.nts.l k).lk).w (nth G.lks.l (nth G.nts.l k).lk).s (nth G.nts.l k).cl=true∧Jur (nth G.nts.l k).cl (nth G.cds.l (nth G.nts.l k).lk).l=true:=by
 have h:=hV.nt k h0 h1
 unfold ntG at h
 simp only [Bool.and_eq_true,decide_eq_true_eq] at h
 obtain ⟨_,_,_,h3,h4⟩:=h
 rw [Jqp (by omega)] at h4
 simp only [Bool.and_eq_true,decide_eq_true_eq] at h4
 refine ⟨?_,h4.2⟩
 have h5:=h4.1
 unfold Jz4 at h5
 rw [if_pos (hV.lk _ hl (by omega))] at h5
 split at h5
 ·
  assumption
 cases h5
end Go.Proofs.YtkekjhcmephhjaaGreatDoor
namespace Go.Proofs.YtkekjhcmephhjaaGreatDoor
set_option linter.unusedVariables false
set_option linter.unusedSimpArgs false
open Go.RowKit Go.Proofs
theorem Jlb {a b:List Pro} (h:a.map Pro.nm=b.map Pro.nm):∀ ws:Wds,Jbw a ws=Jbw b ws
 | []=>rfl
 | t::r=>by
  have hi:idxN Pro.nm a t=idxN Pro.nm b t:=by
   unfold idxN
   rw [Jh5 Pro.nm (fun x=>seq (Pro.nm x) t) (fun y=>seq y t) (fun _=>rfl),Jh5 Pro.nm (fun x=>seq (Pro.nm x) t) (fun y=>seq y t) (fun _=>rfl),h]
  rw [Jbw,Jbw,hi,Jlb h r]
theorem Jo2 {a b:List Pro} (h:a.map Pro.nm=b.map Pro.nm) (t:ByteArray) (ws:Wds):Jer a t ws=Jer b t ws:=by
 unfold Jer
 rw [Jlb h]
theorem Jwk {r q:Room} (h:r.e=q.e) (k:Int) (ws:Wds):Ja3 r k ws=Ja3 q k ws:=by
 have hA:=Jeq h
 have hl:∀ t w,Jer r.prs.l t w=Jer q.prs.l t w:=fun t w=>Jo2 hA.nms t w
 unfold Ja3 Jdl Jje Jg4 wayW actW Jjf Jw8
 simp only [hA.pls,hA.ths,hl]
theorem Jpw {r q:Room} (h:r.e=q.e) (kd:Int) (t:ByteArray):Jcd r kd t=Jcd q kd t:=by
 unfold Jcd
 simp only [Jwk h]
theorem J0i {r q:Room} (h:r.e=q.e) (x:Ln):(addL r x).e=(addL q x).e:=by
 have h1:r.pls.l.map id=q.pls.l.map id:=congrArg (fun z:Room=>z.pls.l) h
 have h2:r.ths.l.map id=q.ths.l.map id:=congrArg (fun z:Room=>z.ths.l) h
 have h3:r.prs.l.map Pro.e=q.prs.l.map Pro.e:=congrArg (fun z:Room=>z.prs.l) h
 have h4:r.wys.l.map Way.e=q.wys.l.map Way.e:=congrArg (fun z:Room=>z.wys.l) h
 have h5:r.acs.l.map Actn.e=q.acs.l.map Actn.e:=congrArg (fun z:Room=>z.acs.l) h
 have h6:r.aus.l.map Auto.e=q.aus.l.map Auto.e:=congrArg (fun z:Room=>z.aus.l) h
 have h7:r.ply=q.ply:=(congrArg Room.ply h:r.e.ply=q.e.ply)
 have h8:r.gl.l.map id=q.gl.l.map id:=congrArg (fun z:Room=>z.gl.l) h
 cases x <;> simp [addL,Room.e,Sl.e,nls,List.map_append,h1,h2,h3,h4,h5,h6,h7,h8] <;> simp_all
structure RdJ (n:Nat) (r:Room):Prop where
 pls:r.pls.l.length≤n
 ths:r.ths.l.length≤n
 prs:r.prs.l.length≤n
 wys:r.wys.l.length≤n
 acs:r.acs.l.length≤n
 aus:r.aus.l.length≤n
 nm:NmB r
theorem RdJ.en {n:Nat} {r q:Room} (h:r.e=q.e) (hj:RdJ n q):RdJ n r:=by
 have hA:=Jeq h
 have hn:=hA.nms
 have ha:=hA.anms
 refine ⟨by rw [hA.pls]; exact hj.pls,by rw [hA.ths]; exact hj.ths,by rw [hA.lprs]; exact hj.prs,by rw [hA.lwys]; exact hj.wys,by rw [hA.lacs]; exact hj.acs,by rw [hA.laus]; exact hj.aus,?_⟩
 refine ⟨by rw [hA.pls]; exact hj.nm.pl,by rw [hA.ths]; exact hj.nm.th,fun x hx=>?_,fun x hx=>?_⟩
 ·
  have:x.nm∈q.prs.l.map Pro.nm:=hn ▸ List.mem_map_of_mem hx
  obtain ⟨y,hy,e⟩:=List.mem_map.1 this
  rw [← e]; exact hj.nm.pr y hy
 have:x.nm∈q.acs.l.map Actn.nm:=ha ▸ List.mem_map_of_mem hx
 obtain ⟨y,hy,e⟩:=List.mem_map.1 this
 rw [← e]; exact hj.nm.ac y hy
def lnNm:Ln→Option ByteArray
 | .place nm=>some nm
 | .thing x=>some x.nm
 | .prop nm _ _=>some nm
 | .act nm _ _ _ _ _ _ _=>some nm
 | _=>none
theorem RdJ.add {n:Nat} {r:Room} (hj:RdJ n r) (x:Ln) (hx:∀ nm,lnNm x=some nm→nm.size≤70000):RdJ (n+1) (addL r x):=by
 obtain ⟨h1,h2,h3,h4,h5,h6,⟨n1,n2,n3,n4⟩⟩:=hj
 cases x with
 | place nm=>exact ⟨by simp [addL,nls]; omega,by simp [addL]; omega,by simp [addL]; omega,by simp [addL]; omega,by simp [addL]; omega,by simp [addL]; omega,⟨fun y hy=>by
   rcases List.mem_append.1 hy with hy | hy
   ·
    exact n1 y hy
   rw [List.mem_singleton] at hy; subst hy; exact hx _ rfl,n2,n3,n4⟩⟩
 | thing z=>exact ⟨by simp [addL]; omega,by simp [addL,nls]; omega,by simp [addL]; omega,by simp [addL]; omega,by simp [addL]; omega,by simp [addL]; omega,⟨n1,fun y hy=>by
   rcases List.mem_append.1 hy with hy | hy
   ·
    exact n2 y hy
   rw [List.mem_singleton] at hy; subst hy; exact hx _ rfl,n3,n4⟩⟩
 | prop nm pl wh=>exact ⟨by simp [addL]; omega,by simp [addL]; omega,by simp [addL,nls]; omega,by simp [addL]; omega,by simp [addL]; omega,by simp [addL]; omega,⟨n1,n2,fun y hy=>by
   rcases List.mem_append.1 hy with hy | hy
   ·
    exact n3 y hy
   rw [List.mem_singleton] at hy; subst hy; exact hx _ rfl,n4⟩⟩
 | way a b wh=>exact ⟨by simp [addL]; omega,by simp [addL]; omega,by simp [addL]; omega,by simp [addL,nls]; omega,by simp [addL]; omega,by simp [addL]; omega,⟨n1,n2,n3,n4⟩⟩
 | act nm pl lk us wh se sp br=>exact ⟨by simp [addL]; omega,by simp [addL]; omega,by simp [addL]; omega,by simp [addL]; omega,by simp [addL,nls]; omega,by simp [addL]; omega,⟨n1,n2,n3,fun y hy=>by
   rcases List.mem_append.1 hy with hy | hy
   ·
    exact n4 y hy
   rw [List.mem_singleton] at hy; subst hy; exact ⟨hx _ rfl,trivial⟩⟩⟩
 | auto a b wh=>exact ⟨by simp [addL]; omega,by simp [addL]; omega,by simp [addL]; omega,by simp [addL]; omega,by simp [addL]; omega,by simp [addL,nls]; omega,⟨n1,n2,n3,n4⟩⟩
 | players m=>exact ⟨by simp [addL]; omega,by simp [addL]; omega,by simp [addL]; omega,by simp [addL]; omega,by simp [addL]; omega,by simp [addL]; omega,⟨n1,n2,n3,n4⟩⟩
 | goal c=>exact ⟨by simp [addL]; omega,by simp [addL]; omega,by simp [addL]; omega,by simp [addL]; omega,by simp [addL]; omega,by simp [addL]; omega,⟨n1,n2,n3,n4⟩⟩
theorem RdJ.zero:RdJ 0 room0:=⟨Nat.le_refl _,Nat.le_refl _,Nat.le_refl _,Nat.le_refl _,Nat.le_refl _,Nat.le_refl _,⟨fun _ h=>(by cases h),fun _ h=>(by cases h),fun _ h=>(by cases h),fun _ h=>(by cases h)⟩⟩
theorem Jgr {ws r:Wds} {t:ByteArray} (h:Jfn ws=some (t,r)):t∈ws:=by
 cases ws with
 | nil=>cases h
 | cons a l =>
  simp only [Jfn,Jec,Option.bind_some] at h
  split at h
  ·
   cases h; exact List.mem_cons_self
  cases h
theorem Jvg {r:Room} {k:Int} {ws ws':Wds} {x:Ln} (h:Ja3 r k ws=some (x,ws')) (nm:ByteArray) (hx:lnNm x=some nm):nm∈ws:=by
 unfold Ja3 at h
 split at h
 ·
  obtain ⟨⟨a,b⟩,h1,h2⟩:=Option.map_eq_some_iff.1 h; cases h2; cases hx; exact Jgr h1
 split at h
 ·
  simp only [Jdl,Option.bind_eq_some_iff,Option.map_eq_some_iff] at h
  obtain ⟨a,h1,_,_,_,_,_,_,_,_,_,_,_,_,h2⟩:=h
  cases h2; cases hx; exact Jgr h1
 split at h
 ·
  simp only [Jje,Option.bind_eq_some_iff,Option.map_eq_some_iff] at h
  obtain ⟨a,h1,_,_,_,_,h2⟩:=h
  cases h2; cases hx; exact Jgr h1
 split at h
 ·
  simp only [wayW,Option.bind_eq_some_iff,Option.map_eq_some_iff] at h
  obtain ⟨_,_,_,_,_,_,h2⟩:=h
  cases h2; cases hx
 split at h
 ·
  simp only [actW,Option.bind_eq_some_iff,Option.map_eq_some_iff] at h
  obtain ⟨a,h1,_,_,_,_,_,_,_,_,_,_,_,_,_,_,_,_,h2⟩:=h
  cases h2; cases hx; exact Jgr h1
 split at h
 ·
  simp only [Jjf,Option.bind_eq_some_iff] at h
  obtain ⟨_,_,_,_,h2⟩:=h
  split at h2
  ·
   cases h2
  obtain ⟨_,_,h3⟩:=Option.map_eq_some_iff.1 h2
  cases h3; cases hx
 split at h
 ·
  obtain ⟨_,_,h2⟩:=Option.map_eq_some_iff.1 h; cases h2; cases hx
 obtain ⟨_,_,h2⟩:=Option.map_eq_some_iff.1 h; cases h2; cases hx
theorem Jvs {r:Room} {kd k:Int} {t:ByteArray} {x:Ln} (h:Jcd r kd t=some (k,x)) (nm:ByteArray) (hx:lnNm x=some nm):nm.size≤t.size:=by
 unfold Jcd at h
 obtain ⟨⟨a,ws⟩,h1,h2⟩:=Option.bind_eq_some_iff.1 h
 simp only at h2
 split at h2
 ·
  obtain ⟨⟨y,z⟩,h3,h4⟩:=Option.bind_eq_some_iff.1 h2
  split at h4
  ·
   cases h4
   have hm:=Jvg h3 nm hx
   cases hs:Jao 32 t with
   | nil=>rw [hs] at h1; cases h1
   | cons b l =>
    rw [hs] at h1; cases h1
    exact Jlh (c:=32) (by rw [hs]; exact List.mem_cons_of_mem _ hm)
  cases h4
 cases h2
theorem Jwj {r:Room} {kd k:Int} {t:ByteArray} {x:Ln} (h:Jcd r kd t=some (k,x)):kd≤k∧k≤7:=by
 unfold Jcd at h
 obtain ⟨⟨a,ws⟩,h1,h2⟩:=Option.bind_eq_some_iff.1 h
 simp only at h2
 split at h2
 ·
  rename_i hm
  obtain ⟨⟨y,z⟩,h3,h4⟩:=Option.bind_eq_some_iff.1 h2
  split at h4
  ·
   cases h4
   have h8:Jft a < 8:=by
    unfold Jft idxN idxF
    split
    ·
     rename_i i hi
     rw [List.findIdx?_eq_some_iff_getElem] at hi
     obtain ⟨h5,_⟩:=hi
     have:kindsL.length=8:=rfl
     omega
    decide
   simp only [mayK,Bool.and_eq_true,decide_eq_true_eq] at hm
   omega
  cases h4
 cases h2
def finP (r:Room) (kd i:Int):Room × Int × Int:=if kd < 7 then (room0,i+1,4) else if checkE r≠0 then (room0,0,checkE r) else (r,0,0)
def Jel:Room→Int→Int→List ByteArray→Room × Int × Int
 | r,kd,i,[]=>finP r kd i
 | r,kd,i,t::ts=>match ts with
  | []=>if seq t ⟨#[]⟩ then finP r kd i else (room0,i+1,4)
  | _=>match Jcd r kd t with
   | some (k,x)=>Jel (addL r x) k (i+1) ts
   | none=>(room0,i+1,4)
def Ji5 (t:ByteArray):Room × Int × Int:=Jel room0 0 0 (Jao 10 t)
theorem Jf6 {r:Room} {kd i:Int} {t:ByteArray}:Jel r kd i [t]=if seq t ⟨#[]⟩ then finP r kd i else (room0,i+1,4):=by unfold Jel; rfl
theorem Jmt {r:Room} {kd i k:Int} {t:ByteArray} {ts:List ByteArray} {x:Ln} (h0:0 < ts.length) (h:Jcd r kd t=some (k,x)):Jel r kd i (t::ts)=Jel (addL r x) k (i+1) ts:=by
 cases ts with
 | nil=>simp at h0
 | cons a b=>rw [Jel] <;> simp [h]
theorem Jta {r:Room} {kd i:Int} {t:ByteArray} {ts:List ByteArray} (h0:0 < ts.length) (h:Jcd r kd t=none):Jel r kd i (t::ts)=(room0,i+1,4):=by
 cases ts with
 | nil=>simp at h0
 | cons a b=>rw [Jel] <;> simp [h]
theorem Jx6 {s:List UInt8} {c:UInt8}:((Lib.cut s [c]).2.2=true∧c ∉ (Lib.cut s [c]).1∧s=(Lib.cut s [c]).1++c::(Lib.cut s [c]).2.1)∨((Lib.cut s [c]).2.2=false∧c ∉ s):=by
 unfold Lib.cut
 rw [Lib.index_one]
 by_cases h:(0:Int)≤Lib.indexByte s c
 ·
  left
  rw [if_pos h]
  obtain ⟨o,ho⟩:∃ o:Nat,Lib.indexByte s c=o:=⟨(Lib.indexByte s c).toNat,by omega⟩
  obtain ⟨h1,h2⟩:=Lib.indexByte_some ho
  rw [ho]
  simp only [Int.toNat_natCast,List.length_singleton]
  refine ⟨trivial,fun hm=>?_,?_⟩
  ·
   obtain ⟨k,hk,e⟩:=List.mem_iff_getElem.1 hm
   rw [List.getElem_take] at e
   have hk2:k < o:=by simp at hk; omega
   exact h2 k hk2 (by rw [← e]; exact List.getElem?_eq_getElem _)
  have hlt:=(List.getElem?_eq_some_iff.1 h1).1
  have e:s[o]=c:=(List.getElem?_eq_some_iff.1 h1).2
  conv=>lhs; rw [← List.take_append_drop o s,List.drop_eq_getElem_cons hlt,e]
 right
 rw [if_neg h]
 refine ⟨rfl,fun hm=>?_⟩
 obtain ⟨k,hk,e⟩:=List.mem_iff_getElem.1 hm
 have h1:Lib.indexByte s c = -1:=by have:=Lib.indexByte_ge s c; omega
 exact Lib.indexByte_none h1 k (by rw [← e]; exact List.getElem?_eq_getElem _)
theorem Jfh {t:ByteArray} {c:UInt8} (h:(Lib.cut (bl t) [c]).2.2=true):Jao c t=ba (Lib.cut (bl t) [c]).1::Jao c (ba (Lib.cut (bl t) [c]).2.1)∧(ba (Lib.cut (bl t) [c]).1).size≤t.size∧(ba (Lib.cut (bl t) [c]).2.1).size < t.size:=by
 rcases Jx6 (s:=bl t) (c:=c) with ⟨_,h2,h3⟩ | ⟨h1,_⟩
 ·
  have hl:(bl t).length=(Lib.cut (bl t) [c]).1.length+((Lib.cut (bl t) [c]).2.1.length+1):=by
   conv=>lhs; rw [h3]
   simp
  rw [Jbj] at hl
  refine ⟨?_,by show (Lib.cut (bl t) [c]).1.toArray.size≤_; simp; omega,by show (Lib.cut (bl t) [c]).2.1.toArray.size < _; simp; omega⟩
  unfold Jao
  conv=>lhs; rw [h3,Jfk h2]
  rfl
 rw [h1] at h; cases h
theorem Jmb {t:ByteArray} {c:UInt8} (h:(Lib.cut (bl t) [c]).2.2=false):Jao c t=[t]:=by
 rcases Jx6 (s:=bl t) (c:=c) with ⟨h1,_⟩ | ⟨_,h1⟩
 ·
  rw [h1] at h; cases h
 unfold Jao; rw [Jee h1]; rfl
theorem Jq2 (c:UInt8):Jao c ⟨#[]⟩=[⟨#[]⟩]:=rfl
structure Rel {γ:Type} (b:Bool) (spec:Option (γ × Wds)) (v:γ) (ws:Wds) (b':Bool):Prop where
 bt:b=true→b'=true
 ok:b=false→b'=false→spec=some (v,ws)
 no:b=false→b'=true→spec=none
theorem Rel.same {γ:Type} {b:Bool} {spec:Option (γ × Wds)} {v:γ} {ws:Wds} (h:spec=some (v,ws)):Rel b spec v ws b:=⟨fun h=>h,fun _ _=>h,fun h1 h2=>by rw [h1] at h2; cases h2⟩
theorem Rel.bad {γ:Type} {b:Bool} {spec:Option (γ × Wds)} {v:γ} {ws:Wds} (h:b=false→spec=none):Rel b spec v ws true:=⟨fun _=>rfl,fun _ h2=>Bool.noConfusion h2,fun h1 _=>h h1⟩
theorem Rel.bind {γ δ:Type} {b b1 b2:Bool} {s1:Option (γ × Wds)} {v1:γ} {w1 w2:Wds} {f:γ × Wds→Option (δ × Wds)} {v2:δ} (h1:Rel b s1 v1 w1 b1) (h2:Rel b1 (f (v1,w1)) v2 w2 b2):Rel b (s1.bind f) v2 w2 b2:=by
 refine ⟨fun h=>h2.bt (h1.bt h),fun h h'=>?_,fun h h'=>?_⟩
 ·
  cases hb:b1 with
  | true=>have:=h2.bt hb; rw [h'] at this; cases this
  | false=>rw [h1.ok h hb]; exact h2.ok hb h'
 cases hb:b1 with
 | true=>rw [h1.no h hb]; rfl
 | false=>rw [h1.ok h hb]; exact h2.no hb h'
theorem Rel.map {γ δ:Type} {b b1:Bool} {s1:Option (γ × Wds)} {v1:γ} {w1:Wds} (f:γ→δ) (h1:Rel b s1 v1 w1 b1):Rel b (s1.map fun x=>(f x.1,x.2)) (f v1) w1 b1:=by
 refine ⟨h1.bt,fun h h'=>?_,fun h h'=>?_⟩
 ·
  rw [h1.ok h h']; rfl
 rw [h1.no h h']; rfl
structure LoopI {α:Type} (b1:Bool) (F:Wds→Option (List α × Wds)) (w1:Wds) (acc:List α) (ws:Wds) (bad:Bool):Prop where
 bt:b1=true→bad=true
 ok:b1=false→bad=false→F w1=(F ws).map fun x=>(acc++x.1,x.2)
 no:b1=false→bad=true→F w1=none
 sf:ws <:+ w1
 ln:bad=false→acc.length+ws.length=w1.length
 lm:acc.length≤w1.length
theorem LoopI.start {α:Type} (b1:Bool) (F:Wds→Option (List α × Wds)) (w1:Wds):LoopI b1 F w1 [] w1 b1 :=
 ⟨fun h=>h,fun _ _=>by cases F w1 <;> simp,fun h1 h2=>Bool.noConfusion (h1.symm.trans h2),List.suffix_refl _,fun _=>by simp,by simp⟩
theorem LoopI.step {α:Type} {b1 bad b2:Bool} {F:Wds→Option (List α × Wds)} {w1 ws w2:Wds} {acc:List α} {a:α} (h:LoopI b1 F w1 acc ws bad) (hbad:bad=false) (hpos:0 < ws.length) (sf2:w2 <:+ ws)
  (hok:b2=false→F ws=((F w2).map fun x=>(a::x.1,x.2))∧ws.length=w2.length+1) (hno:b2=true→F ws=none):LoopI b1 F w1 (acc++[a]) w2 b2:=by
 have hb1:b1=false:=by
  cases h1:b1 with
  | false=>rfl
  | true=>rw [h.bt h1] at hbad; cases hbad
 have hl:=h.ln hbad
 refine ⟨fun h1=>Bool.noConfusion (hb1.symm.trans h1),fun _ h2=>?_,fun _ h2=>?_,sf2.trans h.sf,fun h2=>?_,?_⟩
 ·
  rw [h.ok hb1 hbad,(hok h2).1]; cases F w2 <;> simp
 ·
  rw [h.ok hb1 hbad,hno h2]; rfl
 ·
  have:=(hok h2).2; simp; omega
 simp; omega
theorem LoopI.fin {α:Type} {b1 bad:Bool} {F:Wds→Option (List α × Wds)} {w1 ws:Wds} {acc:List α} (h:LoopI b1 F w1 acc ws bad) (hs:bad=false→F ws=some ([],ws)):Rel b1 (F w1) acc ws bad :=
 ⟨h.bt,fun h1 h2=>by rw [h.ok h1 h2,hs h2]; simp,h.no⟩
theorem Rel.line {γ:Type} {b':Bool} {s:Option (γ × Wds)} {v:γ} {w:Wds} (h:Rel false s v w b'):(b'=false→s=some (v,w))∧(b'=true→s=none):=⟨fun h1=>h.ok rfl h1,fun h1=>h.no rfl h1⟩
end Go.Proofs.YtkekjhcmephhjaaGreatDoor
namespace Go.Proofs.YtkekjhcmephhjaaGreatDoor
set_option linter.unusedVariables false
set_option linter.unusedSimpArgs false
open Go.RowKit
def nil0 {α:Type}:Sl α:=⟨.slice none 0 0,[]⟩
def of0 {α:Type} (l:List α):Sl α:=⟨.slice none 0 0,l⟩
def Jtf:ByteArray:=⟨#[104,97,108,108]⟩
def Jk9:ByteArray:=⟨#[118,97,117,108,116]⟩
def tBox:ByteArray:=⟨#[98,111,120]⟩
def Ju8:ByteArray:=⟨#[100,111,111,114]⟩
def tKey:ByteArray:=⟨#[107,101,121]⟩
def Jmx:ByteArray:=⟨#[111,112,101,110]⟩
def Jm2:ByteArray:=⟨#[116,117,114,110]⟩
def exR:Room:=⟨of0 [Jtf,Jk9],of0 [⟨tBox,0,2,0⟩,⟨Ju8,0,2,0⟩],of0 [⟨tKey,0,of0 [⟨0,1,false⟩]⟩],of0 [⟨0,1,of0 [⟨1,1,false⟩]⟩],
 of0 [⟨Jmx,0,0,nil0,nil0,of0 [⟨0,1⟩],nil0,nil0⟩,⟨Jm2,0, -1,of0 [0],nil0,of0 [⟨1,1⟩],of0 [0],nil0⟩],nil0,1,nil0⟩
theorem Jo0 (a b:ByteArray):seq a b=(a.data.toList == b.data.toList):=by
 unfold seq
 rw [ByteArray.toList_eq,ByteArray.toList_eq]
theorem J25:Near exR:=by
 refine ⟨by decide,by decide,by decide,by decide,by decide,by decide,by decide,?_,?_,?_,?_,?_,?_⟩ <;> decide
theorem Jzo:Jay Jtf=true∧Jay Jk9=true∧Jay tBox=true∧Jay Ju8=true∧Jay tKey=true∧Jay Jmx=true∧Jay Jm2=true:=by
 simp only [Jay,Ja7,wordL,List.any_cons,List.any_nil,Jo0]
 decide
theorem Jns:checkE exR=0:=by
 obtain ⟨h1,h2,h3,h4,h5,h6,h7⟩:=Jzo
 simp only [Jtf,Jk9,tBox,Ju8,tKey,Jmx,Jm2] at h1 h2 h3 h4 h5 h6 h7
 simp only [checkE,Jgw,Jid,Jgg,Jgz,Jg3,Jgo,exR,of0,nil0,List.length_cons,List.length_nil,Jby,plO,thO,prO,wyO,acO,auO,actB,act2,newB]
 simp [manyB,nth,h1,h2,h3,h4,h5,h6,h7,Jo0,Jtf,Jk9,tBox,Ju8,tKey,Jmx,Jm2,thB,placeB,whO,Jeg,putB,glO,or0,act3,act4,act5,ascB,allI,IntKind.wrap,IntKind.bits,IntKind.signed]
theorem Jzn:BeginV exR=(0,([0,0],[0],[0])):=by
 unfold BeginV SettleV stL
 rw [Jns]
 decide
theorem J27:StepV exR ([0,0],[0],[0]) ⟨0,4,0⟩=(0,([1,0],[0],[0])):=by
 unfold StepV stL
 rw [Jns]
 decide
theorem Jzu:LegalV exR ([1,0],[0],[0])=(0,[⟨0,2,0⟩,⟨0,4,0⟩]):=by
 unfold LegalV stL
 rw [Jns]
 decide
end Go.Proofs.YtkekjhcmephhjaaGreatDoor
namespace Go.Proofs.YtkekjhcmephhjaaGreatDoor
set_option linter.unusedVariables false
set_option linter.unusedSimpArgs false
open Go.ChangeShapes Go.WideShapes Go.ChangeAt Go.RowKit Go.Deep Go.Joins
section
variable {H:Type} {enc:TypeId × Value→H} {P:Program} {w:World} {base:Nat}
theorem Jgs (hl:laidOutB P=true) {W W':World} {sp:Nat→Bool}:∀ {ts:List TypeId} {vs:List Value} {ds:List (DataW H)} {ps:List MemPlace},(∀ t∈ts,P.readableRec t=true∧t < P.types.size) →
  DataW.TrodAll enc P W base (fun _=>true) true ts vs ds ps→(∀ p∈ps,W.sameAt W' p)→(∀ p∈ps,sp p.block=true)→DataW.TrodAll enc P W' base sp true ts vs ds ps
 | [],[],[],ps,_,h,_,_=>h
 | t::ts,v::vs,d::ds,ps,hr,⟨p,q,h1,h2,e⟩,hs,hsp=>by
  subst e
  exact ⟨p,q,WideElems.Trod_stays hl (hr t (by simp)).1 (hr t (by simp)).2 h1 (fun x hx=>hs x (by simp [hx])) (fun x hx=>hsp x (by simp [hx])),
   Jgs hl (fun t ht=>hr t (by simp [ht])) h2 (fun x hx=>hs x (by simp [hx])) (fun x hx=>hsp x (by simp [hx])),rfl⟩
 | [],[],_::_,_,_,h,_,_=>h.elim
 | [],_::_,_,_,_,h,_,_=>h.elim
 | _::_,[],_,_,_,h,_,_=>h.elim
 | _::_,_::_,[],_,_,h,_,_=>h.elim
theorem Jvc {f:Func} {s:ChangeSpec} {apart fresh handsOn again:Bool} {W W':World} {args:Array Value} {ds:List (DataW H)} {gs:List (DataW H)} {before:List MemPlace} {tb:TypeId}
  (hl:laidOutB P=true) (hr0:(f.params.toList.all fun t=>P.readableRec t && decide (t < P.types.size))=true) (hrt:f.resultTypes = #[tb]) (htb:P.underlying tb=some .bool)
  (hW:DataW.Whole enc P f.params.toList s.vars apart W args.toList ds gs before) (hv:s.vars=[]) (hb:Below W.heap.size W W')
  (hres:(s.fn H (ds++gs)).results=[.lit (.bool true)]) (hargs:(s.fn H (ds++gs)).args=ds) (hvars:(s.fn H (ds++gs)).vars=[]):s.post enc P f apart fresh handsOn again W args (.bool true) W':=by
 have hr:∀ t∈f.params.toList,P.readableRec t=true∧t < P.types.size:=fun t ht=>by
  have:=List.all_eq_true.1 hr0 t ht
  simpa using this
 have hlt:∀ p∈before,p.block < W.heap.size:=fun p hp=>hW.lt p hp
 have hW0:=hW
 obtain ⟨p,q,hA,hV,rfl,hfz,hnd⟩:=hW
 rw [hv] at hV
 obtain ⟨rfl,rfl⟩:=trodVars_none hV
 have hone:∀ (b:Nat) (sp:Nat→Bool) (hd:Bool),DataW.TrodAll enc P W' b sp hd [tb] [.bool true] [.lit (.bool true)] []:=fun b sp hd =>
  trodAll_mk1 ⟨1,by simp [DataW.trod,Value.cells,htb]⟩
 have hall:∀ sp:Nat→Bool,(∀ x∈p,sp x.block=true)→DataW.TrodAll enc P W' 0 sp true f.params.toList args.toList ds p:=fun sp hsp =>
  Jgs hl hr hA (fun x hx=>hb.same (hlt x (by simp [hx]))) hsp
 refine ⟨ds,[],p++[],[],p,[],hW0,?_,?_,?_,hb.frame _,fun _=>⟨?_,.lit (.bool true)::ds,[],[]++p++[],?_,?_⟩⟩
 ·
  rw [hres,hrt]; exact hone _ _ _
 ·
  rw [hargs]; exact hall _ (fun x hx=>by simpa using hlt x (by simp [hx]))
 ·
  rw [hvars,hv]; rfl
 ·
  rw [hrt]
  intro j t r h1 h2
  have hj:j=0:=by
   have:=(Array.getElem?_eq_some_iff.1 h1).1
   simpa using this
  subst hj
  simp at h1
  simp [Value.resultList] at h2
  subst h1; subst h2
  simp [Value.okWide,htb,Cell.okWide,Cell.ok]
 ·
  rw [hrt,hv]
  refine ⟨[]++p,[],trodAll_append (hall _ (fun _ _=>rfl)) (hone _ _ _),rfl,rfl,?_,?_⟩
  ·
   intro b off hx
   rw [hb.frozen (p:=⟨b,off,none⟩) (hlt (.cell b off) (by simpa using hx))]
   exact hfz b off (by simpa using hx)
  intro ha
  have:=hnd ha
  simpa using this
 intro x hx _
 simpa using hx
end
section
variable {H:Type} {enc:TypeId × Value→H} {P:Program} {w:World} {base:Nat} {held:Bool}
def Rd (enc:TypeId × Value→H) (P:Program) (w:World) (base:Nat) (held:Bool) (t:TypeId) {α:Type} (C:Cel α):Prop :=
 ∀ (fuel:Nat) (cs:List Value) (x:DataW H × List MemPlace),DataW.trod enc P w base (fun _=>true) held fuel t cs=some x→∃ a,cs=C.cells a∧C.ok w a
theorem Jdh {t:TypeId} (ht:P.underlying t=some (.int .i64)):Rd enc P w base held t cInt:=fun _ _ _ h=>let ⟨n,e,_⟩:=DataW.trod_int ht h; ⟨n,e,trivial⟩
theorem Jjk {t:TypeId} (ht:P.underlying t=some .string):Rd enc P w base held t cStr:=fun _ _ _ h=>let ⟨n,e,_⟩:=DataW.trod_string ht h; ⟨n,e,trivial⟩
theorem Jys {t:TypeId} (ht:P.underlying t=some .bool):Rd enc P w base held t cBool:=fun _ _ _ h=>let ⟨n,e,_⟩:=DataW.trod_bool ht h; ⟨n,e,trivial⟩
theorem Jbm {α:Type} [Inhabited α] {C:Cel α} {t s:TypeId} (ht:P.underlying t=some (.slice s)) (hC:P.cellsOf s=C.k) (h0:0 < C.k) (hr:Rd enc P w base held s C):Rd enc P w base held t (cSl C):=by
 intro fuel cs x h
 rcases open_slice ht h with ⟨h1,_⟩ | ⟨a,len,cap,m,n,D,Pl,h1,_,hl,hm,hmm,_,hcell⟩
 ·
  subst h1
  exact ⟨⟨.slice none 0 0,[]⟩,rfl,SlT.nil C w⟩
 subst h1
 simp at hmm
 have hm':cap≤9223372036854775807:=hm
 rw [hC] at hcell
 obtain ⟨f,hf⟩:=choose_lt (α:=α) (n:=len) (p:=fun i c=>w.cells? base (a.add (i * C.k)) C.k=some (C.cells c)∧C.ok w c) (fun i hi=>by
  obtain ⟨cs',k1,k2⟩:=hcell i (by omega)
  obtain ⟨c,rfl,k3⟩:=hr _ _ _ k2
  exact ⟨c,k1,k3⟩)
 have hlen:((List.range len).map f).length=len:=by simp
 refine ⟨⟨.slice (some a) len cap,(List.range len).map f⟩,rfl,⟨⟨?_,some a,cap,by simp,⟨by simpa using hl,hm'⟩,?_⟩,?_⟩⟩
 ·
  rw [Jbx]
 ·
  rcases Nat.eq_zero_or_pos len with hz | hz
  ·
   left; simpa using hz
  right
  obtain ⟨b,o,s'⟩:=a
  have hs:s'=none:=by
   have:=(World.cells?_some (hf 0 hz).1).2.2 0 h0
   rw [List.getElem?_eq_getElem (by rw [C.len]; exact h0)] at this
   simpa [Addr.add] using World.cell?_spot this
  subst hs
  refine ⟨b,o,rfl,fun k y hy=>?_⟩
  have hk:k < len * C.k:=by
   have h1:=(List.getElem?_eq_some_iff.1 hy).1
   simp only [Jbx,hlen] at h1
   exact h1
  obtain ⟨q,hq⟩:∃ q,q=k / C.k:=⟨_,rfl⟩
  obtain ⟨r,hrr⟩:∃ r,r=k % C.k:=⟨_,rfl⟩
  have hql:q < len:=by rw [hq]; exact (Nat.div_lt_iff_lt_mul h0).2 hk
  have hr:r < C.k:=by rw [hrr]; exact Nat.mod_lt _ h0
  have e:k=q * C.k+r:=by rw [hq,hrr,Nat.mul_comm]; exact (Nat.div_add_mod k C.k).symm
  clear hq hrr
  subst e
  have hat:=Jco C (l:=(List.range len).map f) (i:=(q:Int)) (by omega) (by rw [hlen]; omega) r hr
  rw [show ((q:Int)).toNat=q by omega] at hat
  simp only at hy
  rw [hat] at hy
  have hn:nth ((List.range len).map f) (q:Int)=f q:=by
   simp [nth,List.getD,hql]
  rw [hn] at hy
  have:=(World.cells?_some (hf _ hql).1).2.2 r hr
  rw [hy] at this
  rw [Jb8,Jb8] at this
  simpa [Nat.add_assoc] using this
 intro c hc
 obtain ⟨i,hi,rfl⟩:=List.mem_map.1 hc
 exact (hf i (List.mem_range.1 hi)).2
theorem Jld {t s:TypeId} {fuel:Nat} {v:Value} {x:DataW H × List MemPlace} (ht:P.underlying t=some (.slice s)) (hs:P.underlying s=some .string) (hc:P.cellsOf s=1)
  (h:DataW.trod enc P w base (fun _=>true) held fuel t [v]=some x) {l:List ByteArray} {sp:List (DataW H)} (hx:x.1 = .slice (l.map fun a=>.lit (.string a.data.toList)) sp):SlT cStr w ⟨v,l⟩:=by
 rcases open_slice ht h with ⟨_,h1⟩ | ⟨a,len,cap,m,n,D,Pl,h1,_,hl,hm,hmm,h2,hcell⟩
 ·
  rw [h1] at hx; cases hx
 rw [h2] at hx
 simp only [DataW.slice.injEq] at hx
 have hd:=hx.1
 have hlen:len=l.length:=by simpa using congrArg List.length hd
 simp at h1 hmm
 subst h1
 have hm':cap≤9223372036854775807:=hm
 rw [hc] at hcell
 have hat:∀ i (hi:i < l.length),w.cell? (a.add i)=some (.string l[i]):=fun i hi=>by
  obtain ⟨cs',k1,k2⟩:=hcell i (by omega)
  obtain ⟨b,rfl,e,_⟩:=DataW.trod_string hs k2
  have e1:=congrArg (fun q=>q[i]?) hd
  simp only [List.getElem?_map,List.getElem?_eq_getElem hi,Option.map_some] at e1
  rw [List.getElem?_range (by omega)] at e1
  simp only [Option.map_some,Option.some.injEq] at e1
  have e2:=(Prod.mk.inj e).1
  rw [e2] at e1
  simp only [DataW.lit.injEq,Lit.string.injEq] at e1
  have e3:b=l[i]:=by
   cases b; cases hb:l[i]
   rw [hb] at e1
   simp at e1
   rw [e1]
  have:=(World.cells?_some k1).2.2 0 (by decide)
  rw [Nat.mul_one] at this
  rw [← e3]
  simpa [Addr.add] using this
 refine ⟨⟨by simp [Jbx,cStr],some a,cap,by rw [← hlen],⟨by simp only; omega,hm'⟩,?_⟩,fun _ _=>trivial⟩
 rcases Nat.eq_zero_or_pos l.length with hz | hz
 ·
  left; exact hz
 right
 obtain ⟨b,o,s'⟩:=a
 have hs':s'=none:=by simpa [Addr.add] using World.cell?_spot (hat 0 hz)
 subst hs'
 refine ⟨b,o,rfl,fun k y hy=>?_⟩
 have hk:k < l.length:=by
  have h1:=(List.getElem?_eq_some_iff.1 hy).1
  rw [Jbx] at h1
  simpa [cStr] using h1
 have e:=Jco cStr (l:=l) (i:=(k:Int)) (by omega) (by omega) 0 (by decide)
 rw [show cStr.k=1 from rfl,Nat.mul_one,Nat.add_zero,show ((k:Int)).toNat=k by omega] at e
 simp only at hy
 rw [e] at hy
 have hn:nth l (k:Int)=l[k]:=by simp [nth,List.getD,hk]
 rw [hn] at hy
 have h3:=hat k hk
 rw [Jb8] at h3
 rw [h3]
 simpa [cStr] using hy
end
end Go.Proofs.YtkekjhcmephhjaaGreatDoor
namespace Go.Proofs.YtkekjhcmephhjaaGreatDoor
set_option linter.unusedVariables false
set_option linter.unusedSimpArgs false
open Go.RowKit Go.Proofs
theorem Jkl {H:Type} {enc:TypeId × Value→H} {a:Assume} {C:Checked} {os:Os} {f:FuncId} {fn:Func} {s:ChangeSpec} {conds:List PathCond} {apart fresh handsOn again:Bool} {X:World→Array Value→Prop}
  (hX:∀ (w w':World) (args:Array Value),w.heap=w'.heap→X w args→X w' args)
  (own:ownKnob C.prog.godebug=none) (started:os.Started) (noInit:C.prog.inits.idxOf? f=none) (hfn:C.prog.funcs[f]? = some fn)
  (witness:∃ (w:World) (tape:Tape) (i:Input),w.os=os∧(w.forCall tape i).Shaped C.prog∧i.vars=[]∧Input.okWide C.prog (w.forCall tape i) .any w.heap.size f i ∧
   ((s.pre enc C.prog fn conds apart (w.forCall tape i).memory i.args∧X (w.forCall tape i).memory i.args)∧sizedMet enc C.prog fn (OpenSpec.ofChange s) apart (w.forCall tape i).memory i.args)∧a.holds C.prog (lone (Frame.enter C.prog f i.args .normal) [] (w.forCall tape i)))
  (contract:∀ (W:World) (base:Nat) (args:Array Value) (ds gs:List (DataW H)) (before:List MemPlace),W.ShapedOpen C.prog →
   (∀ (j:Nat) t v,fn.params[j]? = some t→args[j]? = some v→Value.okWide C.prog W .any base t v) →
   DataW.Whole enc C.prog fn.params.toList s.vars apart W args.toList ds gs before →
   X W args →
   Calls C.prog f args W fun e W'=>∃ v,e = .returned v∧s.post enc C.prog fn apart fresh handsOn again W args v W') :
  ReturnsInHanded a C os f .any (fun w args=>(s.pre enc C.prog fn conds apart w args∧X w args)∧sizedMet enc C.prog fn (OpenSpec.ofChange s) apart w args) (s.post enc C.prog fn apart fresh handsOn again):=by
 refine returnsInHanded_of_calls own started noInit witness fun w tape i _ hsh _ hok hpre _=>?_
 obtain ⟨_,_,_,fn',hfn',_,_,_,_,hval⟩:=hok
 obtain rfl:fn'=fn:=Option.some.inj (hfn'.symm.trans hfn)
 obtain ⟨⟨⟨ds,gs,before,hw,_⟩,hx⟩,_⟩:=hpre
 refine (contract (w.forCall tape i) w.heap.size i.args ds gs before hsh hval (DataW.Whole.of_heap (w':=w.forCall tape i) (by rfl) hw) (hX _ _ _ (by rfl) hx)).mono fun e W' ⟨v,he,hp⟩=>?_
 subst he
 exact ChangeSpec.post_blind hp
end Go.Proofs.YtkekjhcmephhjaaGreatDoor
