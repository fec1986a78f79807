/- Merged texts of this proof (walks and plain laws), printed by a program of the prover. -/
import Derived.Test.YtdpbapffdmahnaaGreatDoorZa
import Derived.Laws.StructEq
import Derived.ChangeKeysEq
import Derived.Lib.ItoaLen
import Derived.Lib.Join
namespace Go.Proofs.YtdpbapffdmahnaaGreatDoor
set_option linter.unusedVariables false
set_option linter.unusedSimpArgs false
open Go.RowKit
structure Cel (α:Type) where
 k:Nat
 cells:α→List Value
 ok:World→α→Prop
 len:∀ a,(cells a).length=k
 ext:∀ (w u:World) (a:α),ok w a→Below w.heap.size w u→ok u a
 one:∀ (w:World) (a:α),ok w a→∀ v∈cells a,v.oneCell'=true
structure Sl (α:Type) where
 v:Value
 l:List α
instance {α:Type}:Inhabited (Sl α):=⟨⟨.slice none 0 0,[]⟩⟩
section
variable {α:Type} (C:Cel α)
def Jal (l:List α):List Value:=(l.map C.cells).flatten
theorem Jbi (l:List α):(Jal C l).length=l.length * C.k:=by
 unfold Jal
 rw [Jg3 C.k _ (by intro x hx; obtain ⟨a,_,rfl⟩:=List.mem_map.1 hx; exact C.len a),List.length_map]
theorem Jc3 (l m:List α):Jal C (l++m)=Jal C l++Jal C m:=by simp [Jal]
theorem Jfj (a:α):Jal C [a]=C.cells a:=by simp [Jal]
theorem Jbv [Inhabited α] {l:List α} {i:Int} (h0:0≤i) (h1:i < l.length) (j:Nat) (hj:j < C.k):(Jal C l)[i.toNat * C.k+j]? = (C.cells (nth l i))[j]?:=by
 have hc:i.toNat < l.length:=by omega
 unfold Jal
 rw [Jjq C.k _ (by intro x hx; obtain ⟨a,_,rfl⟩:=List.mem_map.1 hx; exact C.len a) _ _ hj]
 simp [nth,List.getD,hc]
theorem Jia {l:List α} (h:∀ a∈l,∀ v∈C.cells a,v.oneCell'=true):∀ v∈Jal C l,v.oneCell'=true:=fun v hv=>by
 unfold Jal at hv
 rw [List.mem_flatten] at hv
 obtain ⟨x,hx,hv⟩:=hv
 obtain ⟨a,ha,rfl⟩:=List.mem_map.1 hx
 exact h a ha v hv
theorem Ji4 {l:List α} {i j:Nat} {a:α} {v:Value} (hi:i < l.length) (hj:j < C.k) (ha:C.cells a=(C.cells l[i]).set j v):(Jal C l).set (i * C.k+j) v=Jal C (l.set i a):=by
 induction l generalizing i with
 | nil=>simp at hi
 | cons b l ih =>
  cases i with
  | zero =>
   have hb:=C.len b
   simp only [Jal,List.map_cons,List.flatten_cons,List.set_cons_zero,Nat.zero_mul,Nat.zero_add] at ha ⊢
   rw [List.set_append_left _ _ (by omega)]
   congr 1
   exact ha.symm
  | succ i =>
   have hb:=C.len b
   have h1:=ih (i:=i) (by simpa using hi) (by simpa using ha)
   simp only [Jal,List.map_cons,List.flatten_cons,List.set_cons_succ] at h1 ⊢
   rw [← h1,List.set_append_right _ _ (by rw [hb,Nat.succ_mul]; omega)]
   congr 2
   rw [hb,Nat.succ_mul]; omega
structure SlT (w:World) (s:Sl α):Prop where
 sp:SlC w s.v s.l.length C.k (Jal C s.l)
 el:∀ a∈s.l,C.ok w a
end
theorem Jev {α:Type} (C:Cel α) (l:List α) (n:Nat):Jal C (l.take n)=(Jal C l).take (n * C.k):=by
 induction l generalizing n with
 | nil=>simp [Jal]
 | cons a l ih =>
  cases n with
  | zero=>simp [Jal]
  | succ n =>
   have h:=C.len a
   have:=ih n
   simp only [Jal,List.map_cons,List.flatten_cons,List.take_succ_cons] at this ⊢
   rw [this,List.take_append,h,Nat.succ_mul,List.take_of_length_le (l:=C.cells a) (by omega)]
   congr 2; omega
theorem Jeo {α:Type} (C:Cel α) (l:List α) (n:Nat):Jal C (l.drop n)=(Jal C l).drop (n * C.k):=by
 induction l generalizing n with
 | nil=>simp [Jal]
 | cons a l ih =>
  cases n with
  | zero=>simp [Jal]
  | succ n =>
   have h:=C.len a
   have:=ih n
   simp only [Jal,List.map_cons,List.flatten_cons,List.drop_succ_cons] at this ⊢
   rw [this,List.drop_append,h,Nat.succ_mul,List.drop_of_length_le (l:=C.cells a) (by omega),List.nil_append]
   congr 1; omega
section
variable {α:Type} {C:Cel α} {w u:World} {s:Sl α}
theorem SlT.ext (h:SlT C w s) (hb:Below w.heap.size w u):SlT C u s:=⟨h.sp.ext hb,fun a ha=>C.ext _ _ a (h.el a ha) hb⟩
theorem SlT.st {w0:World} {L:List SA} (h:SlT C w0 s) (hu:St w0.heap.size w0 L u):SlT C u s:=h.ext hu.below
theorem SlT.le (h:SlT C w s):s.l.length≤9223372036854775807:=h.sp.le
theorem SlT.one (h:SlT C w s):∀ v∈Jal C s.l,v.oneCell'=true:=Jia C fun a ha=>C.one w a (h.el a ha)
theorem SlT.at [Inhabited α] (h:SlT C w s) {i:Int} (h0:0≤i) (h1:i < s.l.length):C.ok w (nth s.l i):=h.el _ (Jad h0 h1)
def Sl.cut {α:Type} (k:Nat) (s:Sl α) (lo hi:Nat):Sl α:=⟨sub2 k s.v lo hi,(s.l.drop lo).take (hi - lo)⟩
theorem SlT.cut (h:SlT C w s) {lo hi:Nat} (h0:lo≤hi) (h1:hi≤s.l.length):SlT C w (s.cut C.k lo hi):=by
 have h2:=h.sp.sub2 h0 h1
 refine ⟨?_,fun a ha=>h.el a (List.mem_of_mem_drop (List.mem_of_mem_take ha))⟩
 unfold Sl.cut
 simp only
 rw [Jev,Jeo]
 rwa [show ((s.l.drop lo).take (hi - lo)).length=hi - lo by simp; omega]
theorem SlT.nil (C:Cel α) (w:World):SlT C w ⟨.slice none 0 0,[]⟩:=⟨⟨by simp [Jal],none,0,rfl,⟨Nat.le_refl 0,by decide⟩,.inl rfl⟩,fun a ha=>by cases ha⟩
end
def cSl {α:Type} (C:Cel α):Cel (Sl α) where
 k:=1
 cells s:=[s.v]
 ok:=SlT C
 len _:=rfl
 ext _ _ _ h hb:=h.ext hb
 one w s h v hv:=by
  simp at hv
  subst hv
  obtain ⟨_,p,cap,e,_⟩:=h.sp
  rw [e]; rfl
def cInt:Cel Int:=⟨1,fun x=>[.int .i64 x],fun _ _=>True,fun _=>rfl,fun _ _ _ _ _=>trivial,fun _ _ _ v hv=>by simp at hv; subst hv; rfl⟩
def cBool:Cel Bool:=⟨1,fun x=>[.bool x],fun _ _=>True,fun _=>rfl,fun _ _ _ _ _=>trivial,fun _ _ _ v hv=>by simp at hv; subst hv; rfl⟩
def cStr:Cel ByteArray:=⟨1,fun x=>[.string x],fun _ _=>True,fun _=>rfl,fun _ _ _ _ _=>trivial,fun _ _ _ v hv=>by simp at hv; subst hv; rfl⟩
theorem Jfg (xs:List Int):Jal cInt xs=xs.map (Value.int .i64):=by
 unfold Jal
 induction xs with
 | nil=>rfl
 | cons x xs ih=>rw [List.map_cons,List.flatten_cons,ih]; rfl
theorem SlT.ints {w:World} {s:Sl Int} (h:SlT cInt w s):SlI w s.v s.l:=by
 have:=h.sp
 rw [Jfg] at this
 exact this
theorem SlI.tree {w:World} {v:Value} {xs:List Int} (h:SlI w v xs):SlT cInt w ⟨v,xs⟩:=⟨by rw [Jfg]; exact h,fun _ _=>trivial⟩
section
variable {P:Program} {ro:Option Nat} {n0:Nat} {w0:World} {ds:List Deferred} {ops:Array Oper} {Q:Exit→Act→World→Prop} {L:List SA}
 {rest:List Oper} {l:List Value} {d:Option Tmp} {ty:TypeId} {ps:String} {af:Array Edge} {g:Option (Nat × Bool)} {D:World→Prop}
 {α:Type} {C:Cel α}
theorem Jb9 {T e:TypeId} {by_ k:Nat} {x y:Operand} {v:Value} {i:Int} {w:World} {s:Sl α} (hT:sl P T=some (e,k,by_)) (hx:evo l x=some v) (hy:evo l y=some (.int .i64 i))
  (hv:s.v=v) (hk:C.k=k) (hs:SlT C w s) (h0:0≤i) (h1:i < s.l.length):Det P D ⟨d,.indexAddr T x y,ty,ps,af,g⟩ l (.pointer (some (sla v (i.toNat * k)))):=by
 subst hv
 exact Jdm hT hx hy hs.sp h0 h1
theorem Jgx {T e:TypeId} {by_ k:Nat} {x y:Operand} {i:Int} {w:World} {s:Sl α} (hT:sl P T=some (e,k,by_)) (hx:evo l x=some s.v) (hy:evo l y=some (.int .i64 i))
  (hs:SlT C w s) (hk:C.k=k) (h0:0≤i) (h1:i < s.l.length):Det P D ⟨d,.indexAddr T x y,ty,ps,af,g⟩ l (.pointer (some (sla s.v (i.toNat * k)))):=Jb9 hT hx hy rfl hk hs h0 h1
theorem Jkw {T e:TypeId} {a b:Nat} {x:Operand} {w:World} {s:Sl α} (hT:sl P T=some (e,a,b)) (hx:evo l x=some s.v) (hs:SlT C w s) :
  Det P D ⟨d,.call ⟨.builtin .len, #[x], #[T]⟩,ty,ps,af,g⟩ l (.int .i64 s.l.length):=Jb0 hT hx hs.sp
variable [Inhabited α]
theorem Jmz {T:TypeId} {k:Nat} {x:Operand} {v:Value} {s:Sl α} {i:Int} {cs:List Value} (hx:evo l x=some (.pointer (some (sla v (i.toNat * k))))) (hv:s.v=v) (hk:C.k=k) (hs:SlT C w0 s) (h:0≤i∧i < s.l.length)
  (hc:C.cells (nth s.l i)=cs) (hT:tk P T=some (true,k)):Det P (St w0.heap.size w0 L) ⟨d,.load T x,ty,ps,af,g⟩ l (.agg cs.toArray):=by
 subst hv; subst hk; subst hc
 refine Jer hx (fun _ hu=>hs.sp.st hu) (fun j y hy=>?_) (by rw [C.len]; exact hT)
 have hj:j < C.k:=by have:=(List.getElem?_eq_some_iff.1 hy).1; rwa [C.len] at this
 rw [Jbv C h.1 h.2 j hj]; exact hy
theorem Jc6 {T:TypeId} {k z j:Nat} {x:Operand} {v y:Value} {s:Sl α} {i:Int} (hx:evo l x=some (.pointer (some (sla v (i.toNat * k+j))))) (hv:s.v=v) (hk:C.k=k) (hs:SlT C w0 s) (h:0≤i∧i < s.l.length) (hj:j < k)
  (hc:(C.cells (nth s.l i))[j]? = some y) (hT:tk P T=some (false,z)):Det P (St w0.heap.size w0 L) ⟨d,.load T x,ty,ps,af,g⟩ l y:=by
 subst hv; subst hk
 exact Jc4 hx (fun _ hu=>hs.sp.st hu) (by rw [Jbv C h.1 h.2 j hj]; exact hc) hT
theorem Je1 {T:TypeId} {z:Nat} {x:Operand} {v y:Value} {s:Sl α} {i:Int} (hx:evo l x=some (.pointer (some (sla v (i.toNat * 1))))) (hv:s.v=v) (hk:C.k=1) (hs:SlT C w0 s) (h:0≤i∧i < s.l.length)
  (hc:(C.cells (nth s.l i))[0]? = some y) (hT:tk P T=some (false,z)):Det P (St w0.heap.size w0 L) ⟨d,.load T x,ty,ps,af,g⟩ l y:=Jc6 (j:=0) hx hv hk hs h (by decide) hc hT
theorem Jmv {T:TypeId} {k:Nat} {x:Operand} {s:Sl α} {i:Int} {cs:List Value} (hx:evo l x=some (.pointer (some (sla s.v (i.toNat * k))))) (hs:SlT C w0 s) (hk:C.k=k) (h:0≤i∧i < s.l.length)
  (hc:C.cells (nth s.l i)=cs) (hT:tk P T=some (true,k)):Det P (St w0.heap.size w0 L) ⟨d,.load T x,ty,ps,af,g⟩ l (.agg cs.toArray):=Jmz hx rfl hk hs h hc hT
theorem Jla {T:TypeId} {z:Nat} (k j:Nat) {x:Operand} {y:Value} {s:Sl α} {i:Int} (hx:evo l x=some (.pointer (some ⟨slb s.v,slo s.v+i.toNat * k+j,none⟩))) (hs:SlT C w0 s) (hk:C.k=k) (h:0≤i∧i < s.l.length) (hj:j < k)
  (hc:(C.cells (nth s.l i))[j]? = some y) (hT:tk P T=some (false,z)):Det P (St w0.heap.size w0 L) ⟨d,.load T x,ty,ps,af,g⟩ l y:=Jc6 (by rw [hx,sla,Nat.add_assoc]) rfl hk hs h hj hc hT
theorem Jky {T:TypeId} {z:Nat} {x:Operand} {y:Value} {s:Sl α} {i:Int} (hx:evo l x=some (.pointer (some (sla s.v (i.toNat * 1))))) (hs:SlT C w0 s) (hk:C.k=1) (h:0≤i∧i < s.l.length)
  (hc:(C.cells (nth s.l i))[0]? = some y) (hT:tk P T=some (false,z)):Det P (St w0.heap.size w0 L) ⟨d,.load T x,ty,ps,af,g⟩ l y:=Je1 hx rfl hk hs h hc hT
end
section
variable {n0:Nat} {w0:World} {L:List SA} {α:Type}
def roT (C:Cel α) (s:Sl α):SA:=roS fun u=>SlT C u s
theorem Jgs {P:Program} {l:List Value} {d:Option Tmp} {ty:TypeId} {ps:String} {af:Array Edge} {g:Option (Nat × Bool)} [Inhabited α] {C:Cel α} {T:TypeId} {k z j jj:Nat} {x:Operand} {v y:Value} {s:Sl α} {i:Int}
  (hj':L[jj]? = some (roT C s)) (hx:evo l x=some (.pointer (some (sla v (i.toNat * k+j))))) (hv:s.v=v) (hk:C.k=k) (h:0≤i∧i < s.l.length) (hj:j < k)
  (hc:(C.cells (nth s.l i))[j]? = some y) (hT:tk P T=some (false,z)):Det P (St n0 w0 L) ⟨d,.load T x,ty,ps,af,g⟩ l y:=by
 subst hv; subst hk
 exact Jc4 hx (fun _ hu=>(St.ro hj' hu).sp) (by rw [Jbv C h.1 h.2 j hj]; exact hc) hT
theorem Jlx {P:Program} {l:List Value} {d:Option Tmp} {ty:TypeId} {ps:String} {af:Array Edge} {g:Option (Nat × Bool)} [Inhabited α] {C:Cel α} {T:TypeId} {z jj:Nat} {x:Operand} {v y:Value} {s:Sl α} {i:Int}
  (hj':L[jj]? = some (roT C s)) (hx:evo l x=some (.pointer (some (sla v (i.toNat * 1))))) (hv:s.v=v) (hk:C.k=1) (h:0≤i∧i < s.l.length)
  (hc:(C.cells (nth s.l i))[0]? = some y) (hT:tk P T=some (false,z)):Det P (St n0 w0 L) ⟨d,.load T x,ty,ps,af,g⟩ l y:=Jgs (j:=0) hj' hx hv hk h (by decide) hc hT
theorem Jkv {P:Program} {l:List Value} {d:Option Tmp} {ty:TypeId} {ps:String} {af:Array Edge} {g:Option (Nat × Bool)} [Inhabited α] {C:Cel α} {T:TypeId} {z jj:Nat} (k j:Nat) {x:Operand} {y:Value} {s:Sl α} {i:Int}
  (hj':L[jj]? = some (roT C s)) (hx:evo l x=some (.pointer (some ⟨slb s.v,slo s.v+i.toNat * k+j,none⟩))) (hk:C.k=k) (h:0≤i∧i < s.l.length) (hj:j < k)
  (hc:(C.cells (nth s.l i))[j]? = some y) (hT:tk P T=some (false,z)):Det P (St n0 w0 L) ⟨d,.load T x,ty,ps,af,g⟩ l y:=Jgs hj' (by rw [hx,sla,Nat.add_assoc]) rfl hk h hj hc hT
theorem St.roAnd {p q:World→Prop} {u:World} (h:St n0 w0 (roS p::roS q::L) u):St n0 w0 (roS (fun u=>p u∧q u)::L) u:=by
 obtain ⟨h1,h2,T,h3,h4,T',h5,h6,h7⟩:=h
 refine ⟨h1,h2,fun k=>T k∨T' k,fun k hk=>hk.elim (h3 k) fun h=>(h5 k h).1,⟨fun u' hk=>⟨h4.1 u' fun k hS=>hk k (.inl hS),h6.1 u' fun k hS=>hk k (.inr hS)⟩,fun k hS=>hS.elim (h4.2 k) (h6.2 k)⟩,?_⟩
 exact h7.sup fun k hk=>⟨hk.1.1,fun h=>h.elim hk.1.2 hk.2⟩
end
def seq (a b:ByteArray):Bool:=a.toList == b.toList
theorem Jl6 (a:ByteArray):seq a a=true:=by simp [seq]
theorem Jl1 (a b:ByteArray):seq a b=seq b a:=by unfold seq; exact BEq.comm
def byt (s:ByteArray) (i:Int):Int:=match s[i.toNat]? with | some b=>b.toNat | none=>0
section
variable {P:Program} {l:List Value} {d:Option Tmp} {ty:TypeId} {ps:String} {af:Array Edge} {g:Option (Nat × Bool)} {C:World→Prop}
theorem Jbf {T T':TypeId} {x y:Operand} {a b:ByteArray} (hx:evo l x=some (.string a)) (hy:evo l y=some (.string b)) :
  Det P C ⟨d,.binOp .eql T x y T',ty,ps,af,g⟩ l (.bool (seq a b)):=fun u _=>by
 (replace hx:=Jah hx; replace hy:=Jah hy)
 simp [execOp,Jai,hx,hy,eqGuard,binOp,Op.stringOp,seq]
theorem Jfq {T T':TypeId} {x y:Operand} {a b:ByteArray} (hx:evo l x=some (.string a)) (hy:evo l y=some (.string b)) :
  Det P C ⟨d,.binOp .neq T x y T',ty,ps,af,g⟩ l (.bool (!seq a b)):=fun u _=>by
 (replace hx:=Jah hx; replace hy:=Jah hy)
 simp [execOp,Jai,hx,hy,eqGuard,binOp,Op.stringOp,seq]
theorem Ja0 {T:TypeId} {x:Operand} {a:ByteArray} (hT:P.underlying T=some .string) (hx:evo l x=some (.string a)) :
  Det P C ⟨d,.call ⟨.builtin .len, #[x], #[T]⟩,ty,ps,af,g⟩ l (.int .i64 a.size):=fun u _=>by
 (replace hx:=Jah hx)
 simp [execOp,Jai,hx,resolve,invoke,builtin,Builtin.len_,run_underlying hT,goInt]
theorem Jbw {T:TypeId} {x y:Operand} {a:ByteArray} {i:Int} (hT:P.underlying T=some .string) (hx:evo l x=some (.string a)) (hy:evo l y=some (.int .i64 i)) (h0:0≤i) (h1:i < a.size) :
  Det P C ⟨d,.index T x y,ty,ps,af,g⟩ l (.int .u8 (byt a i)):=fun u _=>by
 (replace hx:=Jah hx; replace hy:=Jah hy)
 have hi:i.toNat < a.size:=by omega
 simp [execOp,Jai,hx,hy,Instr.index,asIntOf,run_underlying hT,h0,byt,hi]
end
structure Lit where
 t:Int
 s:Int
 nt:Bool
 deriving Inhabited,DecidableEq
structure Put where
 t:Int
 s:Int
 deriving Inhabited,DecidableEq
structure Thing where
 nm:ByteArray
 pl:Int
 st:Int
 sr:Int
 deriving Inhabited
structure Pro where
 nm:ByteArray
 pl:Int
 wh:Sl Lit
 deriving Inhabited
structure Way where
 a:Int
 b:Int
 wh:Sl Lit
 deriving Inhabited
structure Actn where
 nm:ByteArray
 pl:Int
 lk:Int
 us:Sl Int
 wh:Sl Lit
 se:Sl Put
 sp:Sl Int
 br:Sl Int
 deriving Inhabited
structure Auto where
 wh:Sl Lit
 t:Int
 s:Int
 deriving Inhabited
structure Room where
 pls:Sl ByteArray
 ths:Sl Thing
 prs:Sl Pro
 wys:Sl Way
 acs:Sl Actn
 aus:Sl Auto
 ply:Int
 gl:Sl Lit
 deriving Inhabited
structure Move where
 p:Int
 k:Int
 n:Int
 deriving Inhabited,DecidableEq
structure Stt where
 ths:Sl Int
 prs:Sl Int
 pls:Sl Int
 deriving Inhabited
theorem Sl.one {α:Type} {C:Cel α} {w:World} {s:Sl α} (h:SlT C w s):s.v.oneCell'=true:=(cSl C).one w s h s.v (by simp [cSl])
def cLit:Cel Lit:=⟨3,fun a=>[.int .i64 a.t,.int .i64 a.s,.bool a.nt],fun _ _=>True,fun _=>rfl,fun _ _ _ _ _=>trivial,fun _ _ _ v hv=>by simp at hv; rcases hv with rfl | rfl | rfl <;> rfl⟩
def cPut:Cel Put:=⟨2,fun a=>[.int .i64 a.t,.int .i64 a.s],fun _ _=>True,fun _=>rfl,fun _ _ _ _ _=>trivial,fun _ _ _ v hv=>by simp at hv; rcases hv with rfl | rfl <;> rfl⟩
def cMove:Cel Move:=⟨3,fun a=>[.int .i64 a.p,.int .i64 a.k,.int .i64 a.n],fun _ _=>True,fun _=>rfl,fun _ _ _ _ _=>trivial,fun _ _ _ v hv=>by simp at hv; rcases hv with rfl | rfl | rfl <;> rfl⟩
def cThing:Cel Thing:=⟨4,fun a=>[.string a.nm,.int .i64 a.pl,.int .i64 a.st,.int .i64 a.sr],fun _ _=>True,fun _=>rfl,fun _ _ _ _ _=>trivial,fun _ _ _ v hv=>by simp at hv; rcases hv with rfl | rfl | rfl | rfl <;> rfl⟩
def cPro:Cel Pro:=⟨3,fun a=>[.string a.nm,.int .i64 a.pl,a.wh.v],fun w a=>SlT cLit w a.wh,fun _=>rfl,fun _ _ _ h hb=>h.ext hb,fun _ _ h v hv=>by
 simp at hv; rcases hv with rfl | rfl | rfl
 ·
  rfl
 ·
  rfl
 exact Sl.one h⟩
def cWay:Cel Way:=⟨3,fun a=>[.int .i64 a.a,.int .i64 a.b,a.wh.v],fun w a=>SlT cLit w a.wh,fun _=>rfl,fun _ _ _ h hb=>h.ext hb,fun _ _ h v hv=>by
 simp at hv; rcases hv with rfl | rfl | rfl
 ·
  rfl
 ·
  rfl
 exact Sl.one h⟩
def cAuto:Cel Auto:=⟨3,fun a=>[a.wh.v,.int .i64 a.t,.int .i64 a.s],fun w a=>SlT cLit w a.wh,fun _=>rfl,fun _ _ _ h hb=>h.ext hb,fun _ _ h v hv=>by
 simp at hv; rcases hv with rfl | rfl | rfl
 ·
  exact Sl.one h
 ·
  rfl
 rfl⟩
structure ActOk (w:World) (a:Actn):Prop where
 us:SlT cInt w a.us
 wh:SlT cLit w a.wh
 se:SlT cPut w a.se
 sp:SlT cInt w a.sp
 br:SlT cInt w a.br
def cAct:Cel Actn:=⟨8,fun a=>[.string a.nm,.int .i64 a.pl,.int .i64 a.lk,a.us.v,a.wh.v,a.se.v,a.sp.v,a.br.v],ActOk,fun _=>rfl,fun _ _ _ h hb=>⟨h.us.ext hb,h.wh.ext hb,h.se.ext hb,h.sp.ext hb,h.br.ext hb⟩,fun _ _ h v hv=>by
 simp at hv; rcases hv with rfl | rfl | rfl | rfl | rfl | rfl | rfl | rfl
 ·
  rfl
 ·
  rfl
 ·
  rfl
 ·
  exact Sl.one h.us
 ·
  exact Sl.one h.wh
 ·
  exact Sl.one h.se
 ·
  exact Sl.one h.sp
 exact Sl.one h.br⟩
structure RoomOk (w:World) (r:Room):Prop where
 pls:SlT cStr w r.pls
 ths:SlT cThing w r.ths
 prs:SlT cPro w r.prs
 wys:SlT cWay w r.wys
 acs:SlT cAct w r.acs
 aus:SlT cAuto w r.aus
 gl:SlT cLit w r.gl
theorem RoomOk.ext {w u:World} {r:Room} (h:RoomOk w r) (hb:Below w.heap.size w u):RoomOk u r:=⟨h.pls.ext hb,h.ths.ext hb,h.prs.ext hb,h.wys.ext hb,h.acs.ext hb,h.aus.ext hb,h.gl.ext hb⟩
theorem RoomOk.st {w u:World} {L:List SA} {r:Room} (h:RoomOk w r) (hu:St w.heap.size w L u):RoomOk u r:=h.ext hu.below
def Room.cells (r:Room):List Value:=[r.pls.v,r.ths.v,r.prs.v,r.wys.v,r.acs.v,r.aus.v,.int .i64 r.ply,r.gl.v]
structure SttOk (w:World) (s:Stt):Prop where
 ths:SlT cInt w s.ths
 prs:SlT cInt w s.prs
 pls:SlT cInt w s.pls
theorem SttOk.ext {w u:World} {r:Stt} (h:SttOk w r) (hb:Below w.heap.size w u):SttOk u r:=⟨h.ths.ext hb,h.prs.ext hb,h.pls.ext hb⟩
theorem SttOk.st {w u:World} {L:List SA} {r:Stt} (h:SttOk w r) (hu:St w.heap.size w L u):SttOk u r:=h.ext hu.below
def Stt.cells (s:Stt):List Value:=[s.ths.v,s.prs.v,s.pls.v]
def Sl.e {α β:Type} (f:α→β) (s:Sl α):Sl β:=⟨.slice none 0 0,s.l.map f⟩
def Pro.e (p:Pro):Pro:={ p with wh:=p.wh.e id }
def Way.e (p:Way):Way:={ p with wh:=p.wh.e id }
def Auto.e (p:Auto):Auto:={ p with wh:=p.wh.e id }
def Actn.e (p:Actn):Actn:={ p with us:=p.us.e id,wh:=p.wh.e id,se:=p.se.e id,sp:=p.sp.e id,br:=p.br.e id }
def Room.e (r:Room):Room:=⟨r.pls.e id,r.ths.e id,r.prs.e Pro.e,r.wys.e Way.e,r.acs.e Actn.e,r.aus.e Auto.e,r.ply,r.gl.e id⟩
def Stt.e (s:Stt):Stt:=⟨s.ths.e id,s.prs.e id,s.pls.e id⟩
def wordL:List ByteArray:=[⟨#[97,116]⟩,⟨#[115,116,97,116,101,115]⟩,⟨#[115,116,97,114,116]⟩,⟨#[103,111,110,101]⟩,⟨#[105,102]⟩,⟨#[108,111,99,107]⟩,⟨#[119,105,116,104]⟩,⟨#[115,101,116,115]⟩,⟨#[115,112,101,110,100,115]⟩,⟨#[98,114,105,110,103,115]⟩]
def lowB (t:ByteArray):Bool:=(List.range t.size).all fun i=>decide (97≤byt t i) && decide (byt t i≤122)
def Jbo (t:ByteArray):Bool:=lowB t && (!(wordL.any fun x=>seq x t) && !seq t ⟨#[]⟩)
def Ja4 (t:ByteArray):Bool:=decide ((t.size:Int)≤12) && Jbo t
def putB (ths:List Thing) (a b:Int):Bool:=(decide (0≤a) && decide (a≤ths.length - 1)) && (decide (0≤b) && decide (b≤IntKind.i64.wrap ((nth ths a).st - 1)))
def Jen (ths:List Thing) (c:List Lit):Bool:=c.all (fun x=>putB ths x.t x.s) && decide ((c.length:Int)≤8)
def Jcp (ths:List Int) (c:List Lit):Bool:=c.all fun x => !(decide (nth ths x.t=x.s) == x.nt)
theorem Jcl {α:Type} [Inhabited α] {p:α→Bool} {l:List α} {i j:Int} (h0:0≤j) (h1:j < i) (h2:i≤l.length) (h:p (nth l j)=true):(l.take i.toNat).any p=true:=by
 refine List.any_eq_true.2 ⟨nth l j,?_,h⟩
 have hj:j.toNat < l.length:=by omega
 rw [List.mem_take_iff_getElem]
 exact ⟨j.toNat,by omega,by simp [nth,List.getD,hj]⟩
theorem Jcu {α:Type} [Inhabited α] {p:α→Bool} {l:List α} {i:Int} (h:∀ j:Int,0≤j→j < i→p (nth l j)=false):(l.take i.toNat).any p=false:=by
 rw [List.any_eq_false]
 intro x hx
 obtain ⟨k,hk,rfl⟩:=List.mem_take_iff_getElem.1 hx
 have:=h k (by omega) (by omega)
 have hk2:k < l.length:=by omega
 simpa [nth,List.getD,hk2] using this
theorem Jht {t:ByteArray} (h:∀ j:Int,0≤j→j < t.size→97≤byt t j∧byt t j≤122):lowB t=true:=by
 unfold lowB
 rw [List.all_eq_true]
 intro i hi
 have:=h i (by omega) (by simp at hi; omega)
 simp; omega
theorem Jj5 {t:ByteArray} {i:Int} (h0:0≤i) (h1:i < t.size) (h:¬ (97≤byt t i∧byt t i≤122)):lowB t=false:=by
 unfold lowB
 rw [List.all_eq_false]
 refine ⟨i.toNat,by simp; omega,?_⟩
 rw [show ((i.toNat:Nat):Int)=i by omega]
 simp; omega
structure Fill (k:Nat) (s n i m:Int) (xs:List Int):Prop where
 lo : -1≤i
 hi:i < k
 pos:0≤m∧m≤n
 ex:∃ T,xs=List.replicate (i+1).toNat 0++T∧digs k s n=digs (i+1).toNat s m++T
section
variable {k:Nat} {s n i m:Int} {xs:List Int}
theorem Fill.len (h:Fill k s n i m xs):xs.length=k:=by
 obtain ⟨T,h1,h2⟩:=h.ex
 have:=congrArg List.length h2
 simp [Jcn] at this
 rw [h1]; simp; omega
theorem Fill.step (h:Fill k s n i m xs) (h0:0≤i) (hs:2≤s):Fill k s n (i - 1) (m / s) (xs.set i.toNat (m % s)):=by
 obtain ⟨T,h1,h2⟩:=h.ex
 have e:(i+1).toNat=i.toNat+1:=by omega
 have e2:(i - 1+1).toNat=i.toNat:=by omega
 have hp:=h.pos
 refine ⟨by omega,by have:=h.hi; omega,⟨Int.ediv_nonneg hp.1 (by omega),Int.le_trans (Int.ediv_le_self s hp.1) hp.2⟩,m % s::T,?_,?_⟩
 ·
  rw [h1,e,e2,List.replicate_succ',List.append_assoc]
  exact Jgl (by simp)
 rw [h2,e,e2,digs]; simp
end
def comN (y x:List Int):Int:=Jjh y x 10 - Jhi y x
def Jqf (L:List (List Int)) (x:List Int) (r c:Int):Int:=((L.filter fun y=>decide (Jhi y x=r) && decide (comN y x=c)).length:Int)
def maxL:List Int→Int
 | []=>0
 | a::l=>max a (maxL l)
def cA (L:List (List Int)) (x y:List Int):Int:=Jqf L x (Jhi y x) (comN y x)
def wN (L:List (List Int)) (x:List Int):Int:=maxL (L.map (cA L x))
def Jdw (L:List (List Int)):Nat→Nat
 | 0=>0
 | i+1=>if i=0 then 0 else if wN L (nth L i) < wN L (nth L (Jdw L i)) then i else Jdw L i
theorem Jhv (L:List (List Int)):∀ i,0 < i→Jdw L i < i
 | 0,h=>by omega
 | i+1,_=>by
  simp only [Jdw]
  split
  ·
   omega
  split
  ·
   omega
  have:=Jhv L i (by omega); omega
structure NextI (L:List (List Int)) (gs:List Value) (i:Int) (v:Value) (m:Int):Prop where
 lo:i=0→v = .slice none 0 0∧m=0
 hi:0 < i→v=nth gs (Jdw L i.toNat)∧m=wN L (nth L (Jdw L i.toNat))
def nilB:Value→Bool
 | .slice none _ _=>true
 | _=>false
theorem Jjw {u:World} {v:Value} {xs:List Int} (h:SlI u v xs) (h0:0 < xs.length):nilB v=false∧∃ p n c,v = .slice p n c:=by
 obtain ⟨_,p,cap,rfl,_,h2⟩:=h
 rcases h2 with h2 | ⟨b,o,rfl,_⟩
 ·
  omega
 exact ⟨rfl,_,_,_,rfl⟩
section
variable {L:List (List Int)} {gs:List Value} {i m:Int} {v:Value}
theorem NextI.nil {u:World} {lv:Value} (h:NextI L gs i v m) (hs:SlL u lv L gs) (h0:0≤i) (h1:i≤L.length) (hp:∀ j:Int,0≤j→j < L.length→0 < (nth L j).length):nilB v=decide (i=0)∧∃ p n c,v = .slice p n c:=by
 by_cases hi:i=0
 ·
  obtain ⟨rfl,_⟩:=h.lo hi
  exact ⟨by simp [hi,nilB],_,_,_,rfl⟩
 obtain ⟨rfl,_⟩:=h.hi (by omega)
 have hb:=Jhv L i.toNat (by omega)
 have:=Jjw (hs.el (Jdw L i.toNat) (by omega) (by omega)) (hp _ (by omega) (by omega))
 exact ⟨by rw [this.1]; simp [hi],this.2⟩
theorem NextI.take (h:NextI L gs i v m) (h0:0≤i) (hc:nilB v=true∨wN L (nth L i) < m) (hn:nilB v=decide (i=0)):NextI L gs (i+1) (nth gs i) (wN L (nth L i)):=by
 have e:(i+1).toNat=i.toNat+1:=by omega
 have e2:((i.toNat:Nat):Int)=i:=by omega
 refine ⟨fun h=>by omega,fun _=>?_⟩
 have:Jdw L (i+1).toNat=i.toNat:=by
  rw [e,Jdw]
  by_cases hi:i.toNat=0
  ·
   rw [if_pos hi,hi]
  rw [if_neg hi,if_pos]
  have h2:=(h.hi (by omega)).2
  rw [hn] at hc
  rcases hc with hc | hc
  ·
   simp at hc; omega
  rw [e2, ← h2]; exact hc
 rw [this,e2]
 exact ⟨rfl,rfl⟩
theorem NextI.leave (h:NextI L gs i v m) (h0:0≤i) (hc:nilB v=false∧¬ wN L (nth L i) < m) (hn:nilB v=decide (i=0)):NextI L gs (i+1) v m:=by
 have e:(i+1).toNat=i.toNat+1:=by omega
 have e2:((i.toNat:Nat):Int)=i:=by omega
 have hi:¬ i.toNat=0:=by rw [hn] at hc; simp at hc; omega
 refine ⟨fun h=>by omega,fun _=>?_⟩
 have h2:=h.hi (by omega)
 have:Jdw L (i+1).toNat=Jdw L i.toNat:=by
  rw [e,Jdw,if_neg hi,if_neg]
  rw [e2, ← h2.2]; exact hc.2
 rw [this]
 exact h2
end
end Go.Proofs.YtdpbapffdmahnaaGreatDoor
namespace Go.Proofs.YtdpbapffdmahnaaGreatDoor
set_option linter.unusedVariables false
set_option linter.unusedSimpArgs false
open Go.RowKit Go.Proofs
section
variable {P:Program} {ro:Option Nat} {n0:Nat} {w0:World} {ds:List Deferred} {ops:Array Oper} {Q:Exit→Act→World→Prop} {L:List SA}
 {rest:List Oper} {l:List Value} {d:Option Tmp} {ty:TypeId} {ps:String} {af:Array Edge} {g:Option (Nat × Bool)} {C:World→Prop} {u:World}
theorem St.setRow {b j:Nat} {c c':List Value} {e:TypeId} (h:St n0 w0 L u) (hj:L[j]? = some (Go.Proofs.YtdpbapffdmahnaaGreatDoor.blk b c e)):St n0 w0 (L.set j (Go.Proofs.YtdpbapffdmahnaaGreatDoor.blk b c' e)) (u.setRow b c'.toArray):=by
 obtain ⟨S,hS,⟨hS1,hb⟩,hupd⟩:=h.upd hj
 refine hupd _ _ (fun k=>k=b) ⟨rfl,rfl,rfl,by simp,fun k hk=>setRow_other u b k _ (fun e=>by have:=hS b ((hS1 b).2 rfl); omega)⟩ (fun k hk o' hcell=>?_) ⟨fun k=>Iff.rfl,?_⟩ (fun k hk=>by subst hk; exact ⟨hS _ ((hS1 _).2 rfl),.inl ((hS1 _).2 rfl)⟩)
 ·
  rw [setRow_other u b k _ (fun e=>hk.2.2 ((hS1 k).2 e))]; exact hcell
 exact setRow_heap u b c.toArray c'.toArray e _ hb
theorem WS.build0 {T e:TypeId} {k by_ i:Nat} {zc:List Value} (hT:sl P T=some (e,k,by_)) (hz:zv P e=some zc)
  {l':Value→List Value} (hl:∀ v,lset l i v=some (l' v)) (kk:∀ v,WS P ro n0 w0 ds ops Q (osl e k v 0 []::L) rest (l' v)) :
  WS P ro n0 w0 ds ops Q L (⟨some i,.buildSlice T 0 #[],ty,ps,af,none⟩::rest) l:=by
 refine WS.world rfl rfl fun u hu=>?_
 obtain ⟨inf,hu1,hi,hs,hby⟩:=Jbs hT
 unfold zv at hz
 rw [hi] at hz
 cases hz2:inf.zero with
 | none=>simp [hz2] at hz
 | some zz =>
  refine ⟨.slice (some ⟨u.heap.size,0,none⟩) 0 0,u.alloc (.cells #[] e),?_,?_⟩
  ·
   simp [execOp,Instr.buildSlice,run_underlying hu1,sizeOf,typeInfo,hi,hs,newRow,Instr.fill,zeroValue,hz2]
   congr 2
   apply Array.ext'
   simp
  rw [Jam,Jae (hl _)]
  refine kk _ _ (hu.cons (T:=fun k=>k=u.heap.size) ((Below.refl _ u).alloc (Nat.le_refl _) _) ⟨?_,by simp,.inr ⟨u.heap.size,0, #[],rfl,Nat.zero_le _,World.alloc_heap_new u _,Nat.le_refl _,?_,?_,?_⟩⟩ (fun k hk=>by omega))
  ·
   intro k; simp [Value.ownBlock]; exact eq_comm
  ·
   simp only [maxLen]; omega
  ·
   simp
  simp
theorem ClS.one {w:World} {v:Value} {cs:List Clue} {gs:List Value} (h:ClS w v cs gs):∀ g∈gs,g.oneCell'=true:=by
 intro g hg
 obtain ⟨i,h0,h1,rfl⟩:=Jaz hg
 obtain ⟨_,p,cap,h2,_⟩:=h.el i h0 (by have:=h.len; omega)
 rw [h2]; rfl
end
def Jec {α:Type} [Inhabited α] (cs:List α) (ns:List Nat):List α:=ns.map fun k=>cs.getD k default
section
variable {α:Type} [Inhabited α] {cs:List α} {ns ms:List Nat}
theorem Jfs:(Jec cs ns).length=ns.length:=by simp [Jec]
end
theorem ClS.pick {u:World} {v v':Value} {cs:List Clue} {gs:List Value} (h:ClS u v cs gs) {ns:List Nat} (hn:∀ k∈ns,k < cs.length) (hs:SlC u v' (Jec cs ns).length 7 (Jfv (Jec cs ns) (Jec gs ns))):ClS u v' (Jec cs ns) (Jec gs ns):=by
 refine ⟨hs,by simp [Jfs],fun i h0 h1=>?_⟩
 rw [Jfs] at h1
 have hlt:i.toNat < ns.length:=by omega
 have hk:=hn _ (List.getElem_mem hlt)
 have e1:nth (Jec cs ns) i=nth cs ((ns[i.toNat]:Nat):Int):=by simp [nth,List.getD,Jec,hlt]
 have e2:nth (Jec gs ns) i=nth gs ((ns[i.toNat]:Nat):Int):=by simp [nth,List.getD,Jec,hlt]
 rw [e1,e2]
 exact h.el _ (by omega) (by omega)
section
variable {P:Program} {ro:Option Nat} {n0:Nat} {w0:World} {ds:List Deferred} {ops:Array Oper} {Q:Exit→Act→World→Prop} {L:List SA}
 {rest:List Oper} {l:List Value} {d:Option Tmp} {ty:TypeId} {ps:String} {af:Array Edge} {g:Option (Nat × Bool)} {C:World→Prop}
theorem WS.callS {β:Type} {f:Operand} {args:List Operand} {ts:Array TypeId} {fn:FuncId} {cap:List Value} {vs:List Value} {v:β→Value} {L':β→List SA} {p:β→Prop} {i:Nat} {l':β→List Value}
  (hf:evo l f=some (.func (.func fn) #[] cap.toArray)) (hv:evs l args=some vs) (he:Ent P fn)
  (hc:∀ u,St n0 w0 L u→Calls P fn (vs++cap).toArray u (fun e u'=>∃ x,p x∧e = .returned (v x)∧St n0 w0 (L' x) u'))
  (hl:∀ x,lset l i (v x)=some (l' x)) (k:∀ x,p x→WS P ro n0 w0 ds ops Q (L' x) rest (l' x)) :
  WS P ro n0 w0 ds ops Q L (⟨some i,.call ⟨.value f,args.toArray,ts⟩,ty,ps,af,none⟩::rest) l:=by
 intro u hu
 unfold wpListIn
 rw [if_pos (by simp [Region.wanted])]
 refine ⟨fun _ _=>trivial,?_⟩
 rw [Jau rfl,Jba]
 have hr:(execOp (ev l) ⟨some i,.call ⟨.value f,args.toArray,ts⟩,ty,ps,af,none⟩).run P u = .ok (.enter fn (vs++cap).toArray) u:=by
  have h1:∀ (args:Array Value) (w:World),Sem.run P (callFunc fn args) w = .ok (.enter fn args) w:=he
  replace hf:=Jah hf
  replace hv:=Jd5 hv
  subst hv
  simp [execOp,hf,resolve,invoke,Deferred.ofValue,h1]
 rw [hr]
 refine ⟨fun h=>by simp [FW] at h,Jb5 ((hc u hu).mono ?_)⟩
 rintro e u' ⟨x,hp,rfl,hs⟩
 show wpListIn (FW ro) 0 P ops Q rest ((Act.mk l.toArray ds).put (some i) (v x)) u'
 rw [Jam,Jae (hl x)]
 exact k x hp u' hs
theorem Je9 {x:Operand} {v:Value} {c b:Bool} (hg:c=true) (h:evo l x=some (cond (c && (b == true)) v undef)):evo l x=some (cond b v undef):=by subst hg; cases b <;> exact h
theorem SlI.none (u:World):SlI u (.slice none 0 0) []:=⟨by simp,Option.none,0,rfl,by simp,Or.inl rfl⟩
end
end Go.Proofs.YtdpbapffdmahnaaGreatDoor
namespace Go.Proofs.YtdpbapffdmahnaaGreatDoor
set_option linter.unusedVariables false
set_option linter.unusedSimpArgs false
open Go.RowKit
def allI (n:Nat) (p:Int→Bool):Bool:=(List.range n).all fun i=>p i
theorem Jcd {n:Nat} {p:Int→Bool} (h:∀ j:Int,0≤j→j < n→p j=true):allI n p=true:=by
 unfold allI
 rw [List.all_eq_true]
 intro i hi
 exact h i (by omega) (by have:=List.mem_range.1 hi; omega)
theorem Jcv {n:Nat} {p:Int→Bool} {i:Int} (h0:0≤i) (h1:i < n) (h:p i=false):allI n p=false:=by
 unfold allI
 rw [List.all_eq_false]
 refine ⟨i.toNat,List.mem_range.2 (by omega),?_⟩
 rw [show ((i.toNat:Nat):Int)=i by omega,h]
 simp
theorem Jd3 {n:Nat} {p:Int→Bool} (h:allI n p=true) {i:Int} (h0:0≤i) (h1:i < n):p i=true:=by
 unfold allI at h
 rw [List.all_eq_true] at h
 have:=h i.toNat (List.mem_range.2 (by omega))
 rwa [show ((i.toNat:Nat):Int)=i by omega] at this
theorem Jem {α:Type} [Inhabited α] {l:List α} {p:α→Bool}:l.all p=allI l.length fun i=>p (nth l i):=by
 cases h:allI l.length fun i=>p (nth l i) with
 | true =>
  rw [List.all_eq_true]
  intro x hx
  obtain ⟨i,h0,h1,rfl⟩:=Jaz hx
  exact Jd3 h h0 h1
 | false =>
  cases h2:l.all p with
  | false=>rfl
  | true =>
   rw [List.all_eq_true] at h2
   rw [Jcd (p:=fun i=>p (nth l i)) fun j h0 h1=>h2 _ (Jad h0 h1)] at h
   exact h
def Jay (f:Int→Int):Nat→Int
 | 0=>0
 | n+1=>if Jay f n=0 then f n else Jay f n
theorem Jag {f:Int→Int}:∀ {n:Nat},(∀ j:Int,0≤j→j < n→f j=0)→Jay f n=0
 | 0,_=>rfl
 | n+1,h=>by
  have h1:=Jag (f:=f) (n:=n) fun j h0 h1=>h j h0 (by omega)
  simp [Jay,h1,h n (by omega) (by omega)]
theorem Jaf {f:Int→Int} {i:Int}:∀ {n:Nat},0≤i→i < n→(∀ j:Int,0≤j→j < i→f j=0)→f i≠0→Jay f n=f i
 | 0,h0,h1,_,_=>by omega
 | n+1,h0,h1,h,hi=>by
  by_cases hn:i=n
  ·
   subst hn
   rw [Jay,if_pos (Jag h)]
  have h2:=Jaf (f:=f) (n:=n) h0 (by omega) h hi
  rw [Jay,h2,if_neg hi]
theorem Ja6 {f:Int→Int}:∀ {n:Nat},Jay f n=0→∀ i:Int,0≤i→i < n→f i=0
 | 0,_,i,h0,h1=>by omega
 | n+1,h,i,h0,h1=>by
  rw [Jay] at h
  split at h
  ·
   rename_i h2
   by_cases hn:i=n
   ·
    subst hn; exact h
   exact Ja6 h2 i h0 (by omega)
  rename_i h2; exact (h2 h).elim
def or0 (a b:Int):Int:=if a=0 then b else a
theorem Jb3 {a b:Int} (h:a=0):or0 a b=b:=by simp [or0,h]
theorem Jbk {a b c:Int} (h:a=c) (hc:c≠0):or0 a b=c:=by subst h; simp [or0,hc]
theorem Jbu {a b:Int} (h:or0 a b=0):a=0∧b=0:=by
 unfold or0 at h; split at h
 ·
  exact ⟨by assumption,h⟩
 rename_i h2; exact (h2 h).elim
structure Near (r:Room):Prop where
 pls:r.pls.l.length≤12
 ths:r.ths.l.length≤15
 prs:r.prs.l.length≤14
 wys:r.wys.l.length≤20
 acs:r.acs.l.length≤30
 aus:r.aus.l.length≤15
 gl:r.gl.l.length≤20
 pl:∀ x∈r.pls.l,x.size≤100
 th:∀ x∈r.ths.l,x.nm.size≤100
 pr:∀ x∈r.prs.l,x.nm.size≤100∧x.wh.l.length≤20
 wy:∀ x∈r.wys.l,x.wh.l.length≤20
 ac:∀ x∈r.acs.l,x.nm.size≤100∧x.wh.l.length≤20∧x.us.l.length≤20∧x.se.l.length≤20∧x.sp.l.length≤20∧x.br.l.length≤20
 au:∀ x∈r.aus.l,x.wh.l.length≤20
def placeB (r:Room) (n:Int):Bool:=decide (0≤n) && decide (n≤r.pls.l.length - 1)
def ascB (n:Nat) (l:List Int):Bool:=allI l.length fun i=>(decide (0≤nth l i) && decide (nth l i≤(n:Int) - 1)) && (decide (i=0) || decide (nth l (i - 1) < nth l i))
def newB {α:Type} [Inhabited α] (f:α→ByteArray) (l:List α) (i:Int):Bool := !((l.take i.toNat).any fun x=>seq (f x) (f (nth l i)))
def act2 (r:Room) (a:Actn):Bool:=Ja4 a.nm && (placeB r a.pl && ((decide (-1≤a.lk) && decide (a.lk≤7)) && (ascB r.prs.l.length a.us.l && (ascB r.prs.l.length a.sp.l && (ascB r.prs.l.length a.br.l && decide ((a.se.l.length:Int)≤6))))))
def act3 (a:Actn):Bool:=allI a.sp.l.length fun k=>decide (nth a.sp.l k∈a.us.l)
def act4 (a:Actn):Bool:=allI a.br.l.length fun k => !decide (nth a.br.l k∈a.us.l)
def act5 (r:Room) (a:Actn):Bool:=allI a.se.l.length fun k=>putB r.ths.l (nth a.se.l k).t (nth a.se.l k).s && !((a.se.l.take k.toNat).any fun x=>decide (x.t=(nth a.se.l k).t))
def actB (r:Room) (i:Int):Bool:=newB Actn.nm r.acs.l i && (act2 r (nth r.acs.l i) && (act3 (nth r.acs.l i) && (act4 (nth r.acs.l i) && act5 r (nth r.acs.l i))))
def manyB (r:Room):Bool:=decide ((8:Int) < r.pls.l.length) || (decide ((12:Int) < r.ths.l.length) || (decide ((10:Int) < r.prs.l.length) || (decide ((16:Int) < r.wys.l.length) || (decide ((24:Int) < r.acs.l.length) || decide ((12:Int) < r.aus.l.length)))))
def plO (r:Room) (i:Int):Int:=if (Ja4 (nth r.pls.l i) && newB id r.pls.l i)=true then 0 else 22
def thB (r:Room) (x:Thing):Bool:=placeB r x.pl && ((decide (2≤x.st) && decide (x.st≤6)) && (decide (0≤x.sr) && decide (x.sr≤x.st - 1)))
def thO (r:Room) (i:Int):Int:=if (Ja4 (nth r.ths.l i).nm && (newB Thing.nm r.ths.l i && thB r (nth r.ths.l i)))=true then 0 else 21
def whO (r:Room) (c:List Lit):Int:=if Jen r.ths.l c=true then 0 else 25
def prO (r:Room) (i:Int):Int:=or0 (if (Ja4 (nth r.prs.l i).nm && (newB Pro.nm r.prs.l i && (decide ((nth r.prs.l i).pl = -1) || placeB r (nth r.prs.l i).pl)))=true then 0 else 24) (whO r (nth r.prs.l i).wh.l)
def wyO (r:Room) (i:Int):Int:=or0 (if (placeB r (nth r.wys.l i).a && (placeB r (nth r.wys.l i).b && !decide ((nth r.wys.l i).a=(nth r.wys.l i).b)))=true then 0 else 23) (whO r (nth r.wys.l i).wh.l)
def acO (r:Room) (i:Int):Int:=or0 (if actB r i=true then 0 else 26) (whO r (nth r.acs.l i).wh.l)
def auO (r:Room) (i:Int):Int:=or0 (if putB r.ths.l (nth r.aus.l i).t (nth r.aus.l i).s=true then 0 else 27) (whO r (nth r.aus.l i).wh.l)
def glO (r:Room):Int:=or0 (if (decide (1≤r.ply) && decide (r.ply≤4))=true then 0 else 1) (whO r r.gl.l)
def Jcz (r:Room):Int:=or0 (Jay (auO r) r.aus.l.length) (glO r)
def Jc2 (r:Room):Int:=or0 (Jay (acO r) r.acs.l.length) (Jcz r)
def Jdc (r:Room):Int:=or0 (Jay (wyO r) r.wys.l.length) (Jc2 r)
def Jdb (r:Room):Int:=or0 (Jay (prO r) r.prs.l.length) (Jdc r)
def Jek (r:Room):Int:=or0 (Jay (thO r) r.ths.l.length) (Jdb r)
def Jde (r:Room):Int:=or0 (Jay (plO r) r.pls.l.length) (Jek r)
def checkE (r:Room):Int:=if manyB r=true then 2 else if r.pls.l.length=0 then 22 else Jde r
theorem Jd9 {r:Room} (h:checkE r=0):manyB r=false∧Jde r=0:=by
 unfold checkE at h
 split at h
 ·
  exact absurd h (by decide)
 rename_i h1
 split at h
 ·
  exact absurd h (by decide)
 exact ⟨by simpa using h1,h⟩
theorem Jiw {r:Room} (h:checkE r=0):glO r=0:=(Jbu (Jbu (Jbu (Jbu (Jbu (Jbu (Jd9 h).2).2).2).2).2).2).2
theorem Jdl {r:Room} (h:checkE r=0):1≤r.ply∧r.ply≤4:=by
 have h1:=(Jbu (Jiw h)).1
 simp at h1
 omega
def Jcs (r:Room) (l:List Int) (i:Int):Int:=if putB r.ths.l i (nth l i)=true then 0 else 28
def Jcx (r:Room) (l:List Int) (i:Int):Int:=if (placeB r (nth l i) || (decide (nth l i = -1) || (decide (-2 - r.ply+1≤nth l i) && decide (nth l i ≤ -2))))=true then 0 else 28
def Jco (r:Room) (l:List Int) (i:Int):Int:=if placeB r (nth l i)=true then 0 else 28
def stE (r:Room) (ths prs pls:List Int):Int:=if (decide (ths.length=r.ths.l.length) && (decide (prs.length=r.prs.l.length) && decide ((pls.length:Int)=r.ply)))=true
 then or0 (Jay (Jcs r ths) ths.length) (or0 (Jay (Jcx r prs) prs.length) (Jay (Jco r pls) pls.length)) else 28
def Jdp (r:Room) (z:Stt):Int:=or0 (checkE r) (stE r z.ths.l z.prs.l z.pls.l)
def upd (vs:Nat→Value) (i:Nat) (v:Value):Nat→Value:=fun j=>if j=i then v else vs j
theorem Jhq {vs:Nat→Value} {i:Nat} {v:Value}:upd vs i v i=v:=by simp [upd]
theorem Jjj {vs:Nat→Value} {i j:Nat} {v:Value} (h:j≠i):upd vs i v j=vs j:=by simp [upd,h]
def Jii {α:Type} (l:List α) (d:Nat→Nat) (f:Nat→α):List Nat→Option (List α)
 | []=>some l
 | i::is=>match Jii l d f is with
  | some r=>lset r (d i) (f i)
  | none=>none
theorem Jdf {α:Type} {l:List α} {d:Nat→Nat} {f:Nat→α}:∀ {is:List Nat} {r:List α},Jii l d f is=some r→is.Nodup→(∀ i∈is,∀ k∈is,d i=d k→i=k) →
  r.length=l.length∧(∀ k,(∀ i∈is,d i≠k)→r[k]? = l[k]?)∧∀ i∈is,d i < l.length→r[d i]? = some (f i)
 | [],r,h,_,_=>by simp [Jii] at h; subst h; exact ⟨rfl,fun _ _=>rfl,fun i hi=>by simp at hi⟩
 | i::is,r,h,hn,hd=>by
  unfold Jii at h
  split at h
  ·
   rename_i r1 h1
   have h2:=Jae h
   subst h2
   rw [List.nodup_cons] at hn
   obtain ⟨e1,e2,e3⟩:=Jdf h1 hn.2 fun a ha b hb e=>hd a (List.mem_cons_of_mem _ ha) b (List.mem_cons_of_mem _ hb) e
   refine ⟨by simpa using e1,fun k hk=>?_,fun j hj hlt=>?_⟩
   ·
    rw [List.getElem?_set_ne (hk i List.mem_cons_self)]
    exact e2 k fun a ha=>hk a (List.mem_cons_of_mem _ ha)
   by_cases hji:j=i
   ·
    subst hji
    rw [List.getElem?_set_self (by omega)]
   rcases List.mem_cons.1 hj with hj' | hj'
   ·
    exact (hji hj').elim
   rw [List.getElem?_set_ne (fun e=>hji (hd i List.mem_cons_self j hj e).symm)]
   exact e3 j hj' hlt
  cases h
def live (is:List Nat) (R:Nat→Value→List SA) (vs:Nat→Value) (p:Nat→Bool):List SA:=is.flatMap fun j=>if p j=true then R j (vs j) else []
theorem Jbj {is:List Nat} {R:Nat→Value→List SA} {vs vs':Nat→Value} {p p':Nat→Bool} (h:∀ j∈is,p j=p' j∧(p j=true→vs j=vs' j)):live is R vs p=live is R vs' p':=by
 induction is with
 | nil=>rfl
 | cons a is ih =>
  have h1:=h a List.mem_cons_self
  have h2:=ih fun j hj=>h j (List.mem_cons_of_mem _ hj)
  simp only [live,List.flatMap_cons] at h2 ⊢
  rw [h2, ← h1.1]
  congr 1
  split
  ·
   rename_i hp; rw [h1.2 hp]
  rfl
theorem Jet (is:List Nat) (R:Nat→Value→List SA) (vs:Nat→Value) (p q:Nat→Bool):(live is R vs p).Perm (live is R vs (fun j=>p j && q j)++live is R vs (fun j=>p j && !q j)):=by
 induction is with
 | nil=>exact List.Perm.refl _
 | cons a is ih =>
  simp only [live,List.flatMap_cons] at ih ⊢
  by_cases hp:p a=true
  ·
   by_cases hq:q a=true
   ·
    simpa [hp,hq,List.append_assoc] using List.Perm.append_left (R a (vs a)) ih
   simp only [hp,hq,if_true,Bool.and_false,Bool.false_eq_true,if_false,List.nil_append,Bool.true_and,Bool.not_false]
   refine (List.Perm.append_left _ ih).trans ?_
   rw [← List.append_assoc, ← List.append_assoc]
   exact List.Perm.append_right _ List.perm_append_comm
  simpa [hp] using ih
theorem Jey {R:Nat→Value→List SA} {vs:Nat→Value}:∀ {is:List Nat},live is R vs (fun _=>false)=[]
 | []=>rfl
 | a::is=>by
  have:=Jey (R:=R) (vs:=vs) (is:=is)
  simp only [live,List.flatMap_cons] at this ⊢
  rw [this]; simp
theorem Jfa {R:Nat→Value→List SA} {vs:Nat→Value} {c:Nat}:∀ {is:List Nat},is.Nodup→c∈is→live is R vs (fun j=>decide (j=c))=R c (vs c)
 | [],_,h=>by simp at h
 | a::is,hn,h=>by
  rw [List.nodup_cons] at hn
  simp only [live,List.flatMap_cons]
  by_cases hac:a=c
  ·
   subst hac
   have:live is R vs (fun j=>decide (j=a))=live is R vs fun _=>false:=Jbj fun j hj=>⟨by simp; rintro rfl; exact hn.1 hj,fun _=>rfl⟩
   simp only [live] at this
   rw [this]
   simp
  have hc:c∈is:=by rcases List.mem_cons.1 h with e | e; exact (hac e.symm).elim; exact e
  have:=Jfa (R:=R) (vs:=vs) hn.2 hc
  simp only [live] at this
  rw [this]
  simp [hac]
theorem Jhp {p:Nat→Bool} {i:Nat}:∀ {is:List Nat},is.Nodup→i∈is→p i=true→(is.filter p).length=(is.filter fun k=>p k && !decide (k=i)).length+1
 | [],_,h,_=>by simp at h
 | a::is,hn,h,hp=>by
  rw [List.nodup_cons] at hn
  by_cases hai:a=i
  ·
   subst hai
   have:is.filter p=is.filter fun k=>p k && !decide (k=a):=List.filter_congr fun k hk=>by
    have:k≠a:=by rintro rfl; exact hn.1 hk
    simp [this]
   simp [List.filter_cons,hp,this]
  have hi:i∈is:=by rcases List.mem_cons.1 h with e | e; exact (hai e.symm).elim; exact e
  have ih:=Jhp hn.2 hi hp
  simp only [List.filter_cons,hai,decide_false,Bool.not_false,Bool.and_true]
  cases hpa:p a with
  | true=>simp [ih]
  | false=>simpa using ih
def Jfx (ops:Array Oper) (bl:List Bool) (is:List Nat) (d:Nat→Nat) (dep:Nat→List Nat) (cs:Nat→Option Nat) (n:Nat):Bool :=
 (is.all fun i=>bl[i]? == some false && (match ops[i]? with
  | some o=>o.dst == some (d i) && decide (d i < n) && ((dep i).all fun j=>is.contains j && o.after.toList.any fun e=>Region.binds .any e && e.on == j) &&
    (o.after.toList.all fun e => !Region.binds .any e || (is.contains e.on && decide (e.on < i)) || bl[e.on]? == some true)
  | none=>false) && (match cs i with | some c=>(dep i).contains c | none=>true) && is.all fun k=>k == i || (!(d k == d i) && !((cs i).isSome && cs k == cs i))) &&
 (List.range bl.length).all fun k=>is.contains k || bl[k]? == some true || (match ops[k]? with
  | some o=>is.all fun i=>o.after.toList.any fun e=>Region.binds .any e && e.on == i
  | none=>false)
structure ManyAt (ops:Array Oper) (bl:List Bool) (is:List Nat) (d:Nat→Nat) (dep:Nat→List Nat) (cs:Nat→Option Nat) (n i:Nat) (o:Oper):Prop where
 op:ops[i]? = some o
 un:bl[i]? = some false
 dst:o.dst=some (d i)
 lt:d i < n
 deps:∀ j∈dep i,j∈is∧∃ e∈o.after,Region.binds .any e=true∧e.on=j
 aft:∀ e∈o.after,Region.binds .any e=true→(e.on∈is∧e.on < i)∨bl[e.on]? = some true
 csd:∀ c,cs i=some c→c∈dep i
 inj:∀ k∈is,k≠i→d k≠d i∧(∀ c,cs i=some c→cs k≠some c)
theorem Jbc {ops:Array Oper} {bl:List Bool} {is:List Nat} {d:Nat→Nat} {dep:Nat→List Nat} {cs:Nat→Option Nat} {n:Nat} (h:Jfx ops bl is d dep cs n=true) {i:Nat} (hi:i∈is):∃ o,ManyAt ops bl is d dep cs n i o:=by
 unfold Jfx at h
 rw [Bool.and_eq_true,List.all_eq_true] at h
 have h1:=h.1 i hi
 cases ho:ops[i]? with
 | none=>simp [ho] at h1
 | some o =>
  simp only [ho,Bool.and_eq_true,List.all_eq_true,beq_iff_eq,decide_eq_true_eq,List.contains_iff_mem,List.any_eq_true,Bool.or_eq_true,Bool.not_eq_true'] at h1
  obtain ⟨⟨⟨h1,⟨⟨h2,h3⟩,h4⟩,h5⟩,h6⟩,h7⟩:=h1
  refine ⟨o,ho,h1,h2,h3,fun j hj=>?_,fun e he hb=>?_,fun c hc=>?_,fun k hk hki=>?_⟩
  ·
   obtain ⟨a,e,he,hb,hj⟩:=h4 j hj
   exact ⟨a,e,by simpa using he,hb,hj⟩
  ·
   rcases h5 e (by simpa using he) with (h | h) | h
   ·
    rw [hb] at h; cases h
   ·
    exact .inl h
   exact .inr h
  ·
   rw [hc] at h6; simpa using h6
  rcases h7 k hk with h | h
  ·
   exact (hki h).elim
  refine ⟨by simpa using h.1,fun c hc hck=>?_⟩
  have:=h.2
  rw [hc,hck] at this
  simp at this
theorem Jij {ops:Array Oper} {bl:List Bool} {is:List Nat} {d:Nat→Nat} {dep:Nat→List Nat} {cs:Nat→Option Nat} {n:Nat} (h:Jfx ops bl is d dep cs n=true) {k:Nat} (hk:k ∉ is) (hb:bl[k]? = some false) {o:Oper} (ho:ops[k]? = some o) {i:Nat} (hi:i∈is) :
  ∃ e∈o.after,Region.binds .any e=true∧e.on=i:=by
 unfold Jfx at h
 rw [Bool.and_eq_true,List.all_eq_true,List.all_eq_true] at h
 have hlt:k < bl.length:=(List.getElem?_eq_some_iff.1 hb).1
 have h1:=h.2 k (List.mem_range.2 hlt)
 simp only [ho,Bool.or_eq_true,List.contains_iff_mem,hk,hb,false_or,List.all_eq_true,List.any_eq_true,Bool.and_eq_true,beq_iff_eq] at h1
 rcases h1 with h1 | h1
 ·
  cases h1
 obtain ⟨e,he,hb,hj⟩:=h1 i hi
 exact ⟨e,by simpa using he,hb,hj⟩
section
variable {P:Program} {ro:Option Nat} {n0:Nat} {w0:World} {ds:List Deferred} {ops:Array Oper} {Q:Exit→Act→World→Prop} {L:List SA} {l:List Value} {C:World→Prop}
theorem St.sel0 {u:World} (A:List SA) (h:St n0 w0 (A++L) u):St n0 w0 L u:=St.sub (List.sublist_append_right _ _) h
def Jd6 (is:List Nat) (cs:Nat→Option Nat) (b:Nat→Bool) (j:Nat):Bool:=b j && !(is.any fun i=>b i && decide (cs i=some j))
structure ManyInv (n0:Nat) (w0:World) (L:List SA) (l:List Value) (bl:List Bool) (is:List Nat) (d:Nat→Nat) (dep:Nat→List Nat) (cs:Nat→Option Nat) (R:Nat→Value→List SA) (V:Nat→(Nat→Value)→Prop)
  (bl':List Bool) (l':List Value) (vs:Nat→Value) (u:World):Prop where
 bn:bl'.length=bl.length
 bo:∀ k,k ∉ is→bl'[k]? = bl[k]?
 bi:∀ k∈is,bl'[k]? = some true∨bl'[k]? = some false
 ln:l'.length=l.length
 lo:∀ k,(∀ j∈is,d j≠k)→l'[k]? = l[k]?
 li:∀ j∈is,bl'[j]? = some true→l'[d j]? = some (vs j)∧V j vs∧∀ k∈dep j,bl'[k]? = some true
 st:St n0 w0 (live is R vs (Jd6 is cs fun j=>decide (bl'[j]? = some true))++L) u
def Jlv (P:Program) (ro:Option Nat) (n0:Nat) (w0:World) (ds:List Deferred) (ops:Array Oper) (L:List SA) (l:List Value) (is:List Nat) (d:Nat→Nat) (dep:Nat→List Nat) (cs:Nat→Option Nat) (R:Nat→Value→List SA) (V:Nat→(Nat→Value)→Prop) (i:Nat) (o:Oper):Prop :=
 ∀ (Q:Exit→Act→World→Prop) (vs:Nat→Value) (l':List Value) (M:List SA),l'.length=l.length→(∀ j∈dep i,l'[d j]? = some (vs j)∧V j vs)→(∀ k,(∀ j∈is,d j≠k)→l'[k]? = l[k]?) →
  (∀ v,V i (upd vs i v)→QS n0 w0 ds Q .normal (R i v++M) (l'.set (d i) v))→WS P ro n0 w0 ds ops Q ((match cs i with | some c=>R c (vs c) | none=>[])++M) [o] l'
theorem AS.many {bl be:List Bool} {fuel nn:Nat} {le:(Nat→Value)→List Value} {L':(Nat→Value)→List SA} (is:List Nat) (d:Nat→Nat) (dep:Nat→List Nat) (cs:Nat→Option Nat) (R:Nat→Value→List SA) (V:Nat→(Nat→Value)→Prop)
  (hok:Jfx ops bl is d dep cs l.length=true) (hnd:is.Nodup) (hnn:is.length=nn) (hbe:Jii bl id (fun _=>true) is=some be) (hC:∀ u,St n0 w0 L u→C u)
  (hV:∀ i∈is,∀ vs vs',(∀ j∈i::dep i,vs j=vs' j)→V i vs→V i vs')
  (hle:∀ vs,Jii l d vs is=some (le vs)) (hL':∀ vs,live is R vs (fun j => !(is.any fun i=>decide (cs i=some j)))++L=L' vs)
  (step:∀ i∈is,∀ o,ops[i]? = some o→Jlv P ro n0 w0 ds ops L l is d dep cs R V i o)
  (fin:∀ vs,(∀ i∈is,V i vs)→AS P ro n0 w0 ds ops Q C (L' vs) fuel be (le vs)) :
  AS P ro n0 w0 ds ops Q C L (fuel+nn) bl l:=by
 subst hnn
 have hdj:∀ i∈is,∀ k∈is,d i=d k→i=k:=fun i hi k hk e=>by
  by_cases hki:k=i
  ·
   exact hki.symm
  obtain ⟨o,ho⟩:=Jbc hok hi
  exact ((ho.inj k hk hki).1 e.symm).elim
 have main:∀ (n:Nat) (bl':List Bool) (l':List Value) (vs:Nat→Value) (u:World),ManyInv n0 w0 L l bl is d dep cs R V bl' l' vs u→(is.filter fun k=>decide (bl'[k]? = some false)).length=n →
   AH P ro ops (NP Q) C (fuel+n) bl'.toArray ⟨l'.toArray,ds⟩ u:=by
  intro n
  induction n with
  | zero =>
   intro bl' l' vs u hI hn
   have hall:∀ k∈is,bl'[k]? = some true:=fun k hk=>by
    rcases hI.bi k hk with h | h
    ·
     exact h
    have:=List.filter_eq_nil_iff.1 (List.length_eq_zero_iff.1 hn) k hk
    simp [h] at this
   have e1:bl'=be:=by
    obtain ⟨q1,q2,q3⟩:=Jdf hbe hnd fun a _ b _ e=>e
    apply List.ext_getElem?
    intro k
    by_cases hk:k∈is
    ·
     have hlt:k < bl.length:=by
      have:=(List.getElem?_eq_some_iff.1 (hall k hk)).1
      rw [hI.bn] at this; exact this
     rw [hall k hk]; exact (q3 k hk hlt).symm
    rw [hI.bo k hk,q2 k fun i hi e=>hk (by simp at e; rw [← e]; exact hi)]
   have e2:l'=le vs:=by
    obtain ⟨q1,q2,q3⟩:=Jdf (hle vs) hnd hdj
    apply List.ext_getElem?
    intro k
    by_cases hk:∃ j∈is,d j=k
    ·
     obtain ⟨j,hj,rfl⟩:=hk
     obtain ⟨o,ho⟩:=Jbc hok hj
     rw [(hI.li j hj (hall j hj)).1,q3 j hj ho.lt]
    have hk':∀ j∈is,d j≠k:=fun j hj e=>hk ⟨j,hj,e⟩
    rw [hI.lo k hk',q2 k hk']
   subst e1 e2
   refine fin vs (fun i hi=>(hI.li i hi (hall i hi)).2.1) u ?_
   rw [← hL' vs]
   have:live is R vs (Jd6 is cs fun j=>decide (bl'[j]? = some true))=live is R vs (fun j => !(is.any fun i=>decide (cs i=some j))):=Jbj fun j hj=>by
    refine ⟨?_,fun _=>rfl⟩
    simp only [Jd6]
    rw [decide_eq_true (hall j hj),Bool.true_and]
    congr 1
    have:∀ (ks:List Nat),(∀ k∈ks,k∈is)→(ks.any fun i=>decide (bl'[i]? = some true) && decide (cs i=some j))=ks.any fun i=>decide (cs i=some j):=fun ks=>by
     induction ks with
     | nil=>intro _; rfl
     | cons a ks ih=>intro h; simp only [List.any_cons]; rw [ih fun k hk=>h k (List.mem_cons_of_mem _ hk),decide_eq_true (hall a (h a List.mem_cons_self)),Bool.true_and]
    exact this is fun _ h=>h
   rw [← this]
   exact hI.st
  | succ n ih =>
   intro bl' l' vs u hI hn u' hu'
   have hI':ManyInv n0 w0 L l bl is d dep cs R V bl' l' vs u':={ hI with st:=hI.st.ext hu' }
   -- the Jmw that is not over
   have hex:∃ k,k∈is∧bl'[k]? = some false:=by
    cases hf:is.filter fun k=>decide (bl'[k]? = some false) with
    | nil=>rw [hf] at hn; simp at hn
    | cons a r =>
     have:a∈is.filter fun k=>decide (bl'[k]? = some false):=by rw [hf]; exact List.mem_cons_self
     rw [List.mem_filter] at this
     exact ⟨a,this.1,by simpa using this.2⟩
   obtain ⟨m,⟨hm,hmf⟩,hmin⟩:=Jmw hex
   have hgd:∀ k,bl'.toArray.getD k true=false ↔ bl'[k]? = some false:=fun k=>by
    cases h:bl'[k]? with
    | none=>simp [Array.getD_eq_getD_getElem?,h]
    | some x=>simp [Array.getD_eq_getD_getElem?,h]
   have hgt:∀ k,bl'.toArray.getD k false=true ↔ bl'[k]? = some true:=fun k=>by
    cases h:bl'[k]? with
    | none=>simp [Array.getD_eq_getD_getElem?,h]
    | some x=>simp [Array.getD_eq_getD_getElem?,h]
   have hnin:∀ {k:Nat},bl[k]? = some true→bl'[k]? = some true:=fun {k} hk=>by
    by_cases hki:k∈is
    ·
     obtain ⟨o,ho⟩:=Jbc hok hki
     rw [ho.un] at hk; cases hk
    rw [hI.bo k hki]; exact hk
   refine ⟨hC _ (hI'.st.sel0 _),fun h0=>?_,fun i hi=>?_⟩
   ·
    exfalso
    obtain ⟨o,ho⟩:=Jbc hok hm
    have:m∈Region.ready .any ops bl'.toArray:=mem_ready.2 ⟨(hgd m).2 hmf,o,ho.op,fun e he hb=>(hgt _).2 (by
     rcases ho.aft e he hb with ⟨h1,h2⟩ | h1
     ·
      rcases hI.bi _ h1 with h | h
      ·
       exact h
      have:=hmin _ ⟨h1,h⟩; omega
     exact hnin h1)⟩
    rw [h0] at this
    cases this
   obtain ⟨hun,o,ho,hall⟩:=mem_ready.1 hi
   have hif:bl'[i]? = some false:=(hgd i).1 hun
   have hin:i∈is:=by
    by_cases hin:i∈is
    ·
     exact hin
    exfalso
    obtain ⟨e,he,hb,hj⟩:=Jij hok hin (by rw [← hI.bo i hin]; exact hif) ho hm
    have:=(hgt _).1 (hall e he hb)
    rw [hj,hmf] at this
    cases this
   obtain ⟨o',hM⟩:=Jbc hok hin
   obtain rfl:o=o':=by have:=hM.op; rw [ho] at this; exact Option.some.inj this
   have hdep:∀ j∈dep i,j∈is∧bl'[j]? = some true:=fun j hj=>by
    obtain ⟨h1,e,he,hb,hj'⟩:=hM.deps j hj
    exact ⟨h1,by rw [← hj']; exact (hgt _).1 (hall e he hb)⟩
   let p:Nat→Bool:=Jd6 is cs fun j=>decide (bl'[j]? = some true)
   -- nobody who is over waits for i
   have hno:∀ k∈is,bl'[k]? = some true→i ∉ dep k:=fun k hk hkt hik=>by
    have:=(hI.li k hk hkt).2.2 i hik
    rw [hif] at this; cases this
   have hpi:p i=false:=by simp [p,Jd6,hif]
   let q:Nat→Bool:=fun j=>decide (cs i=some j)
   have hpc:∀ c,cs i=some c→p c=true:=fun c hc=>by
    have hcd:=hdep c (hM.csd c hc)
    simp only [p,Jd6,hcd.2,decide_true,Bool.true_and,Bool.not_eq_true',List.any_eq_false,Bool.and_eq_true,decide_eq_true_eq,not_and]
    intro k hk hkt hck
    by_cases hki:k=i
    ·
     subst hki; rw [hif] at hkt; cases hkt
    exact (hM.inj k hk hki).2 c hc hck
   have e1:live is R vs (fun j=>p j && q j)=(match cs i with | some c=>R c (vs c) | none=>[]):=by
    cases hc:cs i with
    | none =>
     have:live is R vs (fun j=>p j && q j)=live is R vs fun _=>false:=Jbj fun j _=>⟨by simp [q,hc],fun _=>rfl⟩
     rw [this,Jey]
    | some c =>
     have:live is R vs (fun j=>p j && q j)=live is R vs fun j=>decide (j=c):=Jbj fun j _=>⟨by
      by_cases hjc:j=c
      ·
       subst hjc; simp [q,hc,hpc j hc]
      simp [q,hc,hjc,Ne.symm hjc],fun _=>rfl⟩
     rw [this,Jfa hnd (hdep c (hM.csd c hc)).1]
   have hst1:St n0 w0 ((match cs i with | some c=>R c (vs c) | none=>[])++(live is R vs (fun j=>p j && !q j)++L)) u':=by
    rw [← e1, ← List.append_assoc]
    exact hI'.st.perm (List.Perm.append_right _ (Jet is R vs p q))
   have hW:=step i hin o ho (Exit.then (AH P ro ops (NP Q) C (fuel+n) (bl'.set i true).toArray) (NP Q)) vs l' (live is R vs (fun j=>p j && !q j)++L) hI.ln (fun j hj=>by
     have:=hI.li j (hdep j hj).1 (hdep j hj).2
     exact ⟨this.1,this.2.1⟩) hI.lo (fun v hv=>by
    intro u2 hu2
    refine ih (bl'.set i true) (l'.set (d i) v) (upd vs i v) u2 ?_ ?_
    ·
     have hilt:i < bl'.length:=(List.getElem?_eq_some_iff.1 hif).1
     have hbs:∀ k,(bl'.set i true)[k]? = some true ↔ (k=i∨bl'[k]? = some true):=fun k=>by
      by_cases hk:k=i
      ·
       subst hk; simp [hilt]
      rw [List.getElem?_set_ne (Ne.symm hk)]; simp [hk]
     refine ⟨by simpa using hI.bn,fun k hk=>?_,fun k hk=>?_,by simpa using hI.ln,fun k hk=>?_,fun j hj hjt=>?_,?_⟩
     ·
      rw [List.getElem?_set_ne (by rintro rfl; exact hk hin)]; exact hI.bo k hk
     ·
      by_cases hki:k=i
      ·
       subst hki; exact .inl ((hbs k).2 (.inl rfl))
      rw [List.getElem?_set_ne (Ne.symm hki)]; exact hI.bi k hk
     ·
      rw [List.getElem?_set_ne (hk i hin)]; exact hI.lo k hk
     ·
      by_cases hji:j=i
      ·
       subst hji
       refine ⟨by rw [List.getElem?_set_self (by rw [hI.ln]; exact hM.lt),Jhq],hv,fun k hk=>(hbs k).2 (.inr (hdep k hk).2)⟩
      have hjt':bl'[j]? = some true:=by rcases (hbs j).1 hjt with h | h; exact (hji h).elim; exact h
      obtain ⟨a1,a2,a3⟩:=hI.li j hj hjt'
      refine ⟨by rw [List.getElem?_set_ne (Ne.symm (hM.inj j hj hji).1),Jjj hji]; exact a1,?_,fun k hk=>(hbs k).2 (.inr (a3 k hk))⟩
      refine hV j hj vs _ (fun k hk=>?_) a2
      rw [Jjj]
      rintro rfl
      rcases List.mem_cons.1 hk with h | h
      ·
       exact hji h.symm
      exact hno j hj hjt' h
     let p':Nat→Bool:=Jd6 is cs fun j=>decide ((bl'.set i true)[j]? = some true)
     have hp'i:p' i=true:=by
      simp only [p',Jd6,(hbs i).2 (.inl rfl),decide_true,Bool.true_and,Bool.not_eq_true',List.any_eq_false,Bool.and_eq_true,decide_eq_true_eq,not_and]
      intro k hk hkt hck
      obtain ⟨ok,hok'⟩:=Jbc hok hk
      have hid:=hok'.csd i hck
      rcases (hbs k).1 hkt with h | h
      ·
       subst h
       have:=(hdep k hid).2
       rw [hif] at this; cases this
      exact hno k hk h hid
     have e2:live is R (upd vs i v) (fun j=>p' j && decide (j=i))=R i v:=by
      have:live is R (upd vs i v) (fun j=>p' j && decide (j=i))=live is R (upd vs i v) fun j=>decide (j=i):=Jbj fun j _=>⟨by
       by_cases hj:j=i
       ·
        subst hj; simp [hp'i]
       simp [hj],fun _=>rfl⟩
      rw [this,Jfa hnd hin,Jhq]
     have e3:live is R (upd vs i v) (fun j=>p' j && !decide (j=i))=live is R vs (fun j=>p j && !q j):=Jbj fun j hj=>by
      by_cases hji:j=i
      ·
       subst hji; simp [hpi]
      refine ⟨?_,fun _=>Jjj hji⟩
      have h1:decide ((bl'.set i true)[j]? = some true)=decide (bl'[j]? = some true):=by
       rw [List.getElem?_set_ne (Ne.symm hji)]
      have h2:(is.any fun k=>decide ((bl'.set i true)[k]? = some true) && decide (cs k=some j))=((is.any fun k=>decide (bl'[k]? = some true) && decide (cs k=some j)) || decide (cs i=some j)):=by
       rw [Bool.eq_iff_iff]
       simp only [List.any_eq_true,Bool.and_eq_true,Bool.or_eq_true,decide_eq_true_eq]
       constructor
       ·
        rintro ⟨k,hk,hkt,hck⟩
        rcases (hbs k).1 hkt with h | h
        ·
         subst h; exact .inr hck
        exact .inl ⟨k,hk,h,hck⟩
       rintro (⟨k,hk,hkt,hck⟩ | h)
       ·
        exact ⟨k,hk,(hbs k).2 (.inr hkt),hck⟩
       exact ⟨i,hin,(hbs i).2 (.inl rfl),h⟩
      simp only [p',p,q,Jd6,h1,h2,hji,decide_false,Bool.not_false,Bool.and_true,Bool.not_or,Bool.and_assoc]
     have hp:=List.Perm.append_right L (Jet is R (upd vs i v) p' fun j=>decide (j=i))
     rw [e2,e3,List.append_assoc] at hp
     exact hu2.perm hp.symm
    have hf:(is.filter fun k=>decide (bl'[k]? = some false)).length=(is.filter fun k=>decide (bl'[k]? = some false) && !decide (k=i)).length+1:=Jhp hnd hin (by simp [hif])
    have:(is.filter fun k=>decide ((bl'.set i true)[k]? = some false))=is.filter fun k=>decide (bl'[k]? = some false) && !decide (k=i):=List.filter_congr fun k _=>by
     by_cases hki:k=i
     ·
      subst hki
      have hilt:k < bl'.length:=(List.getElem?_eq_some_iff.1 hif).1
      simp [hilt]
     rw [List.getElem?_set_ne (Ne.symm hki)]; simp [hki]
    rw [this]
    omega) 
   have h3:=Ja7 ho (hW u' hst1)
   simpa using h3
 intro u hu
 have hfl:is.filter (fun k=>decide (bl[k]? = some false))=is:=List.filter_eq_self.2 fun k hk=>by
  obtain ⟨o,ho⟩:=Jbc hok hk
  simp [ho.un]
 refine main is.length bl l (fun _=>undef) u ⟨rfl,fun _ _=>rfl,fun k hk=>?_,rfl,fun _ _=>rfl,fun j hj hjt=>?_,?_⟩ (by rw [hfl])
 ·
  obtain ⟨o,ho⟩:=Jbc hok hk
  exact .inr ho.un
 ·
  obtain ⟨o,ho⟩:=Jbc hok hj
  rw [ho.un] at hjt; cases hjt
 have:live is R (fun _=>undef) (Jd6 is cs fun j=>decide (bl[j]? = some true))=live is R (fun _=>undef) fun _=>false:=Jbj fun j hj=>by
  obtain ⟨o,ho⟩:=Jbc hok hj
  exact ⟨by simp [Jd6,ho.un],fun _=>rfl⟩
 rw [this,Jey]
 exact hu
end
section
variable {P:Program} {ro:Option Nat} {n0:Nat} {w0:World} {ds:List Deferred} {ops:Array Oper} {Q:Exit→Act→World→Prop} {L:List SA} {rest:List Oper} {l:List Value} {ty:TypeId} {ps:String} {af:Array Edge}
theorem WS.append0 {T e:TypeId} {size by_ i j m:Nat} {x y:Operand} {v z:Value} {news zc:List Value} (hT:sl P T=some (e,size,by_)) (hz:zv P e=some zc) (hzl:zc.length=size) (hs0:0 < size)
  (hx:evo l x=some (v)) (hj:L[j]? = some (osl e size v 0 [])) (hy:evo l y=some (z)) (hnews:∀ u,St n0 w0 L u→SlC u z m size news) (h1:∀ a∈news,a.oneCell'=true)
  (hm:m≤9223372036854775807) (hb:m * by_≤140737488355328)
  {l':Value→List Value} (hl:∀ v,lset l i v=some (l' v)) {L':Value→List SA} (hL:∀ v',lset L j (osl e size v' m news)=some (L' v')) (k:∀ v',WS P ro n0 w0 ds ops Q (L' v') rest (l' v')) :
  WS P ro n0 w0 ds ops Q L (⟨some i,.call ⟨.builtin .append, #[x,y], #[T,T]⟩,ty,ps,af,none⟩::rest) l :=
 WS.append (xs:=[]) hT hz hzl hs0 hx hj hy hnews h1 (by rw [Nat.zero_add]; exact hm) (by rw [Nat.zero_add]; exact hb) hl (fun v'=>by rw [Nat.zero_add,List.nil_append]; exact hL v') k
end
section
variable {P:Program} {n0:Nat} {w0:World} {L:List SA} {l:List Value} {fn:Func}
theorem outR {R:Ending→World→Prop} {v:Value} (hr:Res P fn l L n0 w0 v) (hR:∀ u,St n0 w0 L u→R (.returned v) u):QS n0 w0 [] (bodyPost P fn R) .ret L l:=fun u hu=>⟨rfl,_,hr u hu,hR u hu⟩
theorem Jbe {j b t:Nat} {ty e:TypeId} {c:List Value} (ht:l[t]? = some (.pointer (some ⟨b,0,none⟩))) (hj:L[j]? = some (blk b c e)) (hT:tk P ty=some (true,c.length)) :
  Rv P n0 w0 L l b t ty (.agg c.toArray):=⟨ht,fun u hu=>by
 have:=run_loadCells_list (P:=P) u ⟨b,0,none⟩ c fun j v h=>by rw [Jbd,Jb8 (hu.blk hj).2]; simpa using h
 simp [loadVar,(Jb2 hT u).1,(Jb2 hT u).2,this]⟩
end
abbrev P3:=List Int × List Int × List Int
def Stt.x (z:Stt):P3:=(z.ths.l,z.prs.l,z.pls.l)
def no3:P3:=([],[],[])
def RetS (w:World) (x:P3) (f:Value→Value):Ending→World→Prop:=fun e w'=>∃ z:Stt,(z.x=x∧∃ u0,SttOk u0 z)∧RetF w (f (.agg #[z.ths.v,z.prs.v,z.pls.v])) (roS fun u=>SttOk u z) e w'
def Jdq (n:Nat) (c:List Lit):Prop:=∀ x∈c,0≤x.t∧x.t < n
def autoI (aus:List Auto) (ths:List Int):Int:=idxF (fun a=>Jcp ths a.wh.l && !decide (nth ths a.t=a.s)) aus
def settleN (aus:List Auto):Nat→List Int→Option (List Int)
 | 0,_=>none
 | n+1,ths=>if autoI aus ths < 0 then some ths else settleN aus n (ths.set (nth aus (autoI aus ths)).t.toNat (nth aus (autoI aus ths)).s)
def Jdg (aus:List Auto) (n:Nat):Prop:=∀ a∈aus,(0≤a.t∧a.t < n)∧Jdq n a.wh.l
theorem Jlb {aus:List Auto} {ths:List Int} (h:¬ autoI aus ths < 0):0≤autoI aus ths∧autoI aus ths < aus.length:=by
 refine ⟨by omega,?_⟩
 unfold autoI idxF at *
 split at h
 ·
  rename_i i hi
  have:=(List.findIdx?_eq_some_iff_findIdx_eq.1 hi).1
  omega
 omega
def settleV (r:Room) (x:P3):Option P3:=(settleN r.aus.l 101 x.1).map fun t=>(t,x.2.1,x.2.2)
structure ActIn (r:Room) (a:Actn):Prop where
 wh:Jdq r.ths.l.length a.wh.l
 pl:0≤a.pl∧a.pl < r.pls.l.length
 us:∀ x∈a.us.l,0≤x∧x < r.prs.l.length
 sp:∀ x∈a.sp.l,0≤x∧x < r.prs.l.length
 br:∀ x∈a.br.l,0≤x∧x < r.prs.l.length
 se:∀ x∈a.se.l,putB r.ths.l x.t x.s=true
 lus:a.us.l.length≤r.prs.l.length
 lsp:a.sp.l.length≤r.prs.l.length
 lbr:a.br.l.length≤r.prs.l.length
 lse:a.se.l.length≤6
structure Ready (r:Room):Prop where
 ply:1≤r.ply∧r.ply≤4
 lens:1≤r.pls.l.length∧r.pls.l.length≤8∧r.ths.l.length≤12∧r.prs.l.length≤10∧r.wys.l.length≤16∧r.acs.l.length≤24∧r.aus.l.length≤12
 ths:∀ x∈r.ths.l,thB r x=true
 aus:Jdg r.aus.l r.ths.l.length
 aut:∀ a∈r.aus.l,putB r.ths.l a.t a.s=true
 prs:∀ p∈r.prs.l,Jdq r.ths.l.length p.wh.l∧(p.pl = -1∨placeB r p.pl=true)
 wys:∀ x∈r.wys.l,Jdq r.ths.l.length x.wh.l∧(0≤x.a∧x.a < r.pls.l.length)∧(0≤x.b∧x.b < r.pls.l.length)
 acs:∀ a∈r.acs.l,ActIn r a
 gl:Jdq r.ths.l.length r.gl.l
theorem Jjt {ths:List Thing} {a b:Int} (h:putB ths a b=true):0≤a∧a < ths.length:=by
 simp only [putB,Bool.and_eq_true,decide_eq_true_eq] at h
 omega
theorem Jd2 {r:Room} {n:Int} (h:placeB r n=true):0≤n∧n < r.pls.l.length:=by
 simp only [placeB,Bool.and_eq_true,decide_eq_true_eq] at h
 omega
theorem Jea {ths:List Thing} {c:List Lit} (h:Jen ths c=true):Jdq ths.length c:=fun x hx=>by
 simp only [Jen,Bool.and_eq_true,List.all_eq_true] at h
 exact Jjt (h.1 x hx)
theorem Jip {r:Room} {c:List Lit} (h:whO r c=0):Jen r.ths.l c=true:=by
 unfold whO at h
 split at h
 ·
  assumption
 cases h
theorem ite0 {b:Bool} {k:Int} (hk:k≠0) (h:(if b=true then (0:Int) else k)=0):b=true:=by
 split at h
 ·
  assumption
 exact (hk h).elim
theorem Jc0 {n:Nat} {l:List Int} (h:ascB n l=true):∀ x∈l,0≤x∧x < n:=fun x hx=>by
 obtain ⟨i,h0,h1,rfl⟩:=Jaz hx
 have:=Jd3 h h0 h1
 simp only [Bool.and_eq_true,decide_eq_true_eq] at this
 omega
theorem Jko {n:Nat} {l:List Int} (h:ascB n l=true):∀ k:Nat,k < l.length→(k:Int)≤nth l k
 | 0,hk=>(Jc0 h _ (Jad (by omega) (by omega))).1
 | k+1,hk=>by
  have h1:=Jko h k (by omega)
  have h2:=Jd3 h (i:=((k+1:Nat):Int)) (by omega) (by omega)
  simp only [Bool.and_eq_true,Bool.or_eq_true,decide_eq_true_eq] at h2
  rw [show ((k+1:Nat):Int) - 1=(k:Int) by omega] at h2
  omega
theorem Je8 {n:Nat} {l:List Int} (h:ascB n l=true):l.length≤n:=by
 by_cases hl:l.length=0
 ·
  omega
 have h1:=Jko h (l.length - 1) (by omega)
 have h2:=(Jc0 h _ (Jad (xs:=l) (i:=((l.length - 1:Nat):Int)) (by omega) (by omega))).2
 omega
theorem Jcm {r:Room} (h:checkE r=0):Ready r:=by
 obtain ⟨hm,h2⟩:=Jd9 h
 obtain ⟨hpl,h3⟩:=Jbu h2
 obtain ⟨hth,h4⟩:=Jbu h3
 obtain ⟨hpr,h5⟩:=Jbu h4
 obtain ⟨hwy,h6⟩:=Jbu h5
 obtain ⟨hac,h7⟩:=Jbu h6
 obtain ⟨hau,hgl⟩:=Jbu h7
 have hl:¬ r.pls.l.length=0:=fun h0=>by
  unfold checkE at h
  rw [hm,if_neg (by decide),if_pos h0] at h
  cases h
 refine ⟨Jdl h,?_,fun x hx=>?_,fun a ha=>?_,fun a ha=>?_,fun p hp=>?_,fun x hx=>?_,fun a ha=>?_,Jea (Jip (Jbu hgl).2)⟩
 ·
  simp only [manyB,Bool.or_eq_false_iff,decide_eq_false_iff_not] at hm
  omega
 ·
  obtain ⟨i,h0,h1,rfl⟩:=Jaz hx
  have:=ite0 (by decide) (Ja6 hth i h0 h1)
  simp only [Bool.and_eq_true] at this
  exact this.2.2
 ·
  obtain ⟨i,h0,h1,rfl⟩:=Jaz ha
  have:=Jbu (Ja6 hau i h0 h1)
  exact ⟨Jjt (ite0 (by decide) this.1),Jea (Jip this.2)⟩
 ·
  obtain ⟨i,h0,h1,rfl⟩:=Jaz ha
  have:=Jbu (Ja6 hau i h0 h1)
  exact ite0 (by decide) this.1
 ·
  obtain ⟨i,h0,h1,rfl⟩:=Jaz hp
  have:=Jbu (Ja6 hpr i h0 h1)
  refine ⟨Jea (Jip this.2),?_⟩
  have:=ite0 (by decide) this.1
  simp only [Bool.and_eq_true,Bool.or_eq_true,decide_eq_true_eq] at this
  exact this.2.2
 ·
  obtain ⟨i,h0,h1,rfl⟩:=Jaz hx
  have:=Jbu (Ja6 hwy i h0 h1)
  have h8:=ite0 (by decide) this.1
  simp only [Bool.and_eq_true] at h8
  exact ⟨Jea (Jip this.2),Jd2 h8.1,Jd2 h8.2.1⟩
 obtain ⟨i,h0,h1,rfl⟩:=Jaz ha
 have:=Jbu (Ja6 hac i h0 h1)
 have h8:=ite0 (by decide) this.1
 simp only [actB,act2,Bool.and_eq_true,decide_eq_true_eq] at h8
 obtain ⟨_,⟨_,hp,_,hu,hs,hb,hse⟩,_,_,h5⟩:=h8
 refine ⟨Jea (Jip this.2),Jd2 hp,Jc0 hu,Jc0 hs,Jc0 hb,fun x hx=>?_,Je8 hu,Je8 hs,Je8 hb,by omega⟩
 obtain ⟨k,a0,a1,rfl⟩:=Jaz hx
 have:=Jd3 h5 a0 a1
 simp only [Bool.and_eq_true] at this
 exact this.1
structure StIn (r:Room) (x:P3):Prop where
 lt:x.1.length=r.ths.l.length
 lp:x.2.1.length=r.prs.l.length
 ll:(x.2.2.length:Int)=r.ply
 th:∀ i:Int,0≤i→i < x.1.length→putB r.ths.l i (nth x.1 i)=true
 pr:∀ i:Int,0≤i→i < x.2.1.length→(placeB r (nth x.2.1 i) || (decide (nth x.2.1 i = -1) || (decide (-2 - r.ply+1≤nth x.2.1 i) && decide (nth x.2.1 i ≤ -2))))=true
 pl:∀ i:Int,0≤i→i < x.2.2.length→placeB r (nth x.2.2 i)=true
def stL (r:Room) (x:P3):Int:=or0 (checkE r) (stE r x.1 x.2.1 x.2.2)
theorem Jpa {r:Room} {x:P3}:stE r x.1 x.2.1 x.2.2=0 ↔ StIn r x:=by
 constructor
 ·
  intro h
  unfold stE at h
  split at h
  ·
   rename_i hl
   simp only [Bool.and_eq_true,decide_eq_true_eq] at hl
   obtain ⟨h1,h2⟩:=Jbu h
   obtain ⟨h2,h3⟩:=Jbu h2
   exact ⟨hl.1,hl.2.1,hl.2.2,fun i h0 hi=>ite0 (by decide) (Ja6 h1 i h0 hi),fun i h0 hi=>ite0 (by decide) (Ja6 h2 i h0 hi),fun i h0 hi=>ite0 (by decide) (Ja6 h3 i h0 hi)⟩
  cases h
 intro h
 unfold stE
 have e1:Jay (Jcs r x.1) x.1.length=0:=Jag fun i a b=>if_pos (h.th i a b)
 have e2:Jay (Jcx r x.2.1) x.2.1.length=0:=Jag fun i a b=>if_pos (h.pr i a b)
 have e3:Jay (Jco r x.2.2) x.2.2.length=0:=Jag fun i a b=>if_pos (h.pl i a b)
 rw [if_pos (by simp only [Bool.and_eq_true,decide_eq_true_eq]; exact ⟨h.lt,h.lp,h.ll⟩),e1,Jb3 rfl,e2,Jb3 rfl,e3]
theorem Jds {r:Room} {x:P3}:stL r x=0 ↔ checkE r=0∧StIn r x:=by
 rw [← Jpa]
 constructor
 ·
  exact Jbu
 rintro ⟨h1,h2⟩; unfold stL; rw [Jb3 h1,h2]
theorem StIn.small {r:Room} {x:P3} (h:StIn r x) (hr:Ready r):x.1.length≤1000000∧x.2.1.length≤1000000∧x.2.2.length≤1000000:=by
 have:=h.lt; have:=h.lp; have:=h.ll; have:=hr.lens; have:=hr.ply
 omega
theorem StIn.autos {r:Room} {x:P3} (h:StIn r x) (hr:Ready r):Jdg r.aus.l x.1.length:=by rw [h.lt]; exact hr.aus
def ansS (r:Room) (o:Option P3):Int × P3:=match o with | some y=>(0,y) | none=>(27,no3)
def SettleV (r:Room) (x:P3):Int × P3:=if stL r x=0 then ansS r (settleV r x) else (stL r x,no3)
def Jbn (r:Room):P3:=(r.ths.l.map Thing.sr,r.prs.l.map Pro.pl,List.replicate r.ply.toNat 0)
def BeginV (r:Room):Int × P3:=if checkE r=0 then SettleV r (Jbn r) else (checkE r,no3)
theorem SttOk.ones {w:World} {z:Stt} (h:SttOk w z):z.ths.v.oneCell'=true∧z.prs.v.oneCell'=true∧z.pls.v.oneCell'=true:=⟨Sl.one h.ths,Sl.one h.prs,Sl.one h.pls⟩
theorem Jc1 {α:Type} [Inhabited α] {xs:List α} {s:Int} (h0:0≤s) (h1:s < xs.length):xs.take (s+1).toNat=xs.take s.toNat++[nth xs s]:=by
 have h2:s.toNat < xs.length:=by omega
 rw [show (s+1).toNat=s.toNat+1 by omega,List.take_succ_eq_append_getElem h2]
 have:nth xs s=xs[s.toNat]:=by simp [nth,List.getD,h2]
 rw [this]
theorem Jfc {xs:List Int} {v s:Int} (h0:0≤s) (h1:s < xs.length):cnt (xs.take (s+1).toNat) v=cnt (xs.take s.toNat) v+(if nth xs s=v then 1 else 0):=by
 rw [Jc1 h0 h1,Jl4]
def goB (r:Room) (x:P3) (m:Move):Bool:=((decide (0≤m.n) && decide (m.n≤r.wys.l.length - 1)) && (decide ((nth r.wys.l m.n).a=nth x.2.2 m.p) || decide ((nth r.wys.l m.n).b=nth x.2.2 m.p))) && Jcp x.1 (nth r.wys.l m.n).wh.l
def Jib (r:Room) (x:P3) (m:Move):Bool:=(((decide (0≤m.n) && decide (m.n≤r.prs.l.length - 1)) && decide (nth x.2.1 m.n=nth x.2.2 m.p)) && Jcp x.1 (nth r.prs.l m.n).wh.l) && decide (cnt x.2.1 (-2 - m.p) < 3)
def Jif (r:Room) (x:P3) (m:Move):Bool:=(decide (0≤m.n) && decide (m.n≤r.prs.l.length - 1)) && decide (nth x.2.1 m.n = -2 - m.p)
def Jl3 (x:P3) (a:Actn) (m:Move):Bool:=allI a.us.l.length fun k=>decide (nth x.2.1 (nth a.us.l k) = -2 - m.p)
def Jks (x:P3) (a:Actn):Bool:=allI a.br.l.length fun k=>decide (nth x.2.1 (nth a.br.l k) = -1)
def Ji3 (x:P3) (a:Actn) (m:Move):Bool:=(decide (a.pl=nth x.2.2 m.p) && Jcp x.1 a.wh.l) && decide (cnt x.2.1 (-2 - m.p) - a.sp.l.length+a.br.l.length≤3)
def doB (r:Room) (x:P3) (m:Move):Bool:=(decide (0≤m.n) && decide (m.n≤r.acs.l.length - 1)) && (Jl3 x (nth r.acs.l m.n) m && (Jks x (nth r.acs.l m.n) && Ji3 x (nth r.acs.l m.n) m))
def legalB (r:Room) (x:P3) (m:Move):Bool :=
 if (decide (0≤m.p) && decide (m.p≤r.ply - 1))=true then
  if m.k=1 then goB r x m else if m.k=2 then Jib r x m else if m.k=3 then Jif r x m else if m.k=4 then doB r x m else false
 else false
def Jbr (v:Int) (l:List Int) (ps:List Int):List Int:=ps.foldl (fun l p=>l.set p.toNat v) l
def Jdr (l:List Int) (ss:List Put):List Int:=ss.foldl (fun l s=>l.set s.t.toNat s.s) l
theorem Jb6 {v:Int}:∀ {ps l:List Int},(Jbr v l ps).length=l.length
 | [],_=>rfl
 | p::ps,l=>by
  have:=Jb6 (v:=v) (ps:=ps) (l:=l.set p.toNat v)
  simpa [Jbr] using this
theorem Jdh:∀ {ss:List Put} {l:List Int},(Jdr l ss).length=l.length
 | [],_=>rfl
 | p::ps,l=>by
  have:=Jdh (ss:=ps) (l:=l.set p.t.toNat p.s)
  simpa [Jdr] using this
theorem Jd7 {v:Int} {l ps:List Int} {s:Int} (h0:0≤s) (h1:s < ps.length):Jbr v l (ps.take (s+1).toNat)=(Jbr v l (ps.take s.toNat)).set (nth ps s).toNat v:=by
 rw [Jc1 h0 h1,Jbr,List.foldl_append]; rfl
theorem Jga {l:List Int} {ps:List Put} {s:Int} (h0:0≤s) (h1:s < ps.length):Jdr l (ps.take (s+1).toNat)=(Jdr l (ps.take s.toNat)).set (nth ps s).t.toNat (nth ps s).s:=by
 rw [Jc1 h0 h1,Jdr,List.foldl_append]; rfl
def moveX (r:Room) (x:P3) (m:Move):P3 :=
 if m.k=1 then (x.1,x.2.1,x.2.2.set m.p.toNat ((nth r.wys.l m.n).a+(nth r.wys.l m.n).b - nth x.2.2 m.p))
 else if m.k=2 then (x.1,x.2.1.set m.n.toNat (-2 - m.p),x.2.2)
 else if m.k=3 then (x.1,x.2.1.set m.n.toNat (nth x.2.2 m.p),x.2.2)
 else if m.k=4 then (Jdr x.1 (nth r.acs.l m.n).se.l,Jbr (-2 - m.p) (Jbr (-1) x.2.1 (nth r.acs.l m.n).sp.l) (nth r.acs.l m.n).br.l,x.2.2)
 else x
theorem Jfe {r:Room} {x:P3} {m:Move}:(moveX r x m).1.length=x.1.length∧(moveX r x m).2.1.length=x.2.1.length∧(moveX r x m).2.2.length=x.2.2.length:=by
 unfold moveX
 split
 ·
  simp
 split
 ·
  simp
 split
 ·
  simp
 split
 ·
  simp [Jdh,Jb6]
 simp
def StepV (r:Room) (x:P3) (m:Move):Int × P3:=if stL r x=0 then if legalB r x m=true then ansS r (settleV r (moveX r x m)) else (29,no3) else (stL r x,no3)
structure MoveIn (r:Room) (x:P3) (m:Move):Prop where
 p:0≤m.p∧m.p < x.2.2.length∧m.p≤3
 go:m.k=1→0≤m.n∧m.n < r.wys.l.length
 pr:m.k=2∨m.k=3→0≤m.n∧m.n < x.2.1.length
 ac:m.k=4→0≤m.n∧m.n < r.acs.l.length
theorem Jmu {r:Room} {x:P3} {m:Move} (hR:Ready r) (hI:StIn r x) (h:legalB r x m=true):MoveIn r x m:=by
 have hl:=hI.ll
 have hp:=hI.lp
 have hy:=hR.ply
 unfold legalB at h
 split at h
 ·
  rename_i h1
  simp only [Bool.and_eq_true,decide_eq_true_eq] at h1
  refine ⟨by omega,fun hk=>?_,fun hk=>?_,fun hk=>?_⟩
  ·
   rw [if_pos hk] at h
   simp only [goB,Bool.and_eq_true,decide_eq_true_eq] at h
   omega
  ·
   rcases hk with hk | hk
   ·
    rw [if_neg (by omega),if_pos hk] at h
    simp only [Jib,Bool.and_eq_true,decide_eq_true_eq] at h
    omega
   rw [if_neg (by omega),if_neg (by omega),if_pos hk] at h
   simp only [Jif,Bool.and_eq_true,decide_eq_true_eq] at h
   omega
  rw [if_neg (by omega),if_neg (by omega),if_neg (by omega),if_pos hk] at h
  simp only [doB,Bool.and_eq_true,decide_eq_true_eq] at h
  omega
 cases h
theorem StIn.at {r:Room} {x:P3} (hI:StIn r x) {i:Int} (h0:0≤i) (h1:i < x.2.2.length):0≤nth x.2.2 i∧nth x.2.2 i < r.pls.l.length:=Jd2 (hI.pl i h0 h1)
def oT {α:Type} (C:Cel α) (e:TypeId) (v:Value) (l:List α):SA:=osl e C.k v l.length (Jal C l)
section
variable {P:Program} {ro:Option Nat} {n0:Nat} {w0:World} {ds:List Deferred} {ops:Array Oper} {Q:Exit→Act→World→Prop} {L:List SA} {rest:List Oper} {l:List Value} {ty:TypeId} {ps:String} {af:Array Edge}
 {α:Type} {C:Cel α}
theorem WS.buildT1 (C:Cel α) {T e:TypeId} {by_ i:Nat} {x:Operand} {a:α} {zc:List Value} (hT:sl P T=some (e,C.k,by_)) (hz:zv P e=some zc) (hx:evo l x=some (.agg (C.cells a).toArray)) (hk:0 < C.k∧C.k≤1000)
  {l':Value→List Value} (hl:∀ v,lset l i v=some (l' v)) (kk:∀ v,WS P ro n0 w0 ds ops Q (oT C e v [a]::L) rest (l' v)) :
  WS P ro n0 w0 ds ops Q L (⟨some i,.buildSlice T 1 #[(0,x)],ty,ps,af,none⟩::rest) l:=by
 refine WS.buildSliceK (pl:=[(0,x)]) (rows:=[C.cells a]) (k:=C.k) hT hz (by simp [Jah hx]) rfl (by omega) (by omega) (by simp [C.len]) hl fun v=>?_
 exact kk v
theorem WS.appendT1 {T e:TypeId} {by_ i j jz:Nat} {x y:Operand} {v z:Value} {a:α} {xs:List α} {zc:List Value} (hT:sl P T=some (e,C.k,by_)) (hz:zv P e=some zc) (hzl:zc.length=C.k) (hk:0 < C.k)
  (hx:evo l x=some v) (hj:L[j]? = some (oT C e v xs)) (hy:evo l y=some z) (hjz:L[jz]? = some (oT C e z [a])) {w:World} (h1:C.ok w a)
  (hm:xs.length+1≤9223372036854775807) (hb:(xs.length+1) * by_≤140737488355328)
  {l':Value→List Value} (hl:∀ v,lset l i v=some (l' v)) {L':Value→List SA} (hL:∀ v',lset L j (oT C e v' (xs++[a]))=some (L' v')) (k:∀ v',v'.oneCell'=true→WS P ro n0 w0 ds ops Q (L' v') rest (l' v')) :
  WS P ro n0 w0 ds ops Q L (⟨some i,.call ⟨.builtin .append, #[x,y], #[T,T]⟩,ty,ps,af,none⟩::rest) l:=by
 refine WS.append hT hz hzl hk hx hj hy (m:=1) (fun u hu=>Jbm hu hjz) (fun b hb'=>?_) hm hb hl (L':=L') (fun v'=>?_) fun v'=>?_
 ·
  rw [Jfj] at hb'; exact C.one w a h1 b hb'
 ·
  rw [← hL v',oT,Jc3]; simp
 have hjl:=(List.getElem?_eq_some_iff.1 hj).1
 have h2:=(Jae (hL v')).symm
 refine WS.oc (j:=j) (v:=v') (e:=e) (k:=C.k) (n:=(xs++[a]).length) (xs:=Jal C (xs++[a])) (by rw [h2,List.getElem?_set_self hjl]; rfl) (k v')
theorem Jmh {u:World} {e:TypeId} {v:Value} {xs:List α} {j:Nat} (hu:St n0 w0 L u) (hj:L[j]? = some (oT C e v xs)) (hk:∀ a∈xs,C.ok u a):SlT C u ⟨v,xs⟩:=⟨Jbm hu hj,hk⟩
end
def Jbt (p k:Int) (n:Nat):List Move:=(List.range n).map fun i:Nat=>(⟨p,k,(i:Int)⟩:Move)
def Jk3 (p:Int):Nat→List Move
 | 0=>[]
 | j+1=>Jk3 p j++Jbt p ((j:Int)+1) 24
def Jll:Nat→List Move
 | 0=>[]
 | q+1=>Jll q++Jk3 q 4
theorem Ji5 (p k:Int) (n:Nat):(Jbt p k n).length=n:=by simp [Jbt]
theorem Jh3 (p k:Int) {n:Int} (h0:0≤n):Jbt p k (n+1).toNat=Jbt p k n.toNat++[⟨p,k,n⟩]:=by
 rw [show (n+1).toNat=n.toNat+1 by omega]
 simp [Jbt,List.range_succ]
 omega
def Jmk (r:Room) (x:P3):List Move:=(Jll r.ply.toNat).filter (legalB r x)
def LegalV (r:Room) (x:P3):Int × List Move:=if stL r x=0 then (0,Jmk r x) else (stL r x,[])
def RetM (w:World) (x:List Move) (f:Value→Value):Ending→World→Prop:=fun e w'=>∃ v:Value,(∃ u0,SlT cMove u0 ⟨v,x⟩)∧RetF w (f v) (roT cMove ⟨v,x⟩) e w'
theorem retM {w0 u:World} {L:List SA} {e:TypeId} {j:Nat} {v:Value} {xs:List Move} {f:Value→Value} (hj:L[j]? = some (oT cMove e v xs)) (hu:St w0.heap.size w0 L u):RetM w0 xs f (.returned (f v)) u :=
 ⟨v,⟨u,Jmh hu hj fun _ _=>trivial⟩,retR (fun S u h=>⟨Star.osl hj h,fun _ _=>trivial⟩) u hu⟩
theorem Jpm {w0 u:World} {L:List SA} {f:Value→Value} (hu:St w0.heap.size w0 L u):RetM w0 [] f (.returned (f (.slice none 0 0))) u :=
 ⟨_,⟨u,SlT.nil cMove u⟩,retR (fun S u h=>SlT.nil cMove u) u hu⟩
theorem RetF.toRo {w:World} {v:Value} {A:SA} {p:World→Prop} (hp:∀ S u,A.h S u→p u) {e:Ending} {u:World} (h:RetF w v A e u):RetF w v (roS p) e u:=by
 obtain ⟨h1,h2,T,h3,h4⟩:=h
 exact ⟨h1,h2,T,⟨fun u' hk=>hp T u' (A.loc T u u' h3 hk),fun k hS=>A.dom T u k h3 hS⟩,h4⟩
theorem RetF.now {w:World} {v:Value} {p:World→Prop} {e:Ending} {u:World} (h:RetF w v (roS p) e u):p u:=by
 obtain ⟨_,_,T,h3,_⟩:=h
 exact roS.now h3
theorem Jgv {α β:Type} [Inhabited α] (f:α→β) {l:List α} {s:Int} (h0:0≤s) (h1:s < l.length):(l.take s.toNat).map f++[f (nth l s)]=(l.take (s+1).toNat).map f:=by
 rw [Jc1 h0 h1]; simp
def Jaw (n:Nat):List Int:=(List.range n).map fun i:Nat=>(i:Int)
theorem Jbh {n:Int} (h0:0≤n):Jaw (n+1).toNat=Jaw n.toNat++[n]:=by
 rw [show (n+1).toNat=n.toNat+1 by omega]
 simp [Jaw,List.range_succ]
 omega
theorem StIn.held {r:Room} {x:P3} (hI:StIn r x) {i:Int} (h0:0≤i) (h1:i < x.2.1.length) (h2:nth x.2.1 i ≤ -2):0 ≤ -2 - nth x.2.1 i ∧ -2 - nth x.2.1 i < x.2.2.length:=by
 have:=hI.pr i h0 h1
 have h3:=hI.ll
 simp only [placeB,Bool.or_eq_true,Bool.and_eq_true,decide_eq_true_eq] at this
 omega
theorem Jl7 {α:Type} (cur vs:List α) {m N:Nat} (h:m+vs.length≤N) (hN:N≤cur.length):(cur.take m++vs++cur.drop (m+vs.length)).take N=(cur.take N).take m++vs++(cur.take N).drop (m+vs.length):=by
 rw [List.take_take,Nat.min_eq_left (by omega),List.take_append,List.take_of_length_le (l:=cur.take m++vs) (by simp; omega)]
 congr 1
 rw [List.length_append,List.length_take,Nat.min_eq_left (by omega),List.drop_take]
section
variable {P:Program} {ro:Option Nat} {n0:Nat} {w0:World} {ds:List Deferred} {ops:Array Oper} {Q:Exit→Act→World→Prop} {L:List SA} {rest:List Oper} {l:List Value} {d:Option Tmp} {ty:TypeId} {ps:String} {af:Array Edge} {g:Option (Nat × Bool)}
theorem WS.storeOC {T e:TypeId} {x y:Operand} {v z:Value} {k n m j:Nat} {q:Bool} {vs xs xs':List Value} (hx:evo l x=some (.pointer (some (sla v m)))) (hj:L[j]? = some (osl e k v n xs)) (hm:m+vs.length≤xs.length) (h0:0 < vs.length)
  (hy:evo l y=some z) (hz:z.cells=vs.toArray) (h1:∀ a∈vs,a.oneCell'=true) (hT:tk P T=some (q,vs.length)) (hxs:xs.take m++vs++xs.drop (m+vs.length)=xs')
  {L':List SA} (hL:lset L j (osl e k v n xs')=some L') (kk:WS P ro n0 w0 ds ops Q L' rest l) :
  WS P ro n0 w0 ds ops Q L (⟨none,.store T x y,ty,ps,af,none⟩::rest) l:=by
 rw [← Jae hL] at kk
 subst hxs
 (replace hx:=Jah hx; replace hy:=Jah hy)
 refine WS.world_skip rfl rfl rfl fun u hu=>?_
 obtain ⟨S,hS,⟨hS1,hl,h2⟩,hupd⟩:=hu.upd hj
 rcases h2 with ⟨rfl,rfl⟩ | ⟨b,cap,cur,rfl,hb,hg,hn,hcap,hcur,htake⟩
 ·
  simp at hl; subst hl; simp at hm; rw [hm.2] at h0; simp at h0
 have es:sla (.slice (some ⟨b,0,none⟩) n cap) m=⟨b,m,none⟩:=by simp [sla,slb,slo]
 rw [es] at hx
 have hcn:n * k≤cur.toList.length:=by
  rw [Array.length_toList,hcur]; exact Nat.mul_le_mul_right _ hn
 have hlen:xs.length=n * k:=by rw [← htake,List.length_take]; omega
 have hst:=run_storeCells_at P b m e vs 0 cur u hg (by simp at hcn; omega) h1
 simp only [Nat.add_zero] at hst
 have hb':=hS b ((hS1 b).2 rfl)
 refine ⟨u.setRow b (cur.toList.take m++vs++cur.toList.drop (m+vs.length)).toArray,?_,?_⟩
 ·
  simp [execOp,hx,hy,Instr.storeAt,Instr.sureAddr,storeVar,(Jb2 hT u).2,hz,hst]
 refine kk _ (hupd _ _ (fun k=>k=b) ⟨rfl,rfl,rfl,by simp,fun k hk=>setRow_other u b k _ (fun e=>by omega)⟩ (fun k hk o' hcell=>?_) ⟨fun k=>?_,by simp; omega,.inr ⟨b,cap,_,rfl,hb,setRow_heap u b cur _ e _ hg,hn,hcap,by simp at hcn ⊢; omega,?_⟩⟩
  (fun k hk=>by subst hk; exact ⟨hb',.inl ((hS1 _).2 rfl)⟩))
 ·
  rw [setRow_other u b k _ (fun e=>hk.2.2 ((hS1 k).2 (by rw [e]; rfl)))]; exact hcell
 ·
  exact ⟨fun h=>by rw [h]; rfl,fun h=>by simpa [Value.ownBlock,eq_comm] using h⟩
 rw [← htake]
 exact Jl7 cur.toList vs (by omega) hcn
end
section
variable {α:Type} (C:Cel α)
theorem Jji {l:List α} {i:Nat} {a:α} (hi:i < l.length):(Jal C l).take (i * C.k)++C.cells a++(Jal C l).drop (i * C.k+(C.cells a).length)=Jal C (l.set i a):=by
 rw [C.len, ← Jev,show i * C.k+C.k=(i+1) * C.k by rw [Nat.succ_mul], ← Jeo,List.set_eq_take_append_cons_drop,if_pos hi,Jc3,List.append_assoc]
 congr 1
theorem Jge {l:List α} {i f:Nat} {a:α} {z:Value} [Inhabited α] (hi:i < l.length) (hf:f < C.k) (ha:C.cells a=(C.cells (nth l i)).set f z):(Jal C l).take (i * C.k+f)++[z]++(Jal C l).drop (i * C.k+f+[z].length)=Jal C (l.set i a):=by
 have h2:nth l (i:Int)=l[i]:=by simp [nth,List.getD,hi]
 rw [h2] at ha
 rw [← Ji4 C hi hf ha,List.set_eq_take_append_cons_drop,if_pos (by rw [Jbi]; calc i * C.k+f < i * C.k+C.k:=by omega
  _=(i+1) * C.k:=by rw [Nat.succ_mul]
  _≤l.length * C.k:=Nat.mul_le_mul_right _ hi)]
 simp
end
section
variable {P:Program} {ro:Option Nat} {n0:Nat} {w0:World} {ds:List Deferred} {ops:Array Oper} {Q:Exit→Act→World→Prop} {L:List SA} {rest:List Oper} {l:List Value} {d:Option Tmp} {ty:TypeId} {ps:String} {af:Array Edge} {g:Option (Nat × Bool)}
 {α:Type} {C:Cel α}
theorem Jcy {T e e':TypeId} {a b j:Nat} {x:Operand} {v:Value} {xs:List α} (hT:sl P T=some (e,a,b)) (hx:evo l x=some v) (hj:L[j]? = some (oT C e' v xs)) :
  Det P (St n0 w0 L) ⟨d,.call ⟨.builtin .len, #[x], #[T]⟩,ty,ps,af,g⟩ l (.int .i64 xs.length):=Jd0 hT hx hj
theorem Jbl {T e e':TypeId} {by_ k j:Nat} {x y:Operand} {v:Value} {i:Int} {xs:List α} (hT:sl P T=some (e,k,by_)) (hx:evo l x=some v) (hy:evo l y=some (.int .i64 i))
  (hj:L[j]? = some (oT C e' v xs)) (hk:C.k=k) (h0:0≤i) (h1:i < xs.length):Det P (St n0 w0 L) ⟨d,.indexAddr T x y,ty,ps,af,g⟩ l (.pointer (some (sla v (i.toNat * k)))):=by
 subst hk
 exact Jby hT hx hy (show L[j]? = some (osl e' C.k v xs.length (Jal C xs)) from hj) h0 h1
theorem WS.storeTw {T e:TypeId} {k:Nat} {x y:Operand} {v:Value} {j:Nat} {q:Bool} {xs:List α} {i:Int} (a:α) (hj:L[j]? = some (oT C e v xs)) (hx:evo l x=some (.pointer (some (sla v (i.toNat * k))))) (hk:C.k=k) (h:0≤i∧i < xs.length)
  (hy:evo l y=some (.agg (C.cells a).toArray)) (h1:∀ z∈C.cells a,z.oneCell'=true) (hk0:0 < k) (hT:tk P T=some (q,k))
  {L':List SA} (hL:lset L j (oT C e v (xs.set i.toNat a))=some L') (kk:WS P ro n0 w0 ds ops Q L' rest l) :
  WS P ro n0 w0 ds ops Q L (⟨none,.store T x y,ty,ps,af,none⟩::rest) l:=by
 subst hk
 have hi:i.toNat < xs.length:=by omega
 refine WS.storeOC (vs:=C.cells a) (m:=i.toNat * C.k) hx hj ?_ (by rw [C.len]; exact hk0) hy (by simp [Value.cells]) h1 (by rw [C.len]; exact hT) (Jji C hi) (by rw [← hL,oT,List.length_set]) kk
 rw [Jbi,C.len]
 calc i.toNat * C.k+C.k=(i.toNat+1) * C.k:=by rw [Nat.succ_mul]
  _≤xs.length * C.k:=Nat.mul_le_mul_right _ hi
variable [Inhabited α]
theorem Jef {T e:TypeId} {z j:Nat} (k f:Nat) {x:Operand} {v y:Value} {i:Int} {xs:List α} (hj:L[j]? = some (oT C e v xs)) (hx:evo l x=some (.pointer (some ⟨slb v,slo v+i.toNat * k+f,none⟩))) (hk:C.k=k) (h:0≤i∧i < xs.length) (hf:f < k)
  (hc:(C.cells (nth xs i))[f]? = some y) (hT:tk P T=some (false,z)):Det P (St n0 w0 L) ⟨d,.load T x,ty,ps,af,g⟩ l y:=by
 subst hk
 exact Jkq (by rw [hx,sla,Nat.add_assoc]) hj (by rw [Jbv C h.1 h.2 f hf]; exact hc) hT
theorem Ji6 {T e:TypeId} {k j:Nat} {x:Operand} {v:Value} {i:Int} {xs:List α} {cs:List Value} (hj:L[j]? = some (oT C e v xs)) (hx:evo l x=some (.pointer (some (sla v (i.toNat * k))))) (hk:C.k=k) (h:0≤i∧i < xs.length)
  (hc:C.cells (nth xs i)=cs) (hT:tk P T=some (true,k)):Det P (St n0 w0 L) ⟨d,.load T x,ty,ps,af,g⟩ l (.agg cs.toArray):=by
 subst hk; subst hc
 refine Jer hx (fun _ hu=>Jbm hu hj) (fun f y hy=>?_) (by rw [C.len]; exact hT)
 have hf:f < C.k:=by have:=(List.getElem?_eq_some_iff.1 hy).1; rwa [C.len] at this
 rw [Jbv C h.1 h.2 f hf]; exact hy
theorem WS.storeTc {T e:TypeId} (k f:Nat) {x y:Operand} {v z:Value} {j:Nat} {q:Bool} {xs:List α} {i:Int} (a:α) (hj:L[j]? = some (oT C e v xs)) (hx:evo l x=some (.pointer (some ⟨slb v,slo v+i.toNat * k+f,none⟩))) (hk:C.k=k) (h:0≤i∧i < xs.length) (hf:f < k)
  (hy:evo l y=some z) (h1:z.oneCell'=true) (hT:tk P T=some (q,1)) (ha:C.cells a=(C.cells (nth xs i)).set f z)
  {L':List SA} (hL:lset L j (oT C e v (xs.set i.toNat a))=some L') (kk:WS P ro n0 w0 ds ops Q L' rest l) :
  WS P ro n0 w0 ds ops Q L (⟨none,.store T x y,ty,ps,af,none⟩::rest) l:=by
 subst hk
 have hi:i.toNat < xs.length:=by omega
 have e0:((i.toNat:Nat):Int)=i:=by omega
 refine WS.storeOC (vs:=[z]) (m:=i.toNat * C.k+f) (by rw [hx,sla,Nat.add_assoc]) hj ?_ (by simp) hy (by cases z <;> simp_all [Value.cells,Value.oneCell']) (by simpa using h1) hT (Jge C hi hf (by rw [e0]; exact ha)) (by rw [← hL,oT,List.length_set]) kk
 rw [Jbi]
 calc i.toNat * C.k+f+1≤i.toNat * C.k+C.k:=by omega
  _=(i.toNat+1) * C.k:=by rw [Nat.succ_mul]
  _≤xs.length * C.k:=Nat.mul_le_mul_right _ hi
end
def ptrB:Value→Nat
 | .pointer (some a)=>a.block
 | _=>0
theorem Jbz {α β:Type} [Inhabited α] (f:α→β) {l:List α} {i:Int} {a:α} (h0:0≤i) (h1:i < l.length) (ha:f a=f (nth l i)):(l.set i.toNat a).map f=l.map f:=by
 have h2:i.toNat < l.length:=by omega
 have h3:nth l i=l[i.toNat]:=by simp [nth,List.getD,h2]
 rw [List.map_set,ha,h3]
 apply List.ext_getElem (by simp)
 intro k hk1 hk2
 by_cases hk:i.toNat=k
 ·
  subst hk; simp
 simp [List.getElem_set_ne hk]
theorem Jih {α:Type} [Inhabited α] {l:List α} {i:Int} {a:α} (h0:0≤i) (h1:i < l.length):nth (l.set i.toNat a) i=a:=by
 have h2:i.toNat < l.length:=by omega
 simp [nth,List.getD,h2]
theorem Jb7 {α:Type} [Inhabited α] {l:List α} {i j:Int} {a:α} (h0:0≤i) (h1:0≤j) (h:j≠i):nth (l.set i.toNat a) j=nth l j:=by
 have:i.toNat≠j.toNat:=by omega
 simp [nth,List.getD,List.getElem?_set_ne this]
section
variable {n0:Nat} {w0 u:World} {L:List SA}
theorem St.roTrue (h:St n0 w0 L u) {p:World→Prop} (hp:∀ u,p u):St n0 w0 (roS p::L) u :=
 ⟨h.le,h.below,fun _=>False,fun _ h=>h.elim,⟨fun u' _=>hp u',fun _ h=>h.elim⟩,h.star.sup fun _ h=>⟨h,fun h=>h⟩⟩
theorem St.roMap {p q:World→Prop} (hp:∀ u,p u→q u) (h:St n0 w0 (roS p::L) u):St n0 w0 (roS q::L) u:=St.toRo (fun S u h=>hp u (roS.now h)) h
theorem St.ro2 {A B:SA} {p q r:World→Prop} (hp:∀ S u,A.h S u→p u) (hq:∀ S u,B.h S u→q u) (hr:∀ u,p u→q u→r u) (h:St n0 w0 (A::B::L) u):St n0 w0 (roS r::L) u:=by
 have h1:=St.toRo hp h
 have h2:St n0 w0 (roS q::roS p::L) u:=St.toRo hq (h1.perm (List.Perm.swap _ _ _))
 exact St.roMap (fun u h=>hr u h.2 h.1) (St.roAnd h2)
end
def Jk5 (w:World) (r:Room):Ending→World→Prop:=fun e w'=>∃ c:Room,(c.e=r.e∧∃ u0,RoomOk u0 c)∧RetF w (.agg #[c.pls.v,c.ths.v,c.prs.v,c.wys.v,c.acs.v,c.aus.v,.int .i64 c.ply,c.gl.v]) (roS fun u=>RoomOk u c) e w'
theorem Jdy {α:Type} [Inhabited α] {q:World→α→Prop} {l:List α} {i:Int} {a:α} {u:World} (h0:0≤i) (h1:i < l.length) (hq:q u a) (h:∀ j:Int,0≤j→j < i→q u (nth l j)):∀ j:Int,0≤j→j < i+1→q u (nth (l.set i.toNat a) j):=fun j a0 a1=>by
 by_cases hj:j=i
 ·
  subst hj; rw [Jih h0 h1]; exact hq
 rw [Jb7 h0 a0 hj]; exact h j a0 (by omega)
theorem Jez {α:Type} [Inhabited α] {q:World→α→Prop} {l:List α} {i:Int} {u:World} (hi:i=l.length) (h:∀ j:Int,0≤j→j < i→q u (nth l j)):∀ a∈l,q u a:=fun a ha=>by
 obtain ⟨j,h0,h1,rfl⟩:=Jaz ha
 exact h j h0 (by omega)
theorem Jck {α β:Type} {f:α→β} {l l':List α} (h:l.map f=l'.map f):l.length=l'.length:=by
 have:=congrArg List.length h
 simpa using this
section
variable {P:Program} {l:List Value} {d:Option Tmp} {ty:TypeId} {ps:String} {af:Array Edge} {g:Option (Nat × Bool)} {C:World→Prop}
theorem Jid {T:TypeId} {pl:List (Nat × Operand)} {pls:List (Nat × Nat)} {z cs:List Value} {parts:List (Nat × Value)} (hp:plc P T=some pls) (hz:zv P T=some z) (hv:evp l pl=some parts)
  (hf:Instr.fill (pls.toArray[·]?) z.toArray parts=some cs.toArray):Det P C ⟨d,.build T pl.toArray,ty,ps,af,g⟩ l (.agg cs.toArray):=fun u _=>by
 replace hv:=Jix hv
 subst hv
 unfold plc at hp
 split at hp
 ·
  rename_i fs hu
  unfold zv at hz
  cases hi:P.info? T with
  | none=>simp [hi] at hz
  | some inf =>
   cases hz2:inf.zero with
   | none=>simp [hi,hz2] at hz
   | some zz =>
    simp [hi,hz2] at hz
    have hm:=Je7 (P:=P) (w:=u) fs.toList pls hp
    have hm2:(fs.mapM fun f=>do pure (f.offset, ← sizeOf f.type):Sem (Array (Nat × Nat))).run P u = .ok pls.toArray u:=by
     rw [Array.mapM_eq_mapM_toList]
     simp at hm
     simp [hm]
    have hzc:zz.cells=z.toArray:=by rw [← hz]
    simp [execOp,Jai,Instr.build,zeroValue,typeInfo,hi,hz2,run_underlying hu]
    simp at hm2
    simp [hm2,hzc]
    simp at hf
    simp [hf]
 simp at hp
end
theorem Jpz {a:List (Nat × Nat)} {z:List Value} {p q:List Value} (ha:a=[(0,8),(8,3)]) (hz:z.length=11) (hp:p.length=8) (hq:q.length=3) :
  Instr.fill (a.toArray[·]?) z.toArray [(0,.agg p.toArray),(1,.agg q.toArray)]=some (p++q).toArray:=by
 subst ha
 match z,hz with
 | [z0,z1,z2,z3,z4,z5,z6,z7,z8,z9,z10],_ =>
  match p,hp with
  | [p0,p1,p2,p3,p4,p5,p6,p7],_ =>
   match q,hq with
   | [q0,q1,q2],_=>simp [Instr.fill,Value.cells]
section
variable {P:Program} {ro:Option Nat} {n0:Nat} {w0:World} {ds:List Deferred} {ops:Array Oper} {Q:Exit→Act→World→Prop} {L:List SA} {rest:List Oper} {l:List Value} {ty:TypeId} {ps:String} {af:Array Edge}
theorem WS.callFg {β:Type} {f:Operand} {args:List Operand} {ts:Array TypeId} {fn:FuncId} {cap:List Value} {vs:List Value} {v:β→Value} {A:β→SA} {p:β→Prop} {i:Nat} {l':β→List Value} {j:Nat} {want:Bool}
  (hw:yielded ops l.toArray j=some want)
  (hf:evo l f=some (.func (.func fn) #[] cap.toArray)) (hv:evs l args=some vs) (he:Ent P fn)
  (hc:∀ u,St n0 w0 L u→Calls P fn (vs++cap).toArray u (fun e u'=>∃ x,p x∧RetF u (v x) (A x) e u'))
  (hl:∀ x,lset l i (v x)=some (l' x)) (k:∀ x,p x→WS P ro n0 w0 ds ops Q (A x::L) rest (l' x)) :
  WS P ro n0 w0 ds ops Q L (⟨some i,.call ⟨.value f,args.toArray,ts⟩,ty,ps,af,some (j,want)⟩::rest) l:=by
 intro u hu
 unfold wpListIn
 rw [if_pos (by simp [Region.wanted,hw])]
 refine ⟨fun _ _=>trivial,?_⟩
 rw [Jau rfl,Jba]
 have hr:(execOp (ev l) ⟨some i,.call ⟨.value f,args.toArray,ts⟩,ty,ps,af,some (j,want)⟩).run P u = .ok (.enter fn (vs++cap).toArray) u:=by
  have h1:∀ (args:Array Value) (w:World),Sem.run P (callFunc fn args) w = .ok (.enter fn args) w:=he
  replace hf:=Jah hf
  replace hv:=Jd5 hv
  subst hv
  simp [execOp,hf,resolve,invoke,Deferred.ofValue,h1]
 rw [hr]
 refine ⟨fun h=>by simp [FW] at h,Jb5 ((hc u hu).mono ?_)⟩
 rintro e u' ⟨x,hp,rfl,hb,T,hA,hT⟩
 show wpListIn (FW ro) 0 P ops Q rest ((Act.mk l.toArray ds).put (some i) (v x)) u'
 rw [Jam,Jae (hl x)]
 exact k x hp u' (hu.cons hb hA hT)
end
section
variable {P:Program} {ro:Option Nat} {n0:Nat} {w0:World} {ds:List Deferred} {ops:Array Oper} {Q:Exit→Act→World→Prop} {L:List SA} {rest:List Oper} {l:List Value} {ty:TypeId} {ps:String} {af:Array Edge}
theorem WS.buildHole {T e:TypeId} {by_ i:Nat} {x1 x2 x3 x4:Operand} {a b c d:Int} (hT:sl P T=some (e,1,by_)) (hz:zv P e=some [.int .i64 0])
  (h1:evo l x1=some (.int .i64 a)) (h2:evo l x2=some (.int .i64 b)) (h3:evo l x3=some (.int .i64 c)) (h4:evo l x4=some (.int .i64 d))
  {l':Value→List Value} (hl:∀ v,lset l i v=some (l' v)) (k:∀ v,WS P ro n0 w0 ds ops Q (oints e v [0,a,b,c,d]::L) rest (l' v)) :
  WS P ro n0 w0 ds ops Q L (⟨some i,.buildSlice T 5 #[(1,x1),(2,x2),(3,x3),(4,x4)],ty,ps,af,none⟩::rest) l:=by
 (replace h1:=Jah h1; replace h2:=Jah h2; replace h3:=Jah h3; replace h4:=Jah h4)
 refine WS.world rfl rfl fun u hu=>?_
 obtain ⟨inf,hu1,hi,hs,hby⟩:=Jbs hT
 unfold zv at hz
 rw [hi] at hz
 cases hz2:inf.zero with
 | none=>simp [hz2] at hz
 | some zz =>
  simp [hz2] at hz
  have hzc:zz.cells = #[.int .i64 0]:=by
   apply Array.ext'; simpa using hz
  refine ⟨.slice (some ⟨u.heap.size,0,none⟩) 5 5,u.alloc (.cells #[.int .i64 0,.int .i64 a,.int .i64 b,.int .i64 c,.int .i64 d] e),?_,?_⟩
  ·
   have hic:∀ n,(Value.int .i64 n).cells = #[.int .i64 n]:=fun _=>rfl
   have e5:Array.range 5 = #[0,1,2,3,4]:=by decide
   simp [execOp,Instr.buildSlice,run_underlying hu1,sizeOf,typeInfo,hi,hs,newRow,zeroValue,hz2,hzc,h1,h2,h3,h4,Instr.fill,hic,e5]
  rw [Jam,Jae (hl _)]
  refine k _ _ (hu.cons (T:=fun k=>k=u.heap.size) ((Below.refl _ u).alloc (Nat.le_refl _) _) ⟨?_,by simp [ints],.inr ⟨u.heap.size,5,_,rfl,Nat.zero_le _,World.alloc_heap_new u _,Nat.le_refl _,?_,?_,?_⟩⟩ (fun k hk=>by omega))
  ·
   intro k; simp [Value.ownBlock]; exact eq_comm
  ·
   decide
  ·
   simp
  simp [ints]
end
def cntM (r:Room):Nat→Nat
 | 1=>r.wys.l.length
 | 2=>r.prs.l.length
 | 3=>r.prs.l.length
 | 4=>r.acs.l.length
 | _=>0
def kinM (r:Room) (p:Int):Nat→List Move
 | 0=>[]
 | j+1=>kinM r p j++Jbt p j (cntM r j)
def allM (r:Room):Nat→List Move
 | 0=>[]
 | q+1=>allM r q++kinM r q 5
def cntL (r:Room):List Int:=[0,r.wys.l.length,r.prs.l.length,r.prs.l.length,r.acs.l.length]
theorem Jjv (r:Room) {j:Int} (h0:0≤j) (h1:j < 5):nth (cntL r) j=cntM r j.toNat:=by
 rcases (show j=0∨j=1∨j=2∨j=3∨j=4 by omega) with h | h | h | h | h <;> subst h <;> rfl
theorem Jjx (p k:Int) {n m:Nat} (h:n≤m):Jbt p k n <+: Jbt p k m:=by
 refine ⟨(Jbt p k m).drop n,?_⟩
 have:Jbt p k n=(Jbt p k m).take n:=by simp [Jbt,List.take_range,Nat.min_eq_left h, ← List.map_take]
 rw [this,List.take_append_drop]
theorem Jg0 (r:Room) (p:Int) {j:Nat}:∀ {m:Nat},j≤m→kinM r p j <+: kinM r p m
 | 0,h=>by
  have:j=0:=by omega
  subst this; exact List.prefix_refl _
 | m+1,h=>by
  by_cases hj:j=m+1
  ·
   subst hj; exact List.prefix_refl _
  exact (Jg0 r p (show j≤m by omega)).trans ⟨_,rfl⟩
theorem Jhf (r:Room) {j:Nat}:∀ {m:Nat},j≤m→allM r j <+: allM r m
 | 0,h=>by
  have:j=0:=by omega
  subst this; exact List.prefix_refl _
 | m+1,h=>by
  by_cases hj:j=m+1
  ·
   subst hj; exact List.prefix_refl _
  exact (Jhf r (show j≤m by omega)).trans ⟨_,rfl⟩
def upM (r:Room) (p j n:Int):List Move:=allM r p.toNat++(kinM r p j.toNat++Jbt p j n.toNat)
theorem Jhs {r:Room} {p j n:Int} (h:0≤n):upM r p j n++[⟨p,j,n⟩]=upM r p j (n+1):=by
 unfold upM; rw [Jh3 _ _ h]; simp [List.append_assoc]
theorem Jpo {r:Room} {p j:Int} (h0:0≤j):upM r p j (cntM r j.toNat)=upM r p (j+1) 0:=by
 unfold upM
 rw [show (j+1).toNat=j.toNat+1 by omega,kinM,show ((j.toNat:Nat):Int)=j by omega]
 simp [Jbt]
theorem Jpv {r:Room} {p:Int} (h0:0≤p):upM r p 5 0=upM r (p+1) 0 0:=by
 unfold upM
 rw [show (p+1).toNat=p.toNat+1 by omega,allM,show ((p.toNat:Nat):Int)=p by omega]
 simp [Jbt,kinM]
theorem Jm8 (r:Room) {p:Int} (hp:p=r.ply):upM r p 0 0=allM r r.ply.toNat:=by subst hp; simp [upM,kinM,Jbt]
theorem Ji1 {r:Room} {p j n:Int} (h0:0≤p∧p < r.ply) (h1:0≤j∧j < 5) (h2:0≤n∧n < cntM r j.toNat):∃ post,allM r r.ply.toNat=upM r p j n++⟨p,j,n⟩::post:=by
 have e1:upM r p j n++[⟨p,j,n⟩] <+: allM r r.ply.toNat:=by
  rw [Jhs h2.1]
  refine List.IsPrefix.trans ?_ (Jhf r (show p.toNat+1≤r.ply.toNat by omega))
  rw [allM,show ((p.toNat:Nat):Int)=p by omega]
  unfold upM
  rw [List.prefix_append_right_inj]
  refine List.IsPrefix.trans ?_ (Jg0 r p (show j.toNat+1≤5 by omega))
  rw [kinM,show ((j.toNat:Nat):Int)=j by omega,List.prefix_append_right_inj]
  exact Jjx p j (by omega)
 obtain ⟨t,ht⟩:=e1
 exact ⟨t,by rw [← ht]; simp⟩
end Go.Proofs.YtdpbapffdmahnaaGreatDoor
namespace Go.Proofs.YtdpbapffdmahnaaGreatDoor
set_option linter.unusedVariables false
set_option linter.unusedSimpArgs false
open Go.RowKit Go.Proofs
section
variable {P:Program} {ro:Option Nat} {w0:World} {ds:List Deferred} {Q:Exit→Act→World→Prop} {L:List SA} {l:List Value}
theorem Jpc {a b c f:SA} {M G:List SA}:(a::b::(M++(G++[c,f]))).Perm ([a,b,f]++(G++c::M)):=by
 refine List.Perm.cons _ (List.Perm.cons _ ?_)
 show (M++(G++[c,f])).Perm (f::(G++c::M))
 refine List.perm_append_comm.trans ?_
 rw [List.append_assoc]
 refine List.Perm.trans (List.Perm.append_left G (List.Perm.swap f c M)) ?_
 exact List.perm_middle
theorem Joq {F c:SA} {M G:List SA}:(F::(G++c::M)).Perm (G++c::(M++[F])):=by
 refine List.perm_middle.symm.trans ?_
 refine List.Perm.append_left G ?_
 exact (List.Perm.swap _ _ _).trans (List.Perm.cons c (List.perm_append_comm (l₁:=[F]) (l₂:=M)))
theorem CS.rangeFuncG {X:Type} {β:Type} {gf:FuncId} {lb:List Value} {A:List SA} {lend:Value→X→SA} {all:List X} {g:Operand} {t:Tmp} {assign body:Code} (G:X→β→List SA)
  (hg:evo l g=some (.func (.func gf) #[] lb.toArray)) (he:Ent P gf) (hi:Iter P w0 gf lb A lend all)
  (M:List X→List SA) (Mx:Code→List X→List SA) {l0:Value→List Value} {l1:Value→β→List Value} (h0:∀ v,lset l t v=some (l0 v))
  (ha:∀ (v:Value) (x:X) (lr:Nat) (L':List SA) (Q':Exit→Act→World→Prop),(∀ b,QS w0.heap.size w0 [] Q' .normal (G x b++lend v x::L') (l1 v b))→CS P (some lr) w0.heap.size w0 [] assign Q' (lend v x::L') (l0 v))
  (hbody:∀ (lr:Nat) (pre:List X) (x:X) (post:List X) (v:Value) (b:β) (F:SA),all=pre++x::post →
   CS P (some lr) w0.heap.size w0 [] body (Jj4 w0.heap.size w0 M Mx (lend v x) (pre++[x]) F) (G x b++lend v x::(M pre++[F])) (l1 v b))
  (hdone:∀ D,QS w0.heap.size w0 (mark D::ds) Q .normal (recd D (.deferred (some []))::(M all++A)) l)
  (hstop:∀ D c pre x post,all=pre++x::post→CS P none w0.heap.size w0 (mark D::ds) c Q (recd D (.deferred (some []))::(Mx c (pre++[x])++A)) l) :
  CS P none w0.heap.size w0 ds (.rangeFunc g #[t] assign body) Q (M []++A) l:=by
 intro u hu
 refine wpIn_rangeFunc ?_
 intro fn hfn
 have hu1:=(hu.allocRec (.deferred (some []))).allocRec (.loop (lrec fn l.toArray t assign body u.heap.size .ready none))
 rw [World.size_alloc] at hu1
 obtain ⟨W1,hW1⟩:∃ W1,(u.alloc (.deferred (some []))).alloc (.loop (lrec fn l.toArray t assign body u.heap.size .ready none))=W1:=⟨_,rfl⟩
 have hent:=run_enterLoop_outer (P:=P) (w:=u) fn l.toArray #[t] assign body
 rw [show ({ state:=.ready,pending:=none,fn,tmps:=l.toArray,params := #[t],assign,body,defers:=u.heap.size }:Loop)=lrec fn l.toArray t assign body u.heap.size .ready none from rfl,hW1] at hent
 rw [hW1] at hu1
 generalize u.heap.size=D at hent hu1
 clear hW1 hu
 refine ⟨D+1,[mark D],W1,{ target:=.fn (.func gf) lb.toArray,args := #[.func (.yield (D+1)) #[] #[]] },W1,gf,
  #[.func (.yield (D+1)) #[] #[]]++lb.toArray,W1,hent,?_,fun _ _=>trivial,?_,fun h=>by simp [FW] at h,?_⟩
 ·
  have hg':(Act.mk l.toArray ds).eval g = .func (.func gf) #[] lb.toArray:=by rw [Jba]; exact Jah hg
  simp only [resolve,hg']
  simp [go_sem]
 ·
  have h1:∀ (args:Array Value) (w:World),Sem.run P (callFunc gf args) w = .ok (.enter gf args) w:=he
  simp [invoke,go_sem,h1]
 have hcall:=hi (D+1) (fun pre=>star ([recd (D+1) (.loop (lrec fn l.toArray t assign body D .ready none)),recd D (.deferred (some []))]++M pre))
  (fun pre=>exS fun c:Code=>star ([recd (D+1) (.loop (lrec fn l.toArray t assign body D .done (some c))),recd D (.deferred (some []))]++Mx c pre)) ?_ W1
  (St.pack (L1:=[recd (D+1) (.loop (lrec fn l.toArray t assign body D .ready none)),recd D (.deferred (some []))]++M []) hu1)
 ·
  have e:(Value.func (.yield (D+1)) #[] #[]::lb).toArray = #[Value.func (.yield (D+1)) #[] #[]]++lb.toArray:=by apply Array.ext'; simp
  rw [e] at hcall
  have hcall':=(callsIn_wide (n:=0)).2 hcall
  refine CallsIn.mono hcall' ?_
  rintro e u' ⟨⟨v,rfl⟩,hs | ⟨pre,x,post,hall,hs⟩⟩
  ·
   have hs2:=hs.unpack
   obtain ⟨_,hl⟩:=St.rec_ (j:=0) rfl hs2
   exact ⟨none,_,run_endLoop hl (by simp [lrec]),hdone D _ (hs2.putRec (j:=0) rfl _).tail⟩
  obtain ⟨c,hs1⟩:=hs.ex
  have hs2:=hs1.unpack
  obtain ⟨_,hl⟩:=St.rec_ (j:=0) rfl hs2
  exact ⟨some c,_,run_endLoop hl (by simp [lrec]),hstop D c pre x post hall _ (hs2.putRec (j:=0) rfl _).tail⟩
 intro pre x post hall F v u1 hs
 have hs1:=St.unpack hs
 obtain ⟨_,hl⟩:=St.rec_ (j:=0) rfl hs1
 have hy:=run_yield (P:=P) (args := #[v]) hl (by simp [lrec])
 have et:((lrec fn l.toArray t assign body D .ready none).params.zip #[v]).foldl (fun tmps (t,a)=>tmps.setIfInBounds t a) (lrec fn l.toArray t assign body D .ready none).tmps=(l0 v).toArray:=by
  have:=Jae (h0 v)
  simp [lrec, ← this]
 rw [et] at hy
 refine ⟨fn,_,assign,body,hy,roundIn_of_wpIn (F:=FW none) trivial ?_⟩
 refine ha v x (D+1) _ _ ?_ u1 (hs.perm (List.Perm.swap _ _ _))
 intro b u2 hs2
 have hs2':St w0.heap.size w0 (star ([recd (D+1) (.loop (lrec fn l.toArray t assign body D .ready none)),recd D (.deferred (some []))]++M pre)::(G x b++[lend v x,F])) u2:=hs2.perm (by
  refine List.Perm.trans ?_ List.perm_middle
  exact List.Perm.append_left _ (List.Perm.swap _ _ _))
 have hs3:=St.unpack hs2'
 obtain ⟨_,hl2⟩:=St.rec_ (j:=0) rfl hs3
 refine ⟨_,run_beginRound hl2 rfl,?_⟩
 have hs4:=(hs3.putRec (j:=0) rfl (.loop (lrec fn l.toArray t assign body D .busy none)))
 have hs5:=(((hs4.perm Jpc).pack).perm Joq)
 refine wpIn_mono (hbody (D+1) pre x post v b _ hall _ hs5) ?_
 have back:∀ {M':List SA} {u4:World},St w0.heap.size w0 (lend v x::(M'++[star [recd (D+1) (.loop (lrec fn l.toArray t assign body D .busy none)),recd D (.deferred (some [])),F]])) u4 →
   St w0.heap.size w0 (recd (D+1) (.loop (lrec fn l.toArray t assign body D .busy none))::recd D (.deferred (some []))::(M'++[lend v x,F])) u4:=fun h=>((h.perm perm6.symm).unpack).perm perm5.symm
 rintro e a u4 hq
 cases e with
 | normal =>
  have h4:=back hq
  obtain ⟨_,hl4⟩:=St.rec_ (j:=0) rfl h4
  exact ⟨_,_,run_endRound none hl4,.inl ⟨rfl,St.pack (L1:=_::_::M (pre++[x])) (h4.putRec (j:=0) rfl (.loop (lrec fn l.toArray t assign body D .ready none)))⟩⟩
 | ret =>
  have h4:=back hq
  obtain ⟨_,hl4⟩:=St.rec_ (j:=0) rfl h4
  exact ⟨_,_,run_endRound (some .ret) hl4,.inr ⟨rfl,St.exI .ret (St.pack (L1:=_::_::Mx .ret (pre++[x])) (h4.putRec (j:=0) rfl (.loop (lrec fn l.toArray t assign body D .done (some .ret)))))⟩⟩
 | exit i =>
  have h4:=back hq
  obtain ⟨_,hl4⟩:=St.rec_ (j:=0) rfl h4
  exact ⟨_,_,run_endRound (some (.exit i)) hl4,.inr ⟨rfl,St.exI (.exit i) (St.pack (L1:=_::_::Mx (.exit i) (pre++[x])) (h4.putRec (j:=0) rfl (.loop (lrec fn l.toArray t assign body D .done (some (.exit i))))))⟩⟩
 | goto i=>exact hq.elim
 | panic c=>exact hq.elim
 | outgrown=>exact hq.elim
theorem CS.rangeB {X:Type} {gf:FuncId} {lb:List Value} {A:List SA} {all:List X} {x:Operand} {t t2 id:Tmp} {body:Code} {T n ty1 ty2:TypeId} {ps1 ps2:String} {af1 af2:Array Edge} {zs:List Value} {V:X→Value} (cs:X→List Value) (hV:∀ x,V x = .agg (cs x).toArray) (hcl:∀ x,(cs x).length=n) (hc1:∀ x,∀ v∈cs x,v.oneCell'=true)
  (hz:zv P T=some zs) (hzl:zs.length=n) (hT:tk P T=some (true,n)) (hne:t≠t2)
  (hg:evo l x=some (.func (.func gf) #[] lb.toArray)) (he:Ent P gf) (hi:Iter P w0 gf lb A (fun v x=>fact (v=V x)) all)
  (M:List X→List SA) (Mx:Code→List X→List SA) {l0:Value→List Value} {l1:Value→Nat→List Value} (h0:∀ v,lset l t v=some (l0 v)) (ht:t < l.length) (h1:∀ v b,lset (l0 v) t2 (.pointer (some ⟨b,0,none⟩))=some (l1 v b)) (ht2:∀ v,t2 < (l0 v).length)
  (hbody:∀ (lr:Nat) (pre:List X) (x:X) (post:List X) (v:Value) (b:Nat) (F:SA),all=pre++x::post →
   CS P (some lr) w0.heap.size w0 [] body (Jj4 w0.heap.size w0 M Mx (fact (v=V x)) (pre++[x]) F) (blk b (cs x) T::fact (v=V x)::(M pre++[F])) (l1 v b))
  (hdone:∀ D,QS w0.heap.size w0 (mark D::ds) Q .normal (recd D (.deferred (some []))::(M all++A)) l)
  (hstop:∀ D c pre x post,all=pre++x::post→CS P none w0.heap.size w0 (mark D::ds) c Q (recd D (.deferred (some []))::(Mx c (pre++[x])++A)) l) :
  CS P none w0.heap.size w0 ds (.rangeFunc x #[t] (.region id #[⟨some t2,.alloc T,ty1,ps1,af1,none⟩,⟨none,.store T (.tmp t2) (.tmp t),ty2,ps2,af2,none⟩] false) body) Q (M []++A) l :=
 CS.rangeFuncG (β:=Nat) (l0:=l0) (l1:=l1) (fun x b=>[blk b (cs x) T]) hg he hi M Mx h0 (fun v x lr L' Q' k=>CS.factE (j:=0) rfl fun hv=>CS.region (os:=[_,_]) (WS.alloc hz (h1 v) fun b _=>by
  have e1:(l1 v b)[t2]? = some (.pointer (some ⟨b,0,none⟩)):=Jha (h1 v b) (ht2 v)
  have e2:(l1 v b)[t]? = some (V x):=by
   have h2:=Jae (h1 v b)
   have h3:=Jha (h0 v) ht
   rw [← h2,List.getElem?_set_ne (Ne.symm hne),h3,hv]
  refine WS.storeW (j:=0) (b:=b) (c:=zs) (vs:=cs x) (e:=T) (n:=n) (by simpa [evo] using e1) rfl (by rw [← hV x]; simpa [evo] using e2) (by rw [hcl,hzl]) (hc1 x) hT (hcl x) rfl ?_
  exact WS.done (k b))) hbody hdone hstop
end
end Go.Proofs.YtdpbapffdmahnaaGreatDoor
namespace Go.Proofs.YtdpbapffdmahnaaGreatDoor
set_option linter.unusedVariables false
set_option linter.unusedSimpArgs false
open Go.RowKit
theorem Jfi {f:Move→Bool} {p k:Int} {c m:Nat} (hc:c≤m) (h:∀ n:Int,(c:Int)≤n→f ⟨p,k,n⟩=false):(Jbt p k m).filter f=(Jbt p k c).filter f:=by
 obtain ⟨d,rfl⟩:∃ d,m=c+d:=⟨m - c,by omega⟩
 have e:Jbt p k (c+d)=Jbt p k c++(List.range d).map fun i:Nat=>(⟨p,k,((c+i:Nat):Int)⟩:Move):=by
  simp [Jbt,List.range_add]
 have e2:(List.filter f ((List.range d).map fun i:Nat=>(⟨p,k,((c+i:Nat):Int)⟩:Move)))=[]:=by
  rw [List.filter_eq_nil_iff]
  intro x hx
  obtain ⟨i,_,rfl⟩:=List.mem_map.1 hx
  rw [h _ (by omega)]; simp
 rw [e,List.filter_append,e2,List.append_nil]
theorem Jie {r:Room} {x:P3} {p k n:Int} (hk:1≤k∧k≤4) (hn:(cntM r k.toNat:Int)≤n):legalB r x ⟨p,k,n⟩=false:=by
 unfold legalB
 split
 ·
  rcases (show k=1∨k=2∨k=3∨k=4 by omega) with h | h | h | h <;> subst h
  ·
   rw [if_pos rfl]
   have hn:(r.wys.l.length:Int)≤n:=hn
   unfold goB
   simp only [Bool.and_eq_false_iff,decide_eq_false_iff_not]
   exact .inl (.inl (.inr (by omega)))
  ·
   rw [if_neg (show ¬ (2:Int)=1 by decide),if_pos rfl]
   have hn:(r.prs.l.length:Int)≤n:=hn
   unfold Jib
   simp only [Bool.and_eq_false_iff,decide_eq_false_iff_not]
   exact .inl (.inl (.inl (.inr (by omega))))
  ·
   rw [if_neg (show ¬ (3:Int)=1 by decide),if_neg (show ¬ (3:Int)=2 by decide),if_pos rfl]
   have hn:(r.prs.l.length:Int)≤n:=hn
   unfold Jif
   simp only [Bool.and_eq_false_iff,decide_eq_false_iff_not]
   exact .inl (.inr (by omega))
  rw [if_neg (show ¬ (4:Int)=1 by decide),if_neg (show ¬ (4:Int)=2 by decide),if_neg (show ¬ (4:Int)=3 by decide),if_pos rfl]
  have hn:(r.acs.l.length:Int)≤n:=hn
  unfold doB
  simp only [Bool.and_eq_false_iff,decide_eq_false_iff_not]
  exact .inl (.inr (by omega))
 rfl
theorem Ji9 {r:Room} (hR:Ready r) (k:Nat):cntM r k≤24:=by
 have:=hR.lens
 unfold cntM
 split <;> omega
theorem Jf7 {r:Room} (hR:Ready r) (x:P3) (p:Int):(kinM r p 5).filter (legalB r x)=(Jk3 p 4).filter (legalB r x):=by
 have h:=fun (k:Nat) (hk:1≤k∧k≤4)=>Jfi (f:=legalB r x) (p:=p) (k:=(k:Int)) (c:=cntM r k) (m:=24) (Ji9 hR k) (fun n hn=>Jie (by omega) (by simpa using hn))
 have h1:=h 1 (by omega)
 have h2:=h 2 (by omega)
 have h3:=h 3 (by omega)
 have h4:=h 4 (by omega)
 simp only [kinM,Jk3,List.filter_append]
 have h0:Jbt p (0:Nat) (cntM r 0)=[]:=rfl
 rw [h0,List.filter_nil]
 rw [show ((0:Nat):Int)+1=((1:Nat):Int) from rfl,show ((1:Nat):Int)+1=((2:Nat):Int) from rfl,show ((2:Nat):Int)+1=((3:Nat):Int) from rfl,show ((3:Nat):Int)+1=((4:Nat):Int) from rfl,h1,h2,h3,h4,List.nil_append]
theorem Jeb {r:Room} (hR:Ready r) (x:P3):∀ q,(allM r q).filter (legalB r x)=(Jll q).filter (legalB r x)
 | 0=>rfl
 | q+1=>by rw [allM,Jll,List.filter_append,List.filter_append,Jeb hR x q,Jf7 hR]
theorem Jg6 {r:Room} (hR:Ready r) (p:Int):∀ j,(kinM r p j).length≤j * 24
 | 0=>by simp [kinM]
 | j+1=>by
  have:=Jg6 hR p j
  have:=Ji9 hR j
  simp only [kinM,List.length_append,Ji5]; omega
theorem Jg4 {r:Room} (hR:Ready r):∀ q,(allM r q).length≤q * 120
 | 0=>by simp [allM]
 | q+1=>by
  have:=Jg4 hR q
  have:=Jg6 hR q 5
  simp only [allM,List.length_append]; omega
theorem Jgy {α β:Type} [Inhabited α] [Inhabited β] (f:α→β) (hd:f default=default) (l:List α) (i:Int):nth (l.map f) i=f (nth l i):=by
 unfold nth
 simp only [List.getD_eq_getElem?_getD,List.getElem?_map]
 cases h:l[i.toNat]? with
 | none=>simp [hd]
 | some a=>simp
structure Alike (c r:Room):Prop where
 pls:c.pls.l=r.pls.l
 ths:c.ths.l=r.ths.l
 lprs:c.prs.l.length=r.prs.l.length
 prs:c.prs.l.map Pro.e=r.prs.l.map Pro.e
 pr:∀ i,(nth c.prs.l i).nm=(nth r.prs.l i).nm∧(nth c.prs.l i).pl=(nth r.prs.l i).pl∧(nth c.prs.l i).wh.l=(nth r.prs.l i).wh.l
 lwys:c.wys.l.length=r.wys.l.length
 wy:∀ i,(nth c.wys.l i).a=(nth r.wys.l i).a∧(nth c.wys.l i).b=(nth r.wys.l i).b∧(nth c.wys.l i).wh.l=(nth r.wys.l i).wh.l
 lacs:c.acs.l.length=r.acs.l.length
 acs:c.acs.l.map Actn.e=r.acs.l.map Actn.e
 ac:∀ i,(nth c.acs.l i).e=(nth r.acs.l i).e
 laus:c.aus.l.length=r.aus.l.length
 aus:c.aus.l.map Auto.e=r.aus.l.map Auto.e
 au:∀ i,(nth c.aus.l i).t=(nth r.aus.l i).t∧(nth c.aus.l i).s=(nth r.aus.l i).s∧(nth c.aus.l i).wh.l=(nth r.aus.l i).wh.l
 ply:c.ply=r.ply
 gl:c.gl.l=r.gl.l
theorem Jej {α:Type} {a b:Sl α} (h:a.e (id:α→α)=b.e id):a.l=b.l:=by
 have:=congrArg Sl.l h
 simpa [Sl.e] using this
theorem Jci {α β:Type} {f:α→β} {a b:Sl α} (h:a.e f=b.e f):a.l.map f=b.l.map f:=congrArg Sl.l h
theorem Jl9 {α β:Type} [Inhabited α] [Inhabited β] {f:α→β} (hd:f default=default) {l m:List α} (h:l.map f=m.map f) (i:Int):f (nth l i)=f (nth m i):=by
 rw [← Jgy f hd, ← Jgy f hd,h]
theorem Jlo {c r:Room} (h:c.e=r.e):Alike c r:=by
 have h1:c.pls.e id=r.pls.e id:=congrArg Room.pls h
 have h2:c.ths.e id=r.ths.e id:=congrArg Room.ths h
 have h3:c.prs.e Pro.e=r.prs.e Pro.e:=congrArg Room.prs h
 have h4:c.wys.e Way.e=r.wys.e Way.e:=congrArg Room.wys h
 have h5:c.acs.e Actn.e=r.acs.e Actn.e:=congrArg Room.acs h
 have h6:c.aus.e Auto.e=r.aus.e Auto.e:=congrArg Room.aus h
 have h7:c.gl.e id=r.gl.e id:=congrArg Room.gl h
 refine ⟨Jej h1,Jej h2,Jck (Jci h3),Jci h3,fun i=>?_,Jck (Jci h4),fun i=>?_,Jck (Jci h5),Jci h5,fun i=>Jl9 (f:=Actn.e) rfl (Jci h5) i,Jck (Jci h6),Jci h6,fun i=>?_,(by have:=congrArg Room.ply h; exact this),Jej h7⟩
 ·
  have:=Jl9 (f:=Pro.e) rfl (Jci h3) i
  have a1:=congrArg Pro.nm this
  have a2:=congrArg Pro.pl this
  have a3:=congrArg Pro.wh this
  exact ⟨a1,a2,Jej a3⟩
 ·
  have:=Jl9 (f:=Way.e) rfl (Jci h4) i
  have a1:=congrArg Way.a this
  have a2:=congrArg Way.b this
  have a3:=congrArg Way.wh this
  exact ⟨a1,a2,Jej a3⟩
 have:=Jl9 (f:=Auto.e) rfl (Jci h6) i
 have a1:=congrArg Auto.t this
 have a2:=congrArg Auto.s this
 have a3:=congrArg Auto.wh this
 exact ⟨a1,a2,Jej a3⟩
structure AlikeA (a b:Actn):Prop where
 nm:a.nm=b.nm
 pl:a.pl=b.pl
 lk:a.lk=b.lk
 us:a.us.l=b.us.l
 wh:a.wh.l=b.wh.l
 se:a.se.l=b.se.l
 sp:a.sp.l=b.sp.l
 br:a.br.l=b.br.l
theorem Jeu {a b:Actn} (h:a.e=b.e):AlikeA a b:=by
 have a1:=congrArg Actn.nm h
 have a2:=congrArg Actn.pl h
 have a3:=congrArg Actn.lk h
 have a4:=congrArg Actn.us h
 have a5:=congrArg Actn.wh h
 have a6:=congrArg Actn.se h
 have a7:=congrArg Actn.sp h
 have a8:=congrArg Actn.br h
 exact ⟨a1,a2,a3,Jej a4,Jej a5,Jej a6,Jej a7,Jej a8⟩
theorem Jhl {α:Type} [Inhabited α] {f:α→ByteArray} {l m:List α} (h:l.map f=m.map f) (hn:∀ i,f (nth l i)=f (nth m i)) (i:Int):newB f l i=newB f m i:=by
 unfold newB
 have e:∀ (l:List α) (x:ByteArray),((l.take i.toNat).any fun y=>seq (f y) x)=(((l.map f).take i.toNat).any fun y=>seq y x):=fun l x=>by
  rw [← List.map_take,List.any_map]; rfl
 rw [e,e,h,hn]
theorem Jgt {α β:Type} (f:α→β) (p:α→Bool) (q:β→Bool) (hp:∀ a,p a=q (f a)) (l:List α):idxF p l=idxF q (l.map f):=by
 unfold idxF
 rw [List.findIdx?_map,show (q ∘ f)=p from funext fun a=>(hp a).symm]
theorem Alike.nms {c r:Room} (h:Alike c r):c.prs.l.map Pro.nm=r.prs.l.map Pro.nm:=by
 have:=congrArg (List.map Pro.nm) h.prs
 simpa [List.map_map,Function.comp_def,Pro.e] using this
theorem Alike.anms {c r:Room} (h:Alike c r):c.acs.l.map Actn.nm=r.acs.l.map Actn.nm:=by
 have:=congrArg (List.map Actn.nm) h.acs
 simpa [List.map_map,Function.comp_def,Actn.e] using this
theorem Alike.manyB {c r:Room} (h:Alike c r):manyB c=manyB r:=by unfold Go.Proofs.YtdpbapffdmahnaaGreatDoor.manyB; rw [h.pls,h.ths,h.lprs,h.lwys,h.lacs,h.laus]
theorem Alike.placeB {c r:Room} (h:Alike c r) (n:Int):placeB c n=placeB r n:=by unfold Go.Proofs.YtdpbapffdmahnaaGreatDoor.placeB; rw [h.pls]
theorem Alike.plO {c r:Room} (h:Alike c r):plO c=plO r:=by funext i; unfold Go.Proofs.YtdpbapffdmahnaaGreatDoor.plO; rw [h.pls]
theorem Alike.thO {c r:Room} (h:Alike c r):thO c=thO r:=by funext i; unfold Go.Proofs.YtdpbapffdmahnaaGreatDoor.thO thB; rw [h.ths,h.placeB]
theorem Alike.whO {c r:Room} (h:Alike c r) (l:List Lit):whO c l=whO r l:=by unfold Go.Proofs.YtdpbapffdmahnaaGreatDoor.whO; rw [h.ths]
theorem Alike.prO {c r:Room} (h:Alike c r):prO c=prO r:=by
 funext i
 unfold Go.Proofs.YtdpbapffdmahnaaGreatDoor.prO
 rw [h.whO,Jhl h.nms (fun i=>(h.pr i).1),(h.pr i).1,(h.pr i).2.1,(h.pr i).2.2,h.placeB]
theorem Alike.wyO {c r:Room} (h:Alike c r):wyO c=wyO r:=by
 funext i
 unfold Go.Proofs.YtdpbapffdmahnaaGreatDoor.wyO
 rw [h.whO,(h.wy i).1,(h.wy i).2.1,(h.wy i).2.2,h.placeB,h.placeB]
theorem Alike.actB {c r:Room} (h:Alike c r) (i:Int):actB c i=actB r i:=by
 have ha:=Jeu (h.ac i)
 unfold Go.Proofs.YtdpbapffdmahnaaGreatDoor.actB act2 act3 act4 act5
 rw [Jhl h.anms (fun i=>(Jeu (h.ac i)).nm),ha.nm,ha.pl,ha.lk,ha.us,ha.se,ha.sp,ha.br,h.placeB,h.lprs,h.ths]
theorem Alike.acO {c r:Room} (h:Alike c r):acO c=acO r:=by
 funext i
 unfold Go.Proofs.YtdpbapffdmahnaaGreatDoor.acO
 rw [h.whO,h.actB,(Jeu (h.ac i)).wh]
theorem Alike.auO {c r:Room} (h:Alike c r):auO c=auO r:=by
 funext i
 unfold Go.Proofs.YtdpbapffdmahnaaGreatDoor.auO
 rw [h.whO,h.ths,(h.au i).1,(h.au i).2.1,(h.au i).2.2]
theorem Alike.checkE {c r:Room} (h:Alike c r):checkE c=checkE r:=by
 unfold Go.Proofs.YtdpbapffdmahnaaGreatDoor.checkE Jde Jek Jdb Jdc Jc2 Jcz glO
 rw [h.manyB,h.plO,h.thO,h.prO,h.wyO,h.acO,h.auO,h.whO,h.pls,h.ths,h.lprs,h.lwys,h.lacs,h.laus,h.ply,h.gl]
theorem Alike.stE {c r:Room} (h:Alike c r) (a b d:List Int):stE c a b d=stE r a b d:=by
 have e1:Jcs c a=Jcs r a:=by funext i; unfold Jcs; rw [h.ths]
 have e2:Jcx c b=Jcx r b:=by funext i; unfold Jcx; rw [h.placeB,h.ply]
 have e3:Jco c d=Jco r d:=by funext i; unfold Jco; rw [h.placeB]
 unfold Go.Proofs.YtdpbapffdmahnaaGreatDoor.stE
 rw [e1,e2,e3,h.ths,h.lprs,h.ply]
theorem Alike.stL {c r:Room} (h:Alike c r) (x:P3):stL c x=stL r x:=by unfold Go.Proofs.YtdpbapffdmahnaaGreatDoor.stL; rw [h.checkE,h.stE]
theorem Alike.autoI {c r:Room} (h:Alike c r) (ths:List Int):autoI c.aus.l ths=autoI r.aus.l ths:=by
 unfold Go.Proofs.YtdpbapffdmahnaaGreatDoor.autoI
 rw [Jgt Auto.e _ (fun a=>Jcp ths a.wh.l && !decide (nth ths a.t=a.s)) (fun a=>by simp [Auto.e,Sl.e]),h.aus, ← Jgt Auto.e (fun a=>Jcp ths a.wh.l && !decide (nth ths a.t=a.s)) _ (fun a=>by simp [Auto.e,Sl.e])]
theorem Alike.settleN {c r:Room} (h:Alike c r):∀ (n:Nat) (ths:List Int),settleN c.aus.l n ths=settleN r.aus.l n ths
 | 0,_=>rfl
 | n+1,ths=>by rw [Go.Proofs.YtdpbapffdmahnaaGreatDoor.settleN,Go.Proofs.YtdpbapffdmahnaaGreatDoor.settleN,h.autoI,(h.au _).1,(h.au _).2.1,Alike.settleN h n]
theorem Alike.settleV {c r:Room} (h:Alike c r) (x:P3):settleV c x=settleV r x:=by unfold Go.Proofs.YtdpbapffdmahnaaGreatDoor.settleV; rw [h.settleN]
theorem Alike.SettleV {c r:Room} (h:Alike c r) (x:P3):SettleV c x=SettleV r x:=by
 unfold Go.Proofs.YtdpbapffdmahnaaGreatDoor.SettleV
 rw [h.stL,h.settleV]
 cases Go.Proofs.YtdpbapffdmahnaaGreatDoor.settleV r x <;> rfl
theorem Alike.BeginV {c r:Room} (h:Alike c r):BeginV c=BeginV r:=by
 have e:Jbn c=Jbn r:=by
  have:=congrArg (List.map Pro.pl) h.prs
  rw [List.map_map,List.map_map] at this
  unfold Jbn
  rw [h.ths,h.ply,show c.prs.l.map Pro.pl=r.prs.l.map Pro.pl from this]
 unfold Go.Proofs.YtdpbapffdmahnaaGreatDoor.BeginV
 rw [h.checkE,e,h.SettleV]
theorem Alike.legalB {c r:Room} (h:Alike c r) (x:P3) (m:Move):legalB c x m=legalB r x m:=by
 have ha:=Jeu (h.ac m.n)
 unfold Go.Proofs.YtdpbapffdmahnaaGreatDoor.legalB goB Jib Jif doB Jl3 Jks Ji3
 rw [h.ply,h.lwys,h.lprs,h.lacs,(h.wy m.n).1,(h.wy m.n).2.1,(h.wy m.n).2.2,(h.pr m.n).2.2,ha.us,ha.br,ha.sp,ha.pl,ha.wh]
theorem Alike.moveX {c r:Room} (h:Alike c r) (x:P3) (m:Move):moveX c x m=moveX r x m:=by
 have ha:=Jeu (h.ac m.n)
 unfold Go.Proofs.YtdpbapffdmahnaaGreatDoor.moveX
 rw [(h.wy m.n).1,(h.wy m.n).2.1,ha.se,ha.sp,ha.br]
theorem Alike.StepV {c r:Room} (h:Alike c r) (x:P3) (m:Move):StepV c x m=StepV r x m:=by
 unfold Go.Proofs.YtdpbapffdmahnaaGreatDoor.StepV
 rw [h.stL,h.legalB,h.moveX,h.settleV]
 cases Go.Proofs.YtdpbapffdmahnaaGreatDoor.settleV r (Go.Proofs.YtdpbapffdmahnaaGreatDoor.moveX r x m) <;> rfl
theorem Alike.LegalV {c r:Room} (h:Alike c r) (x:P3):LegalV c x=LegalV r x:=by
 unfold Go.Proofs.YtdpbapffdmahnaaGreatDoor.LegalV Jmk
 rw [h.stL,h.ply,show Go.Proofs.YtdpbapffdmahnaaGreatDoor.legalB c x=Go.Proofs.YtdpbapffdmahnaaGreatDoor.legalB r x from funext fun m=>h.legalB x m]
theorem Alike.symm {c r:Room} (h:c.e=r.e):Alike r c:=Jlo h.symm
theorem Jmg {c r:Room} (h:c.e=r.e) (hn:Near r):Near c:=by
 have ha:=Jlo h
 have hp:=fun i=>(ha.pr i)
 refine ⟨by rw [ha.pls]; exact hn.pls,by rw [ha.ths]; exact hn.ths,by rw [ha.lprs]; exact hn.prs,by rw [ha.lwys]; exact hn.wys,by rw [ha.lacs]; exact hn.acs,by rw [ha.laus]; exact hn.aus,by rw [ha.gl]; exact hn.gl,by rw [ha.pls]; exact hn.pl,by rw [ha.ths]; exact hn.th,fun x hx=>?_,fun x hx=>?_,fun x hx=>?_,fun x hx=>?_⟩
 ·
  obtain ⟨i,h0,h1,rfl⟩:=Jaz hx
  have:=hn.pr _ (Jad (i:=i) h0 (by rw [← ha.lprs]; exact h1))
  rw [(ha.pr i).1,(ha.pr i).2.2]; exact this
 ·
  obtain ⟨i,h0,h1,rfl⟩:=Jaz hx
  have:=hn.wy _ (Jad (i:=i) h0 (by rw [← ha.lwys]; exact h1))
  rw [(ha.wy i).2.2]; exact this
 ·
  obtain ⟨i,h0,h1,rfl⟩:=Jaz hx
  have:=hn.ac _ (Jad (i:=i) h0 (by rw [← ha.lacs]; exact h1))
  have hb:=Jeu (ha.ac i)
  rw [hb.nm,hb.wh,hb.us,hb.se,hb.sp,hb.br]; exact this
 obtain ⟨i,h0,h1,rfl⟩:=Jaz hx
 have:=hn.au _ (Jad (i:=i) h0 (by rw [← ha.laus]; exact h1))
 rw [(ha.au i).2.2]; exact this
noncomputable def clB (p:Prop):Bool := @decide p (Classical.propDecidable p)
theorem Jf6 {p:Prop}:clB p=true ↔ p:=by unfold clB; simp
theorem Jpl {p:Prop} (h:p):clB p=true:=Jf6.2 h
theorem Jf4 {p:Prop} (h:¬ p):clB p=false:=by
 cases hq:clB p with
 | false=>rfl
 | true=>exact (h (Jf6.1 hq)).elim
theorem Jdi {α:Type} [Inhabited α] {l:List α} {i:Int} {P:α→Prop} (hi:¬ i < l.length) (h:∀ j:Int,0≤j→j < i→P (nth l j)):∀ a∈l,P a:=fun a ha=>by
 obtain ⟨j,h0,h1,rfl⟩:=Jaz ha
 exact h j h0 (by omega)
theorem bq:(∀ (p:Prop) [Decidable p],(decide p=true)=p)∧(∀ (p:Prop) [Decidable p],(decide p=false)=¬ p)∧(∀ a b:Bool,((a && b)=true)=(a=true∧b=true))∧(∀ a b:Bool,((a || b)=true)=(a=true∨b=true)) ∧
  (∀ a b:Bool,((a && b)=false)=(a=false∨b=false))∧(∀ a b:Bool,((a || b)=false)=(a=false∧b=false))∧(∀ a:Bool,((!a)=true)=(a=false))∧(∀ a:Bool,((!a)=false)=(a=true))∧(∀ (α:Type) (a b:α),(a≠b)=¬ a=b)∧(∀ p:Prop,[Decidable p]→(¬ ¬ p)=p) ∧
  ((!true)=false)∧((!false)=true)∧(∀ (α:Type) [BEq α] [LawfulBEq α] (a b:α),((a != b)=true)=¬ a=b)∧(∀ (α:Type) [BEq α] [LawfulBEq α] (a b:α),((a != b)=false)=(a=b))∧(∀ (α:Type) [BEq α] [LawfulBEq α] (a b:α),((a == b)=true)=(a=b))∧(∀ (α:Type) [BEq α] [LawfulBEq α] (a b:α),((a == b)=false)=¬ a=b):=by
 refine ⟨fun p _=>by simp,fun p _=>by simp,fun a b=>by simp,fun a b=>by simp,fun a b=>by cases a <;> cases b <;> simp,fun a b=>by simp,fun a=>by simp,fun a=>by simp,fun α a b=>by simp,fun p=>by simp [Decidable.not_not],rfl,rfl,fun α _ _ a b=>by simp,fun α _ _ a b=>by simp,fun α _ _ a b=>by simp,fun α _ _ a b=>by simp⟩
inductive Tb (α:Type) where
 | o
 | n (l:Tb α) (k:Nat) (v:α) (r:Tb α)
def Tb.get {α:Type}:Tb α→Nat→Option α
 | .o,_=>none
 | .n l k v r,i=>match Nat.blt i k with
  | true=>l.get i
  | false=>match Nat.beq i k with
   | true=>some v
   | false=>r.get i
def Tb.all {α:Type} (p:Nat→α→Bool):Tb α→Bool
 | .o=>true
 | .n l k v r=>l.all p && p k v && r.all p
theorem Tb.get_all {α:Type} {p:Nat→α→Bool}:∀ {t:Tb α} {i:Nat} {v:α},t.all p=true→t.get i=some v→p i v=true
 | .o,_,_,_,h=>by simp [Tb.get] at h
 | .n l k x r,i,v,ha,h=>by
  simp only [Tb.all,Bool.and_eq_true] at ha
  unfold Tb.get at h
  split at h
  ·
   exact Tb.get_all ha.1.1 h
  split at h
  ·
   rename_i hb
   have:i=k:=Nat.eq_of_beq_eq_true hb
   cases h
   subst this
   exact ha.1.2
  exact Tb.get_all ha.2 h
class Fx (P:Program) where
 ft:Tb (List Nat)
 kt:Tb (Bool × Nat)
 st:Tb (TypeId × Nat × Nat)
 fk:ft.all (fun T l=>l.zipIdx.all fun x=>fo P T x.2 == some x.1)=true
 kk:kt.all (fun T r=>tk P T == some r)=true
 sk:st.all (fun T r=>sl P T == some r)=true
def fof (P:Program) [F:Fx P] (T i:Nat):Option Nat:=match F.ft.get T with
 | some l=>l[i]?
 | none=>none
def tkf (P:Program) [F:Fx P] (T:Nat):Option (Bool × Nat):=F.kt.get T
def slf (P:Program) [F:Fx P] (T:Nat):Option (TypeId × Nat × Nat):=F.st.get T
section
variable {P:Program} [Fx P]
theorem Jmi {T i m:Nat} (h:fof P T i=some m):fo P T i=some m:=by
 unfold fof at h
 split at h
 ·
  rename_i l hl
  have h1:=Tb.get_all (Fx.fk (P:=P)) hl
  rw [List.all_eq_true] at h1
  have h2:=h1 (m,i) (by rw [List.mk_mem_zipIdx_iff_getElem?]; exact h)
  simpa using h2
 simp at h
theorem Jcf {T:Nat} {r:Bool × Nat} (h:tkf P T=some r):tk P T=some r:=by
 have:=Tb.get_all (Fx.kk (P:=P)) h
 simpa using this
theorem Jfl {T:Nat} {r:TypeId × Nat × Nat} (h:slf P T=some r):sl P T=some r:=by
 have:=Tb.get_all (Fx.sk (P:=P)) h
 simpa using this
end
def ikq:IntKind→IntKind→Bool
 | .i64,.i64=>true
 | .u8,.u8=>true
 | .i32,.i32=>true
 | _,_=>false
theorem Joe {a b:IntKind} (h:ikq a b=true):a=b:=by cases a <;> cases b <;> first | rfl | cases h
def cmpf:BinOp→Int→Int→Option Bool
 | .eql,a,b=>some (decide (a=b))
 | .neq,a,b=>some (decide (a≠b))
 | .lss,a,b=>some (decide (a < b))
 | .leq,a,b=>some (decide (a≤b))
 | .gtr,a,b=>some (decide (b < a))
 | .geq,a,b=>some (decide (b≤a))
 | _,_,_=>none
def fv (P:Program) [Fx P] (l:List Value):Op→Option Value
 | .move x=>evo l x
 | .assign x=>evo l x
 | .fieldAddr T x f=>match evo l x with
  | some (.pointer (some ⟨b,o,none⟩))=>match fof P T f with
   | some m=>some (.pointer (some ⟨b,o+m,none⟩))
   | none=>none
  | _=>none
 | .binOp k _ x y _=>match evo l x,evo l y with
  | some (.int i a),some (.int j b)=>match ikq i j with
   | true=>match cmpf k a b with
    | some r=>some (.bool r)
    | none=>none
   | false=>none
  | _,_=>none
 | .unOp .not _ x=>match evo l x with
  | some (.bool a)=>some (.bool (!a))
  | _=>none
 | .extract x i=>match evo l x with
  | some (.tuple ⟨vs⟩)=>vs[i]?
  | _=>none
 | .nilCheck x=>match evo l x with
  | some (.pointer (some a))=>some (.pointer (some a))
  | _=>none
 | _=>none
def runF (P:Program) [Fx P]:Nat→List Oper→List Value→Option (List Oper × List Value)
 | 0,ops,l=>some (ops,l)
 | n+1,⟨some d,op,_,_,_,none⟩::ops,l=>match fv P l op with
  | some v=>match lset l d v with
   | some l'=>runF P n ops l'
   | none=>none
  | none=>none
 | _,_,_=>none
section
variable {P:Program} [Fx P] {C:World→Prop} {l:List Value} {d:Option Tmp} {ty:TypeId} {ps:String} {af:Array Edge} {g:Option (Nat × Bool)}
theorem Jhk {op:Op} {v:Value} (h:fv P l op=some v):Det P C ⟨d,op,ty,ps,af,g⟩ l v:=by
 unfold fv at h
 split at h
 ·
  exact Jce h
 ·
  exact Jh8 h
 ·
  split at h
  ·
   rename_i b o hx
   split at h
   ·
    rename_i m hm
    cases h
    exact Jc8 hx (Jmi hm)
   cases h
  cases h
 ·
  split at h
  ·
   rename_i i a j b hx hy
   split at h
   ·
    rename_i hk
    have:=Joe hk
    subst this
    split at h
    ·
     rename_i r hr
     cases h
     unfold cmpf at hr
     split at hr
     ·
      cases hr; exact Jmr hx hy
     ·
      cases hr; exact Jmd hx hy
     ·
      cases hr; exact Jml hx hy
     ·
      cases hr; exact Jmq hx hy
     ·
      cases hr; exact Jmf hx hy
     ·
      cases hr; exact Jmn hx hy
     cases hr
    cases h
   cases h
  cases h
 ·
  split at h
  ·
   rename_i a hx
   cases h
   exact Jiz hx
  cases h
 ·
  split at h
  ·
   rename_i vs hx
   exact Jgo (vs:=vs) hx h
  cases h
 ·
  split at h
  ·
   rename_i a hx
   cases h
   exact Jdo hx
  cases h
 cases h
theorem Jnj {op:Op} {v:Value} (h:fv P l op=some v):calm op=true:=by
 cases op <;> first | rfl | (simp [fv] at h)
end
section
variable {P:Program} [Fx P] {ro:Option Nat} {n0:Nat} {w0:World} {ds:List Deferred} {ops:Array Oper} {Q:Exit→Act→World→Prop} {L:List SA} {C:World→Prop}
theorem Wz:∀ (n:Nat) {rest rest':List Oper} {l l':List Value} (k:WS P ro n0 w0 ds ops Q L rest' l') (h:runF P n rest l=some (rest',l'):=by exact rfl),WS P ro n0 w0 ds ops Q L rest l
 | 0,_,_,_,_,k,h=>by cases h; exact k
 | n+1,rest,rest',l,l',k,h=>by
  unfold runF at h
  split at h
  ·
   cases h; exact k
  ·
   rename_i n' d op ty ps af os l0 hn
   cases hn
   split at h
   ·
    rename_i v hv
    split at h
    ·
     rename_i l1 hl
     exact WS.det (Jnj hv) rfl rfl (Jhk hv) hl (Wz n k h)
    cases h
   cases h
  cases h
theorem Dz:∀ (n:Nat) {rest rest':List Oper} {l l':List Value} (k:DS P n0 w0 ds ops Q L rest' l') (h:runF P n rest l=some (rest',l'):=by exact rfl),DS P n0 w0 ds ops Q L rest l
 | 0,_,_,_,_,k,h=>by cases h; exact k
 | n+1,rest,rest',l,l',k,h=>by
  unfold runF at h
  split at h
  ·
   cases h; exact k
  ·
   rename_i n' d op ty ps af os l0 hn
   cases hn
   split at h
   ·
    rename_i v hv
    split at h
    ·
     rename_i l1 hl
     exact DS.det rfl rfl (Jhk hv) hl (Dz n k h)
    cases h
   cases h
  cases h
variable {rest rest':List Oper} {l l' l'':List Value} {o:Oper} {d j s:Nat} {v:Value} {b c x want:Bool} {bl bl' bl'':List Bool} {fuel fuel' na:Nat}
theorem Wk (n:Nat) (h:Det P (St n0 w0 L) o l v) (k:WS P ro n0 w0 ds ops Q L rest' l'') (hc:calm o.op=true:=by exact rfl) (hd:o.dst=some d:=by exact rfl) (hg:o.guard=none:=by exact rfl) (hl:lset l d v=some l':=by exact rfl) (hr:runF P n rest l'=some (rest',l''):=by exact rfl):WS P ro n0 w0 ds ops Q L (o::rest) l:=WS.det hc hd hg h hl (Wz n k hr)
theorem Wt (n:Nat) (hg:o.guard=some (j,true)) (hb:yielded ops l.toArray j=some b) (h:b=true→Det P (St n0 w0 L) o l v) (k:WS P ro n0 w0 ds ops Q L rest' l'') (hc:calm o.op=true:=by exact rfl) (hd:o.dst=some d:=by exact rfl) (hl:lset l d (cond b v undef)=some l':=by exact rfl) (hr:runF P n rest l'=some (rest',l''):=by exact rfl):WS P ro n0 w0 ds ops Q L (o::rest) l:=WS.guardT hc hd hg hb h hl (Wz n k hr)
theorem Wf (n:Nat) (hg:o.guard=some (j,false)) (hb:yielded ops l.toArray j=some b) (h:(!b)=true→Det P (St n0 w0 L) o l v) (k:WS P ro n0 w0 ds ops Q L rest' l'') (hc:calm o.op=true:=by exact rfl) (hd:o.dst=some d:=by exact rfl) (hl:lset l d (cond (!b) v undef)=some l':=by exact rfl) (hr:runF P n rest l'=some (rest',l''):=by exact rfl):WS P ro n0 w0 ds ops Q L (o::rest) l:=WS.guardF hc hd hg hb h hl (Wz n k hr)
theorem Wn (n:Nat) (hg:o.guard=some (j,want)) (hs:(ops[j]?).bind (·.dst)=some s) (hv:l[s]? = some (cond c (.bool x) undef)) (h:(c && (x == want))=true→Det P (St n0 w0 L) o l v) (k:WS P ro n0 w0 ds ops Q L rest' l'') (hc:calm o.op=true:=by exact rfl) (hd:o.dst=some d:=by exact rfl) (hl:lset l d (cond (c && (x == want)) v undef)=some l':=by exact rfl) (hr:runF P n rest l'=some (rest',l''):=by exact rfl):WS P ro n0 w0 ds ops Q L (o::rest) l:=WS.guardN hc hd hg hs hv h hl (Wz n k hr)
theorem Dk (n:Nat) (h:Det P (St n0 w0 L) o l v) (k:DS P n0 w0 ds ops Q L rest' l'') (hd:o.dst=some d:=by exact rfl) (hg:o.guard=none:=by exact rfl) (hl:lset l d v=some l':=by exact rfl) (hr:runF P n rest l'=some (rest',l''):=by exact rfl):DS P n0 w0 ds ops Q L (o::rest) l:=DS.det hd hg h hl (Dz n k hr)
theorem Dt (n:Nat) (hg:o.guard=some (j,true)) (hb:yielded ops l.toArray j=some b) (h:b=true→Det P (St n0 w0 L) o l v) (k:DS P n0 w0 ds ops Q L rest' l'') (hd:o.dst=some d:=by exact rfl) (hl:lset l d (cond b v undef)=some l':=by exact rfl) (hr:runF P n rest l'=some (rest',l''):=by exact rfl):DS P n0 w0 ds ops Q L (o::rest) l:=DS.guardT hd hg hb h hl (Dz n k hr)
theorem Df (n:Nat) (hg:o.guard=some (j,false)) (hb:yielded ops l.toArray j=some b) (h:(!b)=true→Det P (St n0 w0 L) o l v) (k:DS P n0 w0 ds ops Q L rest' l'') (hd:o.dst=some d:=by exact rfl) (hl:lset l d (cond (!b) v undef)=some l':=by exact rfl) (hr:runF P n rest l'=some (rest',l''):=by exact rfl):DS P n0 w0 ds ops Q L (o::rest) l:=DS.guardF hd hg hb h hl (Dz n k hr)
theorem Dn (n:Nat) (hg:o.guard=some (j,want)) (hs:(ops[j]?).bind (·.dst)=some s) (hv:l[s]? = some (cond c (.bool x) undef)) (h:(c && (x == want))=true→Det P (St n0 w0 L) o l v) (k:DS P n0 w0 ds ops Q L rest' l'') (hd:o.dst=some d:=by exact rfl) (hl:lset l d (cond (c && (x == want)) v undef)=some l':=by exact rfl) (hr:runF P n rest l'=some (rest',l''):=by exact rfl):DS P n0 w0 ds ops Q L (o::rest) l:=DS.guardN hd hg hs hv h hl (Dz n k hr)
def asOk (ops:Array Oper):List Nat→List Bool→Bool
 | [],_=>true
 | i::is,bl=>Region.free .any ops bl.toArray i && (Region.ready .any ops bl.toArray).contains i && asOk ops is (bl.set i true)
def atOk (ops:Array Oper) (na s:Nat):List Nat→List Bool→Bool
 | [],_=>true
 | i::is,bl=>Je3 ops na i s && !(i == s) && Jdk ops bl.toArray && Region.free .any ops bl.toArray i && (Region.ready .any ops bl.toArray).contains i && atOk ops na s is (bl.set i true)
def runA (P:Program) [Fx P] (ops:Array Oper):List Nat→Nat→List Bool→List Value→Option (Nat × List Bool × List Value)
 | [],f,bl,l=>some (f,bl,l)
 | i::is,f+1,bl,l=>match ops[i]? with
  | some ⟨some d,op,_,_,_,none⟩=>match fv P l op with
   | some v=>match lset l d v with
    | some l'=>match lset bl i true with
     | some bl'=>runA P ops is f bl' l'
     | none=>none
    | none=>none
   | none=>none
  | _=>none
 | _,_,_,_=>none
theorem Az (hcalm:Jas ops=true):∀ (is:List Nat) {fuel fuel':Nat} {bl bl':List Bool} {l l':List Value} (hk:asOk ops is bl=true) (k:AS P ro n0 w0 ds ops Q C L fuel' bl' l')
  (h:runA P ops is fuel bl l=some (fuel',bl',l')),AS P ro n0 w0 ds ops Q C L fuel bl l
 | [],_,_,_,_,_,_,_,k,h=>by cases h; exact k
 | i::is,fuel,fuel',bl,bl',l,l',hk,k,h=>by
  unfold runA at h
  split at h
  ·
   rename_i he; cases he
  ·
   rename_i i' is' f bl0 l0 he
   cases he
   simp only [asOk,Bool.and_eq_true] at hk
   split at h
   ·
    rename_i d op ty ps af ho
    split at h
    ·
     rename_i v hv
     split at h
     ·
      rename_i l1 hl
      split at h
      ·
       rename_i bl1 hb
       have hb1:=Jae hb
       exact AS.take i ho hcalm hk.1.1 hk.1.2 rfl rfl (Jhk hv) hb hl (Az hcalm is (by rw [← hb1]; exact hk.2) k h)
      cases h
     cases h
    cases h
   cases h
  cases h
theorem Tz (hcalm:Jas ops=true) {na s:Nat}:∀ (is:List Nat) {fuel fuel':Nat} {bl bl':List Bool} {l l':List Value} (hk:atOk ops na s is bl=true) (k:AT P ro n0 w0 ds ops Q C s L fuel' bl' l')
  (h:runA P ops is fuel bl l=some (fuel',bl',l')),AT P ro n0 w0 ds ops Q C s L fuel bl l
 | [],_,_,_,_,_,_,_,k,h=>by cases h; exact k
 | i::is,fuel,fuel',bl,bl',l,l',hk,k,h=>by
  unfold runA at h
  split at h
  ·
   rename_i he; cases he
  ·
   rename_i i' is' f bl0 l0 he
   cases he
   simp only [atOk,Bool.and_eq_true] at hk
   split at h
   ·
    rename_i d op ty ps af ho
    split at h
    ·
     rename_i v hv
     split at h
     ·
      rename_i l1 hl
      split at h
      ·
       rename_i bl1 hb
       have hb1:=Jae hb
       exact AT.take i ho hcalm hk.1.1.1.1.1 (by simpa using hk.1.1.1.1.2) hk.1.1.1.2 hk.1.1.2 hk.1.2 rfl rfl (Jhk hv) hb hl (Tz hcalm is (by rw [← hb1]; exact hk.2) k h)
      cases h
     cases h
    cases h
   cases h
  cases h
theorem Ar (is:List Nat) (k:AS P ro n0 w0 ds ops Q C L fuel' bl' l') (hcalm:Jas ops=true:=by kernel_rfl) (hk:asOk ops is bl=true:=by kernel_rfl) (h:runA P ops is fuel bl l=some (fuel',bl',l'):=by exact rfl):AS P ro n0 w0 ds ops Q C L fuel bl l:=Az hcalm is hk k h
theorem Ak (i:Nat) (is:List Nat) (hi:ops[i]? = some o) (h:Det P C o l v) (k:AS P ro n0 w0 ds ops Q C L fuel' bl'' l'') (hcalm:Jas ops=true:=by kernel_rfl) (hk:asOk ops (i::is) bl=true:=by kernel_rfl)
  (hd:o.dst=some d:=by exact rfl) (hg:o.guard=none:=by exact rfl) (hb:lset bl i true=some bl':=by exact rfl) (hl:lset l d v=some l':=by exact rfl) (hr:runA P ops is fuel bl' l'=some (fuel',bl'',l''):=by exact rfl):AS P ro n0 w0 ds ops Q C L (fuel+1) bl l:=by
 simp only [asOk,Bool.and_eq_true] at hk
 exact AS.take i hi hcalm hk.1.1 hk.1.2 hd hg h hb hl (Az hcalm is (by rw [← Jae hb]; exact hk.2) k hr)
theorem At (i:Nat) (is:List Nat) (hi:ops[i]? = some o) (hg:o.guard=some (j,true)) (hw:yielded ops l.toArray j=some b) (h:b=true→Det P C o l v) (k:AS P ro n0 w0 ds ops Q C L fuel' bl'' l'') (hcalm:Jas ops=true:=by kernel_rfl) (hk:asOk ops (i::is) bl=true:=by kernel_rfl)
  (hd:o.dst=some d:=by exact rfl) (hb:lset bl i true=some bl':=by exact rfl) (hl:lset l d (cond b v undef)=some l':=by exact rfl) (hr:runA P ops is fuel bl' l'=some (fuel',bl'',l''):=by exact rfl):AS P ro n0 w0 ds ops Q C L (fuel+1) bl l:=by
 simp only [asOk,Bool.and_eq_true] at hk
 exact AS.takeT i hi hcalm hk.1.1 hk.1.2 hd hg hw h hb hl (Az hcalm is (by rw [← Jae hb]; exact hk.2) k hr)
theorem Tr (na:Nat) (is:List Nat) (k:AT P ro n0 w0 ds ops Q C s L fuel' bl' l') (hcalm:Jas ops=true:=by kernel_rfl) (hk:atOk ops na s is bl=true:=by kernel_rfl) (h:runA P ops is fuel bl l=some (fuel',bl',l'):=by exact rfl):AT P ro n0 w0 ds ops Q C s L fuel bl l:=Tz hcalm is hk k h
theorem Tk (na i:Nat) (is:List Nat) (hi:ops[i]? = some o) (h:Det P C o l v) (k:AT P ro n0 w0 ds ops Q C s L fuel' bl'' l'') (hcalm:Jas ops=true:=by kernel_rfl) (hk:atOk ops na s (i::is) bl=true:=by kernel_rfl)
  (hd:o.dst=some d:=by exact rfl) (hg:o.guard=none:=by exact rfl) (hb:lset bl i true=some bl':=by exact rfl) (hl:lset l d v=some l':=by exact rfl) (hr:runA P ops is fuel bl' l'=some (fuel',bl'',l''):=by exact rfl):AT P ro n0 w0 ds ops Q C s L (fuel+1) bl l:=by
 simp only [atOk,Bool.and_eq_true] at hk
 exact AT.take i hi hcalm hk.1.1.1.1.1 (by simpa using hk.1.1.1.1.2) hk.1.1.1.2 hk.1.1.2 hk.1.2 hd hg h hb hl (Tz hcalm is (by rw [← Jae hb]; exact hk.2) k hr)
theorem Dr {id:Nat} {os:List Oper} (hm:P.follows .mixedOrders=true) (n:Nat) (k:DS P n0 w0 ds os.toArray Q L rest' l') (hr:runF P n os l=some (rest',l'):=by exact rfl) (hB:Region.lexB .any os.toArray=true:=by kernel_rfl) (hcalm:Jas os.toArray=true:=by kernel_rfl) :
  CS P ro n0 w0 ds (.region id os.toArray true) Q L l:=CS.draw hm hB hcalm (Dz n k hr)
end
section
variable {P:Program} {ro:Option Nat} {n0:Nat} {w0:World} {ds:List Deferred} {ops:Array Oper} {Q:Exit→Act→World→Prop} {L:List SA} {C:World→Prop} {l:List Value} {o:Oper} {s:Nat} {bl bl':List Bool} {fuel:Nat}
theorem Ao (i:Nat) (hi:ops[i]? = some o) (k:WS P ro n0 w0 ds ops (Exit.then (AH P ro ops (NP Q) C fuel bl'.toArray) (NP Q)) L [o] l) (hr:Region.ready .any ops bl.toArray=[i]:=by kernel_rfl)
  (hC:∀ u,St n0 w0 L u→C u:=by first | exact fun _ h=>h | exact fun _ h=>h.sub (by repeat first | exact List.Sublist.refl _ | apply List.Sublist.cons_cons | apply List.Sublist.cons)) (hb:lset bl i true=some bl':=by exact rfl):AS P ro n0 w0 ds ops Q C L (fuel+1) bl l:=AS.one hr hi hC hb k
theorem Ae (k:QS n0 w0 ds Q .normal L l) (hr:Region.ready .any ops bl.toArray=[]:=by kernel_rfl)
  (hC:∀ u,St n0 w0 L u→C u:=by first | exact fun _ h=>h | exact fun _ h=>h.sub (by repeat first | exact List.Sublist.refl _ | apply List.Sublist.cons_cons | apply List.Sublist.cons)):AS P ro n0 w0 ds ops Q C L 0 bl l:=AS.done hr hC k
theorem To (i:Nat) (hi:ops[i]? = some o) (k:WS P ro n0 w0 ds ops (Exit.then (AZ P ro ops (NP Q) C s fuel bl'.toArray) (NP Q)) L [o] l) (hr:Region.ready .any ops bl.toArray=[i]:=by kernel_rfl)
  (hC:bl.toArray.getD s true=false→∀ u,St n0 w0 L u→C u:=by first | (intro h; exact absurd h (by decide)) | exact fun _ _ h=>h | exact fun _ _ h=>h.sub (by repeat first | exact List.Sublist.refl _ | apply List.Sublist.cons_cons | apply List.Sublist.cons)) (hb:lset bl i true=some bl':=by exact rfl):AT P ro n0 w0 ds ops Q C s L (fuel+1) bl l:=AT.one hr hi hC hb k
theorem Te (k:QS n0 w0 ds Q .normal L l) (hr:Region.ready .any ops bl.toArray=[]:=by kernel_rfl)
  (hC:bl.toArray.getD s true=false→∀ u,St n0 w0 L u→C u:=by first | (intro h; exact absurd h (by decide)) | exact fun _ _ h=>h | exact fun _ _ h=>h.sub (by repeat first | exact List.Sublist.refl _ | apply List.Sublist.cons_cons | apply List.Sublist.cons)):AT P ro n0 w0 ds ops Q C s L 0 bl l:=AT.done hr hC k
end
def cuto:Nat→Nat→List Value→Option (List Value)
 | 0,0,_=>some []
 | 0,n+1,v::l=>match cuto 0 n l with
  | some r=>some (v::r)
  | none=>none
 | i+1,n,_::l=>cuto i n l
 | _,_,[]=>none
theorem Je0:∀ {i n:Nat} {c cs:List Value},cuto i n c=some cs→(c.drop i).take n=cs∧cs.length=n
 | 0,0,c,cs,h=>by simp [cuto] at h; subst h; simp
 | 0,n+1,[],cs,h=>by simp [cuto] at h
 | 0,n+1,v::l,cs,h=>by
  unfold cuto at h
  split at h
  ·
   rename_i r hr
   simp at h
   subst h
   have:=Je0 hr
   simp at this ⊢
   exact this
  simp at h
 | i+1,n,[],cs,h=>by simp [cuto] at h
 | i+1,n,v::l,cs,h=>by
  have:=Je0 (show cuto i n l=some cs from h)
  simpa using this
section
variable {P:Program} {C:World→Prop} {l:List Value} {d:Option Tmp} {ty:TypeId} {ps:String} {af:Array Edge} {g:Option (Nat × Bool)} {v:Value}
theorem op_ {x:Operand} (h:evo l x=some v:=by first | rfl | exact Jf1 (by assumption) rfl | exact Jf1 (Jqg (by assumption)) rfl):evo l x=some v:=h
variable {n0:Nat} {w0:World} {L:List SA} {T T' e e':TypeId} {x y z:Operand} {i b o a k q q' m n:Nat} {c cs:List Value} {vv:Value} {xs:List Int} {ii aa bb:Int} {w:World} {ik:IntKind} {ba bc br:Bool}
theorem Fm (h:evo l x=some v:=by exact op_):Det P C ⟨d,.move x,ty,ps,af,g⟩ l v:=Jce h
theorem Fq (hx:evo l x=some (.int ik aa):=by exact op_) (hy:evo l y=some (.int ik bb):=by exact op_):Det P C ⟨d,.binOp .eql T x y T',ty,ps,af,g⟩ l (.bool (decide (aa=bb))):=Jmr hx hy
theorem Fr (hx:evo l x=some (.int ik aa):=by exact op_) (hy:evo l y=some (.int ik bb):=by exact op_):Det P C ⟨d,.binOp .neq T x y T',ty,ps,af,g⟩ l (.bool (decide (aa≠bb))):=Jmd hx hy
theorem Fl (hx:evo l x=some (.int ik aa):=by exact op_) (hy:evo l y=some (.int ik bb):=by exact op_):Det P C ⟨d,.binOp .lss T x y T',ty,ps,af,g⟩ l (.bool (decide (aa < bb))):=Jml hx hy
theorem Fk (hx:evo l x=some (.int ik aa):=by exact op_) (hy:evo l y=some (.int ik bb):=by exact op_):Det P C ⟨d,.binOp .leq T x y T',ty,ps,af,g⟩ l (.bool (decide (aa≤bb))):=Jmq hx hy
theorem Fg (hx:evo l x=some (.int ik aa):=by exact op_) (hy:evo l y=some (.int ik bb):=by exact op_):Det P C ⟨d,.binOp .gtr T x y T',ty,ps,af,g⟩ l (.bool (decide (bb < aa))):=Jmf hx hy
theorem Fh (hx:evo l x=some (.int ik aa):=by exact op_) (hy:evo l y=some (.int ik bb):=by exact op_):Det P C ⟨d,.binOp .geq T x y T',ty,ps,af,g⟩ l (.bool (decide (bb≤aa))):=Jmn hx hy
theorem Fn (hx:evo l x=some (.bool ba):=by exact op_):Det P C ⟨d,.unOp .not T x,ty,ps,af,g⟩ l (.bool (!ba)):=Jiz hx
theorem Fc {aq:Addr} (hx:evo l x=some (.pointer (some aq)):=by exact op_):Det P C ⟨d,.nilCheck x,ty,ps,af,g⟩ l (.pointer (some aq)):=Jdo hx
theorem Pa (hc:evo l x=some (.bool bc):=by exact op_) (hx:evo l y=some (cond bc (.bool br) undef):=by exact rfl) (hy:evo l z=some (.bool false):=by exact rfl):Det P C ⟨d,.pick x y z,ty,ps,af,g⟩ l (.bool (bc && br)):=Jb1 hc hx hy
theorem Po (hc:evo l x=some (.bool bc):=by exact op_) (hy:evo l z=some (cond (!bc) (.bool br) undef):=by exact rfl) (hx:evo l y=some (.bool true):=by exact rfl):Det P C ⟨d,.pick x y z,ty,ps,af,g⟩ l (.bool (bc || br)):=Jgf hc hy hx
theorem Za (hx:evo l x=some (.int .i64 aa):=by exact op_) (hy:evo l y=some (.int .i64 bb):=by exact op_) (h : -9223372036854775808≤aa+bb∧aa+bb≤9223372036854775807:=by (try simp only [bq] at hg); omega):Det P C ⟨d,.binOp .add T x y T',ty,ps,af,g⟩ l (.int .i64 (aa+bb)):=Jnm hx hy h
theorem Zb (hx:evo l x=some (.int .i64 aa):=by exact op_) (hy:evo l y=some (.int .i64 bb):=by exact op_) (h : -9223372036854775808≤aa - bb∧aa - bb≤9223372036854775807:=by (try simp only [bq] at hg); omega):Det P C ⟨d,.binOp .sub T x y T',ty,ps,af,g⟩ l (.int .i64 (aa - bb)):=Jmy hx hy h
theorem Db {pl:List (Nat × Operand)} {pls:List (Nat × Nat)} {zs:List Value} {parts:List (Nat × Value)} (hp:plc P T=some pls) (hz:zv P T=some zs) (hv:evp l pl=some parts:=by exact rfl) (hb:bld pls zs parts=some cs:=by exact rfl)
  (h1:∀ p∈parts,p.2.oneCell'=true:=by first | (simp [Value.oneCell']; done) | ((repeat (refine List.forall_mem_cons.2 ⟨by first | rfl | assumption,?_⟩)); exact fun _ h=>absurd h List.not_mem_nil)):Det P C ⟨d,.build T pl.toArray,ty,ps,af,g⟩ l (.agg cs.toArray):=Jdj hp hz hv hb h1
theorem Cb {f:Operand} {args:List Operand} {ts:Array TypeId} {fn:FuncId} {cap:List Value} {vs:List Value} (hf:evo l f=some (.func (.func fn) #[] cap.toArray)) (hv:evs l args=some vs) (he:Ent P fn)
  (hc:∀ u,St n0 w0 L u→Calls P fn (vs++cap).toArray u (RetB u v)):Det P (St n0 w0 L) ⟨d,.call ⟨.value f,args.toArray,ts⟩,ty,ps,af,g⟩ l v:=Jkk hf hv he hc
end
section
variable {P:Program} [Fx P] {C:World→Prop} {l:List Value} {d:Option Tmp} {ty:TypeId} {ps:String} {af:Array Edge} {g:Option (Nat × Bool)} {v:Value}
variable {n0:Nat} {w0:World} {L:List SA} {T T' e e':TypeId} {x y z:Operand} {i b o a k q q' m n:Nat} {c cs:List Value} {vv:Value} {xs:List Int} {ii aa bb:Int} {w:World} {ik:IntKind} {ba bc br:Bool}
theorem Ff {f:Nat} (hx:evo l x=some (.pointer (some ⟨b,o,none⟩)):=by exact op_) (hf:fof P T f=some m:=by exact rfl):Det P C ⟨d,.fieldAddr T x f,ty,ps,af,g⟩ l (.pointer (some ⟨b,o+m,none⟩)):=Jc8 hx (Jmi hf)
theorem Ba (j:Nat) (hx:evo l x=some (.pointer (some ⟨b,i,none⟩)):=by exact op_) (hj:L[j]? = some (blk b c e):=by exact rfl) (hv:c[i]? = some v:=by exact rfl) (hT:tkf P T=some (false,k):=by exact rfl):Det P (St n0 w0 L) ⟨d,.load T x,ty,ps,af,g⟩ l v:=Jab hx hj hv (Jcf hT)
theorem Bb (j:Nat) (hx:evo l x=some (.pointer (some ⟨b,0,none⟩)):=by exact op_) (hj:L[j]? = some (blk b c e):=by exact rfl) (hT:tkf P T=some (true,c.length):=by exact rfl):Det P (St n0 w0 L) ⟨d,.load T x,ty,ps,af,g⟩ l (.agg c.toArray):=Ja3 hx hj (Jcf hT)
theorem Bc (j:Nat) (hx:evo l x=some (.pointer (some ⟨b,i,none⟩)):=by exact op_) (hj:L[j]? = some (blk b c e):=by exact rfl) (hT:tkf P T=some (true,n):=by exact rfl) (hv:cuto i n c=some cs:=by exact rfl):Det P (St n0 w0 L) ⟨d,.load T x,ty,ps,af,g⟩ l (.agg cs.toArray):=Ja1 hx hj (Je0 hv).1 (Je0 hv).2 (Jcf hT)
theorem Ga (hx:evo l x=some (.pointer (some ⟨b,i,none⟩)):=by exact op_) (hb:BlkAt w0 b c e:=by assumption) (hv:c[i]? = some v:=by exact rfl) (hT:tkf P T=some (false,k):=by exact rfl):Det P (St w0.heap.size w0 L) ⟨d,.load T x,ty,ps,af,g⟩ l v:=Jaj hx hb hv (Jcf hT)
theorem Gb (hx:evo l x=some (.pointer (some ⟨b,0,none⟩)):=by exact op_) (hb:BlkAt w0 b c e:=by assumption) (hT:tkf P T=some (true,n):=by exact rfl) (hn:c.length=n:=by exact rfl):Det P (St w0.heap.size w0 L) ⟨d,.load T x,ty,ps,af,g⟩ l (.agg c.toArray):=Ja2 hx hb hn (Jcf hT)
theorem Ia (hx:evo l x=some (.pointer (some (sla vv ii.toNat))):=by exact op_) (hs:SlI w0 vv xs:=by assumption) (h:0≤ii∧ii < xs.length:=by (try simp only [bq] at hg); omega) (hT:tkf P T=some (false,q):=by exact rfl):Det P (St w0.heap.size w0 L) ⟨d,.load T x,ty,ps,af,g⟩ l (.int .i64 (nth xs ii)):=Jcw hx hs h (Jcf hT)
theorem Ib (j:Nat) (hx:evo l x=some (.pointer (some (sla vv ii.toNat))):=by exact op_) (hj:L[j]? = some (oints e vv xs):=by exact rfl) (h:0≤ii∧ii < xs.length:=by (try simp only [bq] at hg); omega) (hT:tkf P T=some (false,q):=by exact rfl):Det P (St n0 w0 L) ⟨d,.load T x,ty,ps,af,g⟩ l (.int .i64 (nth xs ii)):=Jkx hx hj h (Jcf hT)
theorem Xa (hx:evo l x=some vv:=by exact op_) (hy:evo l y=some (.int .i64 ii):=by exact op_) (hs:SlI w vv xs:=by assumption) (h0:0≤ii:=by (try simp only [bq] at hg); omega) (h1:ii < xs.length:=by (try simp only [bq] at hg); omega) (hT:slf P T=some (e,1,q):=by exact rfl):Det P C ⟨d,.indexAddr T x y,ty,ps,af,g⟩ l (.pointer (some (sla vv ii.toNat))):=Jcb (Jfl hT) hx hy hs h0 h1
theorem Xb (j:Nat) (hx:evo l x=some vv:=by exact op_) (hy:evo l y=some (.int .i64 ii):=by exact op_) (hj:L[j]? = some (oints e' vv xs):=by exact rfl) (h0:0≤ii:=by (try simp only [bq] at hg); omega) (h1:ii < xs.length:=by (try simp only [bq] at hg); omega) (hT:slf P T=some (e,1,q):=by exact rfl):Det P (St n0 w0 L) ⟨d,.indexAddr T x y,ty,ps,af,g⟩ l (.pointer (some (sla vv ii.toNat))):=Jio (Jfl hT) hx hy hj h0 h1
theorem Na (hx:evo l x=some vv:=by exact op_) (hs:SlI w vv xs:=by assumption) (hT:slf P T=some (e,a,q):=by exact rfl):Det P C ⟨d,.call ⟨.builtin .len, #[x], #[T]⟩,ty,ps,af,g⟩ l (.int .i64 xs.length):=Jb0 (Jfl hT) hx hs
section
variable {α:Type} {K:Cel α} {s:Sl α}
theorem Nc (hx:evo l x=some s.v:=by exact op_) (hs:SlT K w s:=by assumption) (hT:slf P T=some (e,a,q):=by exact rfl):Det P C ⟨d,.call ⟨.builtin .len, #[x], #[T]⟩,ty,ps,af,g⟩ l (.int .i64 s.l.length):=Jkw (Jfl hT) hx hs
theorem Xc (hx:evo l x=some s.v:=by exact op_) (hy:evo l y=some (.int .i64 ii):=by exact op_) (hs:SlT K w s:=by assumption) (hT:slf P T=some (e,k,q):=by exact rfl) (hk:K.k=k:=by exact rfl) (h0:0≤ii:=by (try simp only [bq] at hg); omega) (h1:ii < s.l.length:=by (try simp only [bq] at hg); omega):Det P C ⟨d,.indexAddr T x y,ty,ps,af,g⟩ l (.pointer (some (sla s.v (ii.toNat * k)))):=Jgx (Jfl hT) hx hy hs hk h0 h1
theorem Uc (k j:Nat) (hx:evo l x=some (.pointer (some ⟨slb s.v,slo s.v+ii.toNat * k+j,none⟩)):=by exact op_) (hs:SlT K w0 s:=by assumption) (ih:Inhabited α:=by infer_instance) (hk:K.k=k:=by exact rfl) (h:0≤ii∧ii < s.l.length:=by (try simp only [bq] at hg); omega) (hj:j < k:=by decide) (hc:(K.cells (nth s.l ii))[j]? = some v:=by exact rfl) (hT:tkf P T=some (false,q):=by exact rfl):Det P (St w0.heap.size w0 L) ⟨d,.load T x,ty,ps,af,g⟩ l v:=Jla k j hx hs hk h hj hc (Jcf hT)
theorem Ub (hx:evo l x=some (.pointer (some (sla s.v (ii.toNat * 1)))):=by exact op_) (hs:SlT K w0 s:=by assumption) (ih:Inhabited α:=by infer_instance) (hk:K.k=1:=by exact rfl) (h:0≤ii∧ii < s.l.length:=by (try simp only [bq] at hg); omega) (hc:(K.cells (nth s.l ii))[0]? = some v:=by exact rfl) (hT:tkf P T=some (false,q):=by exact rfl):Det P (St w0.heap.size w0 L) ⟨d,.load T x,ty,ps,af,g⟩ l v:=Jky hx hs hk h hc (Jcf hT)
theorem Ua (hx:evo l x=some (.pointer (some (sla s.v (ii.toNat * k)))):=by exact op_) (hs:SlT K w0 s:=by assumption) (ih:Inhabited α:=by infer_instance) (hk:K.k=k:=by exact rfl) (h:0≤ii∧ii < s.l.length:=by (try simp only [bq] at hg); omega) (hc:K.cells (nth s.l ii)=cs:=by exact rfl) (hT:tkf P T=some (true,k):=by exact rfl):Det P (St w0.heap.size w0 L) ⟨d,.load T x,ty,ps,af,g⟩ l (.agg cs.toArray):=Jmv hx hs hk h hc (Jcf hT)
variable [Inhabited α]
end
end
section
variable {P:Program} [Fx P] {ro:Option Nat} {n0:Nat} {w0:World} {ds:List Deferred} {ops:Array Oper} {Q:Exit→Act→World→Prop} {L L':List SA} {l l'':List Value} {T ty e:TypeId} {x y:Operand} {ps:String} {af:Array Edge} {b i q d:Nat} {bq_:Bool} {c c' vs:List Value} {v:Value} {rest rest':List Oper}
theorem Ws (n j:Nat) (k:WS P ro n0 w0 ds ops Q L' rest' l'') (hx:evo l x=some (.pointer (some ⟨b,i,none⟩)):=by exact rfl) (hj:L[j]? = some (blk b c e):=by exact rfl) (hi:i < c.length:=by first | decide | omega | (simp; done) | (simp; omega) | exact Nat.le_of_ble_eq_true rfl)
  (hy:evo l y=some v:=by exact rfl) (h1:v.oneCell'=true:=by first | rfl | assumption) (hT:tkf P T=some (bq_,1):=by exact rfl) (hc:lset c i v=some c':=by first | exact rfl | exact Jaq _ _ _) (hL:lset L j (blk b c' e)=some L':=by exact rfl) (hr:runF P n rest l=some (rest',l''):=by exact rfl) :
  WS P ro n0 w0 ds ops Q L (⟨none,.store T x y,ty,ps,af,none⟩::rest) l:=WS.store hx hj hi hy h1 (Jcf hT) hc hL (Wz n k hr)
theorem Wv (n j:Nat) (k:WS P ro n0 w0 ds ops Q L' rest' l'') (hx:evo l x=some (.pointer (some ⟨b,0,none⟩)):=by exact rfl) (hj:L[j]? = some (blk b c e):=by exact rfl) (hy:evo l y=some (.agg vs.toArray):=by exact rfl) (hn:vs.length=c.length:=by exact rfl)
  (h1:∀ v∈vs,v.oneCell'=true:=by first | (simp [Value.oneCell']; done) | ((repeat (refine List.forall_mem_cons.2 ⟨by first | rfl | assumption,?_⟩)); exact fun _ h=>absurd h List.not_mem_nil) | exact Cel.one _ w _ (by first | assumption | exact trivial))
  (hT:tkf P T=some (true,q):=by exact rfl) (hnn:vs.length=q:=by exact rfl) (hL:lset L j (blk b vs e)=some L':=by exact rfl) (hr:runF P n rest l=some (rest',l''):=by exact rfl) :
  WS P ro n0 w0 ds ops Q L (⟨none,.store T x y,ty,ps,af,none⟩::rest) l:=WS.storeW hx hj hy hn h1 (Jcf hT) hnn hL (Wz n k hr)
variable {ll:Nat→List Value} {rr:Nat→List Oper} {lz:Nat→List Value}
theorem Wb (n:Nat) (hx:evo l x=some v) (hc:v.cells=c.toArray) (hl:∀ b,lset l d (.pointer (some ⟨b,0,none⟩))=some (ll b)) (hr:∀ b,runF P n rest (ll b)=some (rr b,lz b))
  (k:∀ b,n0≤b→WS P ro n0 w0 ds ops Q (blk b c T::L) (rr b) (lz b)):WS P ro n0 w0 ds ops Q L (⟨some d,.box T x,ty,ps,af,none⟩::rest) l:=WS.box hx hc hl fun b hb=>Wz n (k b hb) (hr b)
theorem Wl (n:Nat) (hz:zv P T=some c) (hl:∀ b,lset l d (.pointer (some ⟨b,0,none⟩))=some (ll b)) (hr:∀ b,runF P n rest (ll b)=some (rr b,lz b))
  (k:∀ b,n0≤b→WS P ro n0 w0 ds ops Q (blk b c T::L) (rr b) (lz b)):WS P ro n0 w0 ds ops Q L (⟨some d,.alloc T,ty,ps,af,none⟩::rest) l:=WS.alloc hz hl fun b hb=>Wz n (k b hb) (hr b)
theorem Nz (n:Nat) {id:Nat} {os:List Oper} {z:Code} (k:WS P ro n0 w0 ds os.toArray (Exit.then (z.wpIn (FW ro) 0 P Q) Q) L rest' l'') (hr:runF P n os l=some (rest',l''):=by exact rfl):CS P ro n0 w0 ds (.seq (.region id os.toArray false) z) Q L l:=CS.seq (CS.region (Wz n k hr))
theorem Ny (n:Nat) {id:Nat} {os:List Oper} (k:WS P ro n0 w0 ds os.toArray Q L rest' l'') (hr:runF P n os l=some (rest',l''):=by exact rfl):CS P ro n0 w0 ds (.region id os.toArray false) Q L l:=CS.region (Wz n k hr)
end
section
variable {P:Program} {ro:Option Nat} {n0:Nat} {w0:World} {ds:List Deferred} {ops:Array Oper} {Q:Exit→Act→World→Prop} {L:List SA} {C:World→Prop} {l:List Value} {o:Oper} {b:Bool} {rest:List Oper}
theorem Fy_ (h:False):Det P C o l undef:=h.elim
theorem Fz_ (h:False):Det P C o l (.bool false):=h.elim
theorem Fy (h:b=false) (k:b=true):Det P C o l undef:=Bool.noConfusion (h.symm.trans k)
theorem Fz (h:b=false) (k:b=true):Det P C o l (.bool false):=Bool.noConfusion (h.symm.trans k)
theorem eg_ {x:Operand} {v:Value} (hb:b=true) (h:evo l x=some (cond b v undef)):evo l x=some v:=Jf1 hb h
theorem en_:evs l []=some []:=rfl
theorem ec_ {x:Operand} {xs:List Operand} {v:Value} {vs:List Value} (h:evo l x=some v) (h2:evs l xs=some vs):evs l (x::xs)=some (v::vs):=Jlt h h2
theorem Ck (k:QS n0 w0 ds Q .normal L l):CS P ro n0 w0 ds .skip Q L l:=CS.skip k
theorem Cr (k:QS n0 w0 ds Q .ret L l):CS P ro n0 w0 ds .ret Q L l:=CS.ret k
theorem Cv {id:Nat} (k:QS n0 w0 ds Q (.exit id) L l):CS P ro n0 w0 ds (.exit id) Q L l:=CS.leave k
theorem Cs {x y:Code} (k:CS P ro n0 w0 ds x (Exit.then (y.wpIn (FW ro) 0 P Q) Q) L l):CS P ro n0 w0 ds (.seq x y) Q L l:=CS.seq k
theorem Ce {id:Nat} {c:Code} (k:CS P ro n0 w0 ds c (Exit.inBlock id Q) L l):CS P ro n0 w0 ds (.block id c) Q L l:=CS.block k
theorem Qc {y:Code} {Q':Exit→Act→World→Prop} (k:CS P ro n0 w0 ds y Q' L l):QS n0 w0 ds (Exit.then (y.wpIn (FW ro) 0 P Q') Q) .normal L l:=k
theorem Qr {K:Act→World→Prop} (k:QS n0 w0 ds Q .ret L l):QS n0 w0 ds (Exit.then K Q) .ret L l:=k
theorem Qe {K:Act→World→Prop} {i:Nat} (k:QS n0 w0 ds Q (.exit i) L l):QS n0 w0 ds (Exit.then K Q) (.exit i) L l:=k
theorem Qb {id:Nat} (k:QS n0 w0 ds Q .normal L l):QS n0 w0 ds (Exit.inBlock id Q) .normal L l:=k
theorem Qs {id:Nat} (k:QS n0 w0 ds Q .ret L l):QS n0 w0 ds (Exit.inBlock id Q) .ret L l:=k
theorem Qx {id:Nat} (k:QS n0 w0 ds Q .normal L l):QS n0 w0 ds (Exit.inBlock id Q) (.exit id) L l:=QS.block_exit k
theorem Wd (k:QS n0 w0 ds Q .normal L l):WS P ro n0 w0 ds ops Q L [] l:=WS.done k
theorem Dd (k:QS n0 w0 ds Q .normal L l):DS P n0 w0 ds ops Q L [] l:=k
theorem Qa {bl:List Bool} {fuel:Nat} (k:AS P ro n0 w0 ds ops Q C L fuel bl l):QS n0 w0 ds (Exit.then (AH P ro ops (NP Q) C fuel bl.toArray) (NP Q)) .normal L l:=QS.then_AS k
theorem Qt {bl:List Bool} {fuel s:Nat} (k:AT P ro n0 w0 ds ops Q C s L fuel bl l):QS n0 w0 ds (Exit.then (AZ P ro ops (NP Q) C s fuel bl.toArray) (NP Q)) .normal L l:=QS.then_AT k
theorem Wc {β:Type} {f:Operand} {args:List Operand} {ts:Array TypeId} {fn:FuncId} {cap:List Value} {vs:List Value} {v:β→Value} {A:β→SA} {p:β→Prop} {i:Nat} {l':β→List Value} {ty:TypeId} {ps:String} {af:Array Edge}
  (hf:evo l f=some (.func (.func fn) #[] cap.toArray)) (hv:evs l args=some vs) (he:Ent P fn)
  (hc:∀ u,St n0 w0 L u→Calls P fn (vs++cap).toArray u (fun e u'=>∃ x,p x∧RetF u (v x) (A x) e u'))
  (hl:∀ x,lset l i (v x)=some (l' x)) (k:∀ x,p x→WS P ro n0 w0 ds ops Q (A x::L) rest (l' x)) :
  WS P ro n0 w0 ds ops Q L (⟨some i,.call ⟨.value f,args.toArray,ts⟩,ty,ps,af,none⟩::rest) l:=WS.callF hf hv he hc hl k
end
theorem AS.three {P:Program} {ro:Option Nat} {n0:Nat} {w0:World} {ds:List Deferred} {ops:Array Oper} {Q:Exit→Act→World→Prop} {L:List SA} {C:World→Prop} {l:List Value} {fuel:Nat} {bl:List Bool} {i j k:Nat} {o p q:Oper} {bi bj bk:List Bool}
  (hr:Region.ready .any ops bl.toArray=[i,j,k]) (hi:ops[i]? = some o) (hj:ops[j]? = some p) (hk:ops[k]? = some q) (hC:∀ u,St n0 w0 L u→C u) (hbi:lset bl i true=some bi) (hbj:lset bl j true=some bj) (hbk:lset bl k true=some bk)
  (h1:WS P ro n0 w0 ds ops (Exit.then (AH P ro ops (NP Q) C fuel bi.toArray) (NP Q)) L [o] l) (h2:WS P ro n0 w0 ds ops (Exit.then (AH P ro ops (NP Q) C fuel bj.toArray) (NP Q)) L [p] l)
  (h3:WS P ro n0 w0 ds ops (Exit.then (AH P ro ops (NP Q) C fuel bk.toArray) (NP Q)) L [q] l):AS P ro n0 w0 ds ops Q C L (fuel+1) bl l:=fun u hu u' hu'=>by
 have hst:=hu.ext hu'
 refine ⟨hC _ hst,fun h0=>by rw [hr] at h0; simp at h0,fun x hx=>?_⟩
 rw [hr] at hx
 simp at hx
 rcases hx with rfl | rfl | rfl
 ·
  have:=Ja7 hi (h1 u' hst)
  rw [← Jae hbi] at this
  simpa using this
 ·
  have:=Ja7 hj (h2 u' hst)
  rw [← Jae hbj] at this
  simpa using this
 have:=Ja7 hk (h3 u' hst)
 rw [← Jae hbk] at this
 simpa using this
def nil0 {α:Type}:Sl α:=⟨.slice none 0 0,[]⟩
def of0 {α:Type} (l:List α):Sl α:=⟨.slice none 0 0,l⟩
def Ji7:ByteArray:=⟨#[104,97,108,108]⟩
def Jff:ByteArray:=⟨#[118,97,117,108,116]⟩
def tBox:ByteArray:=⟨#[98,111,120]⟩
def Jis:ByteArray:=⟨#[100,111,111,114]⟩
def tKey:ByteArray:=⟨#[107,101,121]⟩
def Jgp:ByteArray:=⟨#[111,112,101,110]⟩
def Jgk:ByteArray:=⟨#[116,117,114,110]⟩
def exR:Room:=⟨of0 [Ji7,Jff],of0 [⟨tBox,0,2,0⟩,⟨Jis,0,2,0⟩],of0 [⟨tKey,0,of0 [⟨0,1,false⟩]⟩],of0 [⟨0,1,of0 [⟨1,1,false⟩]⟩],
 of0 [⟨Jgp,0,0,nil0,nil0,of0 [⟨0,1⟩],nil0,nil0⟩,⟨Jgk,0, -1,of0 [0],nil0,of0 [⟨1,1⟩],of0 [0],nil0⟩],nil0,1,nil0⟩
theorem Jhh (a b:ByteArray):seq a b=(a.data.toList == b.data.toList):=by
 unfold seq
 rw [ByteArray.toList_eq,ByteArray.toList_eq]
theorem Joo:Near exR:=by
 refine ⟨by decide,by decide,by decide,by decide,by decide,by decide,by decide,?_,?_,?_,?_,?_,?_⟩ <;> decide
theorem Jm3:Ja4 Ji7=true∧Ja4 Jff=true∧Ja4 tBox=true∧Ja4 Jis=true∧Ja4 tKey=true∧Ja4 Jgp=true∧Ja4 Jgk=true:=by
 simp only [Ja4,Jbo,wordL,List.any_cons,List.any_nil,Jhh]
 decide
theorem Jgb:checkE exR=0:=by
 obtain ⟨h1,h2,h3,h4,h5,h6,h7⟩:=Jm3
 simp only [Ji7,Jff,tBox,Jis,tKey,Jgp,Jgk] at h1 h2 h3 h4 h5 h6 h7
 simp only [checkE,Jde,Jek,Jdb,Jdc,Jc2,Jcz,exR,of0,nil0,List.length_cons,List.length_nil,Jay,plO,thO,prO,wyO,acO,auO,actB,act2,newB]
 simp [manyB,nth,h1,h2,h3,h4,h5,h6,h7,Jhh,Ji7,Jff,tBox,Jis,tKey,Jgp,Jgk,thB,placeB,whO,Jen,putB,glO,or0,act3,act4,act5,ascB,allI,IntKind.wrap,IntKind.bits,IntKind.signed]
theorem Jno:BeginV exR=(0,([0,0],[0],[0])):=by
 unfold BeginV SettleV stL
 rw [Jgb]
 decide
theorem Jox:StepV exR ([0,0],[0],[0]) ⟨0,4,0⟩=(0,([1,0],[0],[0])):=by
 unfold StepV stL
 rw [Jgb]
 decide
theorem Jmt:LegalV exR ([1,0],[0],[0])=(0,[⟨0,2,0⟩,⟨0,4,0⟩]):=by
 unfold LegalV stL
 rw [Jgb]
 decide
end Go.Proofs.YtdpbapffdmahnaaGreatDoor
namespace Go.Proofs.YtdpbapffdmahnaaGreatDoor
set_option linter.unusedVariables false
set_option linter.unusedSimpArgs false
open Go.RowKit Go.Proofs
section
variable {P:Program} {l:List Value} {d:Option Tmp} {ty:TypeId} {ps:String} {af:Array Edge} {g:Option (Nat × Bool)} {C:World→Prop}
theorem Jar {T T':TypeId} {x y:Operand} {a b:ByteArray} (hx:evo l x=some (.string a)) (hy:evo l y=some (.string b)) (h:a.size+b.size≤9223372036854775807) :
  Det P C ⟨d,.binOp .add T x y T',ty,ps,af,g⟩ l (.string (a++b)):=fun u _=>by
 (replace hx:=Jah hx; replace hy:=Jah hy)
 have h2:¬ (9223372036854775807 < ((a.size:Nat):Int)+(b.size:Nat)):=by omega
 simp [execOp,Jai,hx,hy,eqGuard,binOp,Op.stringOp,h2]
theorem Ji8 {T:TypeId} {x y z:Operand} {a:ByteArray} {i j:Int} (hT:P.underlying T=some .string) (hx:evo l x=some (.string a)) (hy:evo l y=some (.int .i64 i)) (hz:evo l z=some (.int .i64 j))
  (h:0≤i∧i≤j∧j≤a.size):Det P C ⟨d,.slice T x (some y) (some z) none,ty,ps,af,g⟩ l (.string (a.extract i.toNat j.toNat)):=fun u _=>by
 (replace hx:=Jah hx; replace hy:=Jah hy; replace hz:=Jah hz)
 have e1:(0≤j∧j≤(a.size:Int)):=by omega
 have e2:0≤i∧i≤max j 0:=by omega
 simp [execOp,Jai,hx,hy,hz,Instr.sliceAt,Instr.slice,Instr.sliceBounds,Instr.sliceBound,asIntOf,run_underlying hT,e1,e2]
theorem Jh1 {T:TypeId} {x y:Operand} {a:ByteArray} {i:Int} (hT:P.underlying T=some .string) (hx:evo l x=some (.string a)) (hy:evo l y=some (.int .i64 i))
  (h:0≤i∧i≤a.size):Det P C ⟨d,.slice T x (some y) none none,ty,ps,af,g⟩ l (.string (a.extract i.toNat a.size)):=fun u _=>by
 (replace hx:=Jah hx; replace hy:=Jah hy)
 simp [execOp,Jai,hx,hy,Instr.sliceAt,Instr.slice,Instr.sliceBounds,Instr.sliceBound,asIntOf,run_underlying hT,h.1,h.2]
end
def digB (n:Int):ByteArray:=⟨(Lib.decDigits n.toNat).toArray⟩
def whP (r:Room) (v:Int):ByteArray:=if 0≤v then nth r.pls.l v else if v ≤ -2 then digB (-2 - v) else ⟨#[103,111,110,101]⟩
def pcT (r:Room) (x:P3) (i:Int):ByteArray:=(nth r.ths.l i).nm++(⟨#[61]⟩:ByteArray)++digB (nth x.1 i)
def pcP (r:Room) (x:P3) (i:Int):ByteArray:=(nth r.prs.l i).nm++(⟨#[64]⟩:ByteArray)++whP r (nth x.2.1 i)
def pcL (r:Room) (x:P3) (i:Int):ByteArray:=digB i++(⟨#[64]⟩:ByteArray)++nth r.pls.l (nth x.2.2 i)
def pcs (r:Room) (x:P3):List ByteArray:=(Jaw r.ths.l.length).map (pcT r x)++(Jaw r.prs.l.length).map (pcP r x)++(Jaw x.2.2.length).map (pcL r x)
def jnB (xs:List ByteArray):ByteArray:=⟨(Lib.join (xs.map (·.data.toList)) [32]).toArray⟩
def catB (xs:List ByteArray):ByteArray:=xs.foldl (fun a p=>a++(⟨#[32]⟩:ByteArray)++p) ⟨#[]⟩
theorem Jei {xs:List ByteArray} {p:ByteArray}:catB (xs++[p])=catB xs++(⟨#[32]⟩:ByteArray)++p:=by simp [catB]
theorem Jhu:∀ (xs:List ByteArray) (a:ByteArray),(xs.foldl (fun a p=>a++(⟨#[32]⟩:ByteArray)++p) a).data.toList=a.data.toList++Lib.joinTail [32] (xs.map (·.data.toList))
 | [],a=>by simp [Lib.joinTail]
 | x::xs,a=>by
  rw [List.foldl_cons,Jhu xs]
  simp [Lib.joinTail,ByteArray.data_append,List.append_assoc]
theorem Jfo (xs:List ByteArray):(catB xs).data.toList=Lib.joinTail [32] (xs.map (·.data.toList)):=by
 unfold catB; rw [Jhu]; rfl
theorem Jnr {xs:List ByteArray} (h:0 < xs.length):(catB xs).extract 1 (catB xs).size=jnB xs:=by
 cases xs with
 | nil=>cases h
 | cons x r =>
  have e1:=Jfo (x::r)
  have e2:Lib.joinTail [32] ((x::r).map (·.data.toList))=32::Lib.join ((x::r).map (·.data.toList)) [32]:=by
   rw [List.map_cons,Lib.join_cons]; simp [Lib.joinTail]
  rw [e2] at e1
  apply ByteArray.ext
  apply Array.toList_inj.1
  show _=Lib.join ((x::r).map (·.data.toList)) [32]
  rw [ByteArray.data_extract,Array.toList_extract,e1]
  have e3:(catB (x::r)).size=(Lib.join ((x::r).map (·.data.toList)) [32]).length+1:=by
   rw [← ByteArray.size_data, ← Array.length_toList,e1,List.length_cons]
  rw [e3]
  simp
theorem Jkz {xs:List ByteArray} (h:0 < xs.length):1≤(catB xs).size:=by
 cases xs with
 | nil=>cases h
 | cons x r =>
  have e1:=Jfo (x::r)
  have e3:(catB (x::r)).size=(Lib.joinTail [32] ((x::r).map (·.data.toList))).length:=by
   rw [← ByteArray.size_data, ← Array.length_toList,e1]
  rw [e3]
  simp [Lib.joinTail]
def ShowV (r:Room) (x:P3):Int × ByteArray:=if stL r x=0 then (0,jnB (pcs r x)) else (stL r x,⟨#[]⟩)
structure Shown (r:Room) (x:P3):Prop where
 lt:x.1.length=r.ths.l.length
 lp:x.2.1.length=r.prs.l.length
 ll:1≤x.2.2.length∧x.2.2.length≤4
 th:∀ i:Int,0≤i→i < x.1.length→0≤nth x.1 i∧nth x.1 i < 10
 pr:∀ i:Int,0≤i→i < x.2.1.length→(0≤nth x.2.1 i∧nth x.2.1 i < r.pls.l.length)∨nth x.2.1 i = -1∨(-5≤nth x.2.1 i∧nth x.2.1 i ≤ -2)
 pl:∀ i:Int,0≤i→i < x.2.2.length→0≤nth x.2.2 i∧nth x.2.2 i < r.pls.l.length
theorem Jng {n:Int} (h : -9223372036854775808≤n∧n≤9223372036854775807):IntKind.i64.wrap n=n:=IntWalk.i64_in _ h
theorem Jot {r:Room} {x:Thing} (h:thB r x=true):2≤x.st∧x.st≤6:=by
 simp only [thB,Bool.and_eq_true,decide_eq_true_eq] at h
 omega
theorem Shown.of {r:Room} {x:P3} (hR:Ready r) (hI:StIn r x):Shown r x:=by
 have hl:=hI.ll
 have hp:=hR.ply
 refine ⟨hI.lt,hI.lp,by omega,fun i h0 h1=>?_,fun i h0 h1=>?_,fun i h0 h1=>?_⟩
 ·
  have h:=hI.th i h0 h1
  have h2:=Jot (hR.ths _ (Jad h0 (show i < (r.ths.l.length:Int) by rw [← hI.lt]; exact h1)))
  simp only [putB,Bool.and_eq_true,decide_eq_true_eq] at h
  rw [Jng (by omega)] at h
  omega
 ·
  have h:=hI.pr i h0 h1
  simp only [placeB,Bool.or_eq_true,Bool.and_eq_true,decide_eq_true_eq] at h
  omega
 have h:=hI.pl i h0 h1
 simp only [placeB,Bool.and_eq_true,decide_eq_true_eq] at h
 omega
theorem Jbp {n:Int} (h:0≤n∧n < 10):(digB n).size=1:=by
 rcases (show n=0∨n=1∨n=2∨n=3∨n=4∨n=5∨n=6∨n=7∨n=8∨n=9 by omega) with rfl | rfl | rfl | rfl | rfl | rfl | rfl | rfl | rfl | rfl <;> decide +kernel
section
variable {P:Program} {ro:Option Nat} {n0:Nat} {w0:World} {ds:List Deferred} {ops:Array Oper} {Q:Exit→Act→World→Prop} {L:List SA} {rest:List Oper} {l:List Value} {ty:TypeId} {ps:String} {af:Array Edge}
theorem WS.buildS1 {T e:TypeId} {by_ i:Nat} {x:Operand} {b:ByteArray} {zc:List Value} (hT:sl P T=some (e,1,by_)) (hz:zv P e=some zc) (hx:evo l x=some (.string b))
  {l':Value→List Value} (hl:∀ v,lset l i v=some (l' v)) (kk:∀ v,WS P ro n0 w0 ds ops Q (oT cStr e v [b]::L) rest (l' v)) :
  WS P ro n0 w0 ds ops Q L (⟨some i,.buildSlice T 1 #[(0,x)],ty,ps,af,none⟩::rest) l :=
 WS.buildSlice1 (pl:=[(0,x)]) (vs:=[.string b]) hT hz (by simp [Jah hx]) rfl (by decide) (fun v hv=>by simp at hv; subst hv; rfl) hl kk
end
theorem Jhx {w:World} {s:Sl ByteArray} (hk:SlT cStr w s) (hp:0 < s.l.length):∃ b o c,s.v = .slice (some ⟨b,o,none⟩) s.l.length c∧s.l.length≤c∧b < w.heap.size∧∀ (j:Nat) x,s.l[j]? = some x→w.cell? ⟨b,o+j,none⟩=some (.string x):=by
 obtain ⟨hl,p,cap,e,hc,h0 | ⟨b,o,rfl,h⟩⟩:=hk.sp
 ·
  omega
 have h1:∀ (j:Nat) x,s.l[j]? = some x→w.cell? ⟨b,o+j,none⟩=some (.string x):=fun j x hx=>by
  have hj:=(List.getElem?_eq_some_iff.1 hx).1
  have h2:=Jbv cStr (l:=s.l) (i:=(j:Int)) (by omega) (by omega) 0 (by decide)
  rw [show cStr.k=1 from rfl,Nat.mul_one,Nat.add_zero,show ((j:Int)).toNat=j by omega] at h2
  refine h j (.string x) ?_
  rw [h2]
  have e2:nth s.l (j:Int)=x:=by simp [nth,List.getD,hx]
  rw [e2]; rfl
 refine ⟨b,o,cap,e,hc.1,?_,h1⟩
 obtain ⟨x,hx⟩:∃ x,s.l[0]? = some x:=⟨s.l[0],List.getElem?_eq_getElem hp⟩
 exact World.block_lt_of_cell? w _ (h1 0 x hx)
theorem Jdv (sep:List UInt8):∀ (xs:List (List UInt8)) (n:Nat),(∀ x∈xs,x.length≤n)→(Lib.joinTail sep xs).length≤(n+sep.length) * xs.length
 | [],n,_=>by simp [Lib.joinTail]
 | x::xs,n,h=>by
  have h1:=Jdv sep xs n fun y hy=>h y (List.mem_cons_of_mem _ hy)
  have h2:=h x (List.mem_cons_self ..)
  have e:Lib.joinTail sep (x::xs)=sep++x++Lib.joinTail sep xs:=by simp [Lib.joinTail]
  rw [e]
  simp only [List.length_append,List.length_cons,Nat.mul_succ]
  omega
theorem Jlu {xs:List ByteArray} {n:Nat} (h:∀ x∈xs,x.size≤n):(Lib.join (xs.map (·.data.toList)) [32]).length≤(n+1) * xs.length:=by
 cases xs with
 | nil=>simp [Lib.join]
 | cons x r =>
  have h0:=Jdv [32] ((x::r).map (·.data.toList)) n (fun y hy=>by
   obtain ⟨z,hz,rfl⟩:=List.mem_map.1 hy
   simpa using h z hz)
  have e:Lib.joinTail [32] ((x::r).map (·.data.toList))=32::Lib.join ((x::r).map (·.data.toList)) [32]:=by
   rw [List.map_cons,Lib.join_cons]; simp [Lib.joinTail]
  rw [e] at h0
  simp only [List.length_cons,List.length_map,List.length_nil,Nat.zero_add] at h0 ⊢
  omega
theorem Jpe {r:Room} {x:P3} (hn:Near r) (h:Shown r x):(∀ p∈pcs r x,p.size≤1000)∧(pcs r x).length≤1000:=by
 have h1:=h.lt
 have h2:=h.lp
 have h3:=h.ll
 have n1:=hn.ths
 have n2:=hn.prs
 refine ⟨fun p hp=>?_,by simp only [pcs,Jaw,List.length_append,List.length_map,List.length_range]; omega⟩
 have mi:∀ {n:Nat} {i:Int},i∈Jaw n→0≤i∧i < n:=fun {n i} hi=>by
  simp only [Jaw,List.mem_map,List.mem_range] at hi
  obtain ⟨k,hk,rfl⟩:=hi
  omega
 simp only [pcs,List.mem_append,List.mem_map] at hp
 rcases hp with (⟨i,hi,rfl⟩ | ⟨i,hi,rfl⟩) | ⟨i,hi,rfl⟩
 ·
  obtain ⟨i0,i1⟩:=mi hi
  have hnm:=hn.th _ (Jad i0 i1)
  have hd:=h.th i i0 (by omega)
  have:=Jbp (n:=nth x.1 i) (by omega)
  simp only [pcT,ByteArray.size_append]
  have e:(⟨#[61]⟩:ByteArray).size=1:=rfl
  omega
 ·
  obtain ⟨i0,i1⟩:=mi hi
  have hnm:=(hn.pr _ (Jad i0 i1)).1
  have hd:=h.pr i i0 (by omega)
  have hw:(whP r (nth x.2.1 i)).size≤100:=by
   unfold whP
   split
   ·
    rename_i hv
    exact hn.pl _ (Jad hv (by omega))
   split
   ·
    rename_i hv
    have:=Jbp (n := -2 - nth x.2.1 i) (by omega)
    omega
   decide
  have e:(⟨#[64]⟩:ByteArray).size=1:=rfl
  simp only [pcP,ByteArray.size_append]
  omega
 obtain ⟨i0,i1⟩:=mi hi
 have hd:=h.pl i i0 i1
 have hpn:=hn.pl _ (Jad hd.1 hd.2)
 have:=Jbp (n:=i) (by omega)
 have e:(⟨#[64]⟩:ByteArray).size=1:=rfl
 simp only [pcL,ByteArray.size_append]
 omega
theorem Jms {r:Room} {x:P3} (h:Shown r x):0 < (pcs r x).length:=by
 have h3:=h.ll
 simp only [pcs,Jaw,List.length_append,List.length_map,List.length_range]; omega
end Go.Proofs.YtdpbapffdmahnaaGreatDoor
