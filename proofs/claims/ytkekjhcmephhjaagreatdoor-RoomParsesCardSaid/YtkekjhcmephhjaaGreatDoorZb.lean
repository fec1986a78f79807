/- Merged texts of this proof (walks and plain laws), printed by a program of the prover. -/
import Derived.Test.YtkekjhcmephhjaaGreatDoorZa
import Derived.DefersIn
import Derived.Recover
import Derived.Lib.ItoaLen
import Derived.Lib.Join
import Derived.Lib.SplitLaws
import Derived.Lib.SlTrimSet
import Derived.Lib.Atoi
import Derived.Lib.AtoiErrMem
import Derived.Lib.SlicesS
import Derived.Laws.StructEq
import Derived.ChangeKeysEq
import Derived.WideLaws
import Derived.MapKept
import Derived.Lib.IndexLaws
import Derived.ProofKit
import Derived.Deep.Slices
import Derived.Lib.SmallJoins
import Derived.MakeChecks
import Derived.ChangeVars
import Derived.LaidMore
import Derived.Lay
import Derived.LaidOnce
import Derived.SevenTiedAt
import Derived.Handed
import Derived.OpenShut
import Derived.Shelf.Vars
namespace Go.Proofs.YtkekjhcmephhjaaGreatDoor
set_option linter.unusedVariables false
set_option linter.unusedSimpArgs false
open Go.RowKit
structure Cel (α:Type) where
 k:Nat
 cells:α→List Value
 ok:World→α→Prop
 len:∀ a,(cells a).length=k
 ext:∀ (w u:World) (a:α),ok w a→Below w.heap.size w u→ok u a
 one:∀ (w:World) (a:α),ok w a→∀ v∈cells a,v.oneCell'=true
structure Sl (α:Type) where
 v:Value
 l:List α
instance {α:Type}:Inhabited (Sl α):=⟨⟨.slice none 0 0,[]⟩⟩
section
variable {α:Type} (C:Cel α)
def Ja9 (l:List α):List Value:=(l.map C.cells).flatten
theorem Jbu (l:List α):(Ja9 C l).length=l.length * C.k:=by
 unfold Ja9
 rw [Jld C.k _ (by intro x hx; obtain ⟨a,_,rfl⟩:=List.mem_map.1 hx; exact C.len a),List.length_map]
theorem Jf8 (l m:List α):Ja9 C (l++m)=Ja9 C l++Ja9 C m:=by simp [Ja9]
theorem Jiy (a:α):Ja9 C [a]=C.cells a:=by simp [Ja9]
theorem Jb8 [Inhabited α] {l:List α} {i:Int} (h0:0≤i) (h1:i < l.length) (j:Nat) (hj:j < C.k):(Ja9 C l)[i.toNat * C.k+j]? = (C.cells (nth l i))[j]?:=by
 have hc:i.toNat < l.length:=by omega
 unfold Ja9
 rw [Jqz C.k _ (by intro x hx; obtain ⟨a,_,rfl⟩:=List.mem_map.1 hx; exact C.len a) _ _ hj]
 simp [nth,List.getD,hc]
theorem Jmr {l:List α} (h:∀ a∈l,∀ v∈C.cells a,v.oneCell'=true):∀ v∈Ja9 C l,v.oneCell'=true:=fun v hv=>by
 unfold Ja9 at hv
 rw [List.mem_flatten] at hv
 obtain ⟨x,hx,hv⟩:=hv
 obtain ⟨a,ha,rfl⟩:=List.mem_map.1 hx
 exact h a ha v hv
structure SlT (w:World) (s:Sl α):Prop where
 sp:SlC w s.v s.l.length C.k (Ja9 C s.l)
 el:∀ a∈s.l,C.ok w a
end
theorem Jm5 {α:Type} (C:Cel α) (l:List α) (n:Nat):Ja9 C (l.take n)=(Ja9 C l).take (n * C.k):=by
 induction l generalizing n with
 | nil=>simp [Ja9]
 | cons a l ih =>
  cases n with
  | zero=>simp [Ja9]
  | succ n =>
   have h:=C.len a
   have:=ih n
   simp only [Ja9,List.map_cons,List.flatten_cons,List.take_succ_cons] at this ⊢
   rw [this,List.take_append,h,Nat.succ_mul,List.take_of_length_le (l:=C.cells a) (by omega)]
   congr 2; omega
theorem Jnu {α:Type} (C:Cel α) (l:List α) (n:Nat):Ja9 C (l.drop n)=(Ja9 C l).drop (n * C.k):=by
 induction l generalizing n with
 | nil=>simp [Ja9]
 | cons a l ih =>
  cases n with
  | zero=>simp [Ja9]
  | succ n =>
   have h:=C.len a
   have:=ih n
   simp only [Ja9,List.map_cons,List.flatten_cons,List.drop_succ_cons] at this ⊢
   rw [this,List.drop_append,h,Nat.succ_mul,List.drop_of_length_le (l:=C.cells a) (by omega),List.nil_append]
   congr 1; omega
section
variable {α:Type} {C:Cel α} {w u:World} {s:Sl α}
theorem SlT.ext (h:SlT C w s) (hb:Below w.heap.size w u):SlT C u s:=⟨h.sp.ext hb,fun a ha=>C.ext _ _ a (h.el a ha) hb⟩
theorem SlT.st {w0:World} {L:List SA} (h:SlT C w0 s) (hu:St w0.heap.size w0 L u):SlT C u s:=h.ext hu.below
theorem SlT.le (h:SlT C w s):s.l.length≤9223372036854775807:=h.sp.le
theorem SlT.one (h:SlT C w s):∀ v∈Ja9 C s.l,v.oneCell'=true:=Jmr C fun a ha=>C.one w a (h.el a ha)
theorem SlT.at [Inhabited α] (h:SlT C w s) {i:Int} (h0:0≤i) (h1:i < s.l.length):C.ok w (nth s.l i):=h.el _ (Jap h0 h1)
def Sl.cut {α:Type} (k:Nat) (s:Sl α) (lo hi:Nat):Sl α:=⟨sub2 k s.v lo hi,(s.l.drop lo).take (hi - lo)⟩
theorem SlT.cut (h:SlT C w s) {lo hi:Nat} (h0:lo≤hi) (h1:hi≤s.l.length):SlT C w (s.cut C.k lo hi):=by
 have h2:=h.sp.sub2 h0 h1
 refine ⟨?_,fun a ha=>h.el a (List.mem_of_mem_drop (List.mem_of_mem_take ha))⟩
 unfold Sl.cut
 simp only
 rw [Jm5,Jnu]
 rwa [show ((s.l.drop lo).take (hi - lo)).length=hi - lo by simp; omega]
theorem SlT.nil (C:Cel α) (w:World):SlT C w ⟨.slice none 0 0,[]⟩:=⟨⟨by simp [Ja9],none,0,rfl,⟨Nat.le_refl 0,by decide⟩,.inl rfl⟩,fun a ha=>by cases ha⟩
end
def cSl {α:Type} (C:Cel α):Cel (Sl α) where
 k:=1
 cells s:=[s.v]
 ok:=SlT C
 len _:=rfl
 ext _ _ _ h hb:=h.ext hb
 one w s h v hv:=by
  simp at hv
  subst hv
  obtain ⟨_,p,cap,e,_⟩:=h.sp
  rw [e]; rfl
def cInt:Cel Int:=⟨1,fun x=>[.int .i64 x],fun _ _=>True,fun _=>rfl,fun _ _ _ _ _=>trivial,fun _ _ _ v hv=>by simp at hv; subst hv; rfl⟩
def Jz1:Cel Bool:=⟨1,fun x=>[.bool x],fun _ _=>True,fun _=>rfl,fun _ _ _ _ _=>trivial,fun _ _ _ v hv=>by simp at hv; subst hv; rfl⟩
def cStr:Cel ByteArray:=⟨1,fun x=>[.string x],fun _ _=>True,fun _=>rfl,fun _ _ _ _ _=>trivial,fun _ _ _ v hv=>by simp at hv; subst hv; rfl⟩
theorem Jjb (xs:List Int):Ja9 cInt xs=xs.map (Value.int .i64):=by
 unfold Ja9
 induction xs with
 | nil=>rfl
 | cons x xs ih=>rw [List.map_cons,List.flatten_cons,ih]; rfl
theorem SlT.ints {w:World} {s:Sl Int} (h:SlT cInt w s):SlI w s.v s.l:=by
 have:=h.sp
 rw [Jjb] at this
 exact this
theorem SlI.tree {w:World} {v:Value} {xs:List Int} (h:SlI w v xs):SlT cInt w ⟨v,xs⟩:=⟨by rw [Jjb]; exact h,fun _ _=>trivial⟩
section
variable {P:Program} {ro:Option Nat} {n0:Nat} {w0:World} {ds:List Deferred} {ops:Array Oper} {Q:Exit→Act→World→Prop} {L:List SA}
 {rest:List Oper} {l:List Value} {d:Option Tmp} {ty:TypeId} {ps:String} {af:Array Edge} {g:Option (Nat × Bool)} {D:World→Prop}
 {α:Type} {C:Cel α}
theorem Jc0 {T e:TypeId} {by_ k:Nat} {x y:Operand} {v:Value} {i:Int} {w:World} {s:Sl α} (hT:sl P T=some (e,k,by_)) (hx:evo l x=some v) (hy:evo l y=some (.int .i64 i))
  (hv:s.v=v) (hk:C.k=k) (hs:SlT C w s) (h0:0≤i) (h1:i < s.l.length):Det P D ⟨d,.indexAddr T x y,ty,ps,af,g⟩ l (.pointer (some (sla v (i.toNat * k)))):=by
 subst hv
 exact Jfc hT hx hy hs.sp h0 h1
theorem Jdn {T e:TypeId} {by_ k:Nat} {x y:Operand} {i:Int} {w:World} {s:Sl α} (hT:sl P T=some (e,k,by_)) (hx:evo l x=some s.v) (hy:evo l y=some (.int .i64 i))
  (hs:SlT C w s) (hk:C.k=k) (h0:0≤i) (h1:i < s.l.length):Det P D ⟨d,.indexAddr T x y,ty,ps,af,g⟩ l (.pointer (some (sla s.v (i.toNat * k)))):=Jc0 hT hx hy rfl hk hs h0 h1
theorem Jsz {T e:TypeId} {a b:Nat} {x:Operand} {w:World} {s:Sl α} (hT:sl P T=some (e,a,b)) (hx:evo l x=some s.v) (hs:SlT C w s) :
  Det P D ⟨d,.call ⟨.builtin .len, #[x], #[T]⟩,ty,ps,af,g⟩ l (.int .i64 s.l.length):=Jft hT hx hs.sp
variable [Inhabited α]
theorem Jvv {T:TypeId} {k:Nat} {x:Operand} {v:Value} {s:Sl α} {i:Int} {cs:List Value} (hx:evo l x=some (.pointer (some (sla v (i.toNat * k))))) (hv:s.v=v) (hk:C.k=k) (hs:SlT C w0 s) (h:0≤i∧i < s.l.length)
  (hc:C.cells (nth s.l i)=cs) (hT:tk P T=some (true,k)):Det P (St w0.heap.size w0 L) ⟨d,.load T x,ty,ps,af,g⟩ l (.agg cs.toArray):=by
 subst hv; subst hk; subst hc
 refine Jfe hx (fun _ hu=>hs.sp.st hu) (fun j y hy=>?_) (by rw [C.len]; exact hT)
 have hj:j < C.k:=by have:=(List.getElem?_eq_some_iff.1 hy).1; rwa [C.len] at this
 rw [Jb8 C h.1 h.2 j hj]; exact hy
theorem Jej {T:TypeId} {k z j:Nat} {x:Operand} {v y:Value} {s:Sl α} {i:Int} (hx:evo l x=some (.pointer (some (sla v (i.toNat * k+j))))) (hv:s.v=v) (hk:C.k=k) (hs:SlT C w0 s) (h:0≤i∧i < s.l.length) (hj:j < k)
  (hc:(C.cells (nth s.l i))[j]? = some y) (hT:tk P T=some (false,z)):Det P (St w0.heap.size w0 L) ⟨d,.load T x,ty,ps,af,g⟩ l y:=by
 subst hv; subst hk
 exact Jed hx (fun _ hu=>hs.sp.st hu) (by rw [Jb8 C h.1 h.2 j hj]; exact hc) hT
theorem Jid {T:TypeId} {z:Nat} {x:Operand} {v y:Value} {s:Sl α} {i:Int} (hx:evo l x=some (.pointer (some (sla v (i.toNat * 1))))) (hv:s.v=v) (hk:C.k=1) (hs:SlT C w0 s) (h:0≤i∧i < s.l.length)
  (hc:(C.cells (nth s.l i))[0]? = some y) (hT:tk P T=some (false,z)):Det P (St w0.heap.size w0 L) ⟨d,.load T x,ty,ps,af,g⟩ l y:=Jej (j:=0) hx hv hk hs h (by decide) hc hT
theorem Jvh {T:TypeId} {k:Nat} {x:Operand} {s:Sl α} {i:Int} {cs:List Value} (hx:evo l x=some (.pointer (some (sla s.v (i.toNat * k))))) (hs:SlT C w0 s) (hk:C.k=k) (h:0≤i∧i < s.l.length)
  (hc:C.cells (nth s.l i)=cs) (hT:tk P T=some (true,k)):Det P (St w0.heap.size w0 L) ⟨d,.load T x,ty,ps,af,g⟩ l (.agg cs.toArray):=Jvv hx rfl hk hs h hc hT
theorem Jre {T:TypeId} {z:Nat} (k j:Nat) {x:Operand} {y:Value} {s:Sl α} {i:Int} (hx:evo l x=some (.pointer (some ⟨slb s.v,slo s.v+i.toNat * k+j,none⟩))) (hs:SlT C w0 s) (hk:C.k=k) (h:0≤i∧i < s.l.length) (hj:j < k)
  (hc:(C.cells (nth s.l i))[j]? = some y) (hT:tk P T=some (false,z)):Det P (St w0.heap.size w0 L) ⟨d,.load T x,ty,ps,af,g⟩ l y:=Jej (by rw [hx,sla,Nat.add_assoc]) rfl hk hs h hj hc hT
theorem Jrv {T:TypeId} {z:Nat} {x:Operand} {y:Value} {s:Sl α} {i:Int} (hx:evo l x=some (.pointer (some (sla s.v (i.toNat * 1))))) (hs:SlT C w0 s) (hk:C.k=1) (h:0≤i∧i < s.l.length)
  (hc:(C.cells (nth s.l i))[0]? = some y) (hT:tk P T=some (false,z)):Det P (St w0.heap.size w0 L) ⟨d,.load T x,ty,ps,af,g⟩ l y:=Jid hx rfl hk hs h hc hT
end
section
variable {n0:Nat} {w0:World} {L:List SA} {α:Type}
def roT (C:Cel α) (s:Sl α):SA:=roS fun u=>SlT C u s
theorem Jlg {P:Program} {l:List Value} {d:Option Tmp} {ty:TypeId} {ps:String} {af:Array Edge} {g:Option (Nat × Bool)} [Inhabited α] {C:Cel α} {T:TypeId} {k z j jj:Nat} {x:Operand} {v y:Value} {s:Sl α} {i:Int}
  (hj':L[jj]? = some (roT C s)) (hx:evo l x=some (.pointer (some (sla v (i.toNat * k+j))))) (hv:s.v=v) (hk:C.k=k) (h:0≤i∧i < s.l.length) (hj:j < k)
  (hc:(C.cells (nth s.l i))[j]? = some y) (hT:tk P T=some (false,z)):Det P (St n0 w0 L) ⟨d,.load T x,ty,ps,af,g⟩ l y:=by
 subst hv; subst hk
 exact Jed hx (fun _ hu=>(St.ro hj' hu).sp) (by rw [Jb8 C h.1 h.2 j hj]; exact hc) hT
theorem Jlf {P:Program} {l:List Value} {d:Option Tmp} {ty:TypeId} {ps:String} {af:Array Edge} {g:Option (Nat × Bool)} [Inhabited α] {C:Cel α} {T:TypeId} {z jj:Nat} {x:Operand} {v y:Value} {s:Sl α} {i:Int}
  (hj':L[jj]? = some (roT C s)) (hx:evo l x=some (.pointer (some (sla v (i.toNat * 1))))) (hv:s.v=v) (hk:C.k=1) (h:0≤i∧i < s.l.length)
  (hc:(C.cells (nth s.l i))[0]? = some y) (hT:tk P T=some (false,z)):Det P (St n0 w0 L) ⟨d,.load T x,ty,ps,af,g⟩ l y:=Jlg (j:=0) hj' hx hv hk h (by decide) hc hT
theorem Js2 {P:Program} {l:List Value} {d:Option Tmp} {ty:TypeId} {ps:String} {af:Array Edge} {g:Option (Nat × Bool)} [Inhabited α] {C:Cel α} {T:TypeId} {z jj:Nat} (k j:Nat) {x:Operand} {y:Value} {s:Sl α} {i:Int}
  (hj':L[jj]? = some (roT C s)) (hx:evo l x=some (.pointer (some ⟨slb s.v,slo s.v+i.toNat * k+j,none⟩))) (hk:C.k=k) (h:0≤i∧i < s.l.length) (hj:j < k)
  (hc:(C.cells (nth s.l i))[j]? = some y) (hT:tk P T=some (false,z)):Det P (St n0 w0 L) ⟨d,.load T x,ty,ps,af,g⟩ l y:=Jlg hj' (by rw [hx,sla,Nat.add_assoc]) rfl hk h hj hc hT
theorem Jsu {P:Program} {l:List Value} {d:Option Tmp} {ty:TypeId} {ps:String} {af:Array Edge} {g:Option (Nat × Bool)} [Inhabited α] {C:Cel α} {T:TypeId} {k jj:Nat} {x:Operand} {s:Sl α} {i:Int} {cs:List Value}
  (hj':L[jj]? = some (roT C s)) (hx:evo l x=some (.pointer (some (sla s.v (i.toNat * k))))) (hk:C.k=k) (h:0≤i∧i < s.l.length)
  (hc:C.cells (nth s.l i)=cs) (hT:tk P T=some (true,k)):Det P (St n0 w0 L) ⟨d,.load T x,ty,ps,af,g⟩ l (.agg cs.toArray):=by
 subst hk; subst hc
 refine Jfe hx (fun _ hu=>(St.ro hj' hu).sp) (fun j y hy=>?_) (by rw [C.len]; exact hT)
 have hj:j < C.k:=by have:=(List.getElem?_eq_some_iff.1 hy).1; rwa [C.len] at this
 rw [Jb8 C h.1 h.2 j hj]; exact hy
theorem St.roAnd {p q:World→Prop} {u:World} (h:St n0 w0 (roS p::roS q::L) u):St n0 w0 (roS (fun u=>p u∧q u)::L) u:=by
 obtain ⟨h1,h2,T,h3,h4,T',h5,h6,h7⟩:=h
 refine ⟨h1,h2,fun k=>T k∨T' k,fun k hk=>hk.elim (h3 k) fun h=>(h5 k h).1,⟨fun u' hk=>⟨h4.1 u' fun k hS=>hk k (.inl hS),h6.1 u' fun k hS=>hk k (.inr hS)⟩,fun k hS=>hS.elim (h4.2 k) (h6.2 k)⟩,?_⟩
 exact h7.sup fun k hk=>⟨hk.1.1,fun h=>h.elim hk.1.2 hk.2⟩
end
def seq (a b:ByteArray):Bool:=a.toList == b.toList
theorem Jfx (a:ByteArray):seq a a=true:=by simp [seq]
theorem Jh4 (a b:ByteArray):seq a b=seq b a:=by unfold seq; exact BEq.comm
def byt (s:ByteArray) (i:Int):Int:=match s[i.toNat]? with | some b=>b.toNat | none=>0
section
variable {P:Program} {l:List Value} {d:Option Tmp} {ty:TypeId} {ps:String} {af:Array Edge} {g:Option (Nat × Bool)} {C:World→Prop}
theorem Jav {T T':TypeId} {x y:Operand} {a b:ByteArray} (hx:evo l x=some (.string a)) (hy:evo l y=some (.string b)) :
  Det P C ⟨d,.binOp .eql T x y T',ty,ps,af,g⟩ l (.bool (seq a b)):=fun u _=>by
 (replace hx:=Jam hx; replace hy:=Jam hy)
 simp [execOp,Jan,hx,hy,eqGuard,binOp,Op.stringOp,seq]
theorem Jbr {T T':TypeId} {x y:Operand} {a b:ByteArray} (hx:evo l x=some (.string a)) (hy:evo l y=some (.string b)) :
  Det P C ⟨d,.binOp .neq T x y T',ty,ps,af,g⟩ l (.bool (!seq a b)):=fun u _=>by
 (replace hx:=Jam hx; replace hy:=Jam hy)
 simp [execOp,Jan,hx,hy,eqGuard,binOp,Op.stringOp,seq]
theorem Jau {T:TypeId} {x:Operand} {a:ByteArray} (hT:P.underlying T=some .string) (hx:evo l x=some (.string a)) :
  Det P C ⟨d,.call ⟨.builtin .len, #[x], #[T]⟩,ty,ps,af,g⟩ l (.int .i64 a.size):=fun u _=>by
 (replace hx:=Jam hx)
 simp [execOp,Jan,hx,resolve,invoke,builtin,Builtin.len_,run_underlying hT,goInt]
theorem Jar {T:TypeId} {x y:Operand} {a:ByteArray} {i:Int} (hT:P.underlying T=some .string) (hx:evo l x=some (.string a)) (hy:evo l y=some (.int .i64 i)) (h0:0≤i) (h1:i < a.size) :
  Det P C ⟨d,.index T x y,ty,ps,af,g⟩ l (.int .u8 (byt a i)):=fun u _=>by
 (replace hx:=Jam hx; replace hy:=Jam hy)
 have hi:i.toNat < a.size:=by omega
 simp [execOp,Jan,hx,hy,Instr.index,asIntOf,run_underlying hT,h0,byt,hi]
end
structure Lit where
 t:Int
 s:Int
 nt:Bool
 deriving Inhabited,DecidableEq
structure Put where
 t:Int
 s:Int
 deriving Inhabited,DecidableEq
structure Thing where
 nm:ByteArray
 pl:Int
 st:Int
 sr:Int
 deriving Inhabited
structure Pro where
 nm:ByteArray
 pl:Int
 wh:Sl Lit
 deriving Inhabited
structure Way where
 a:Int
 b:Int
 wh:Sl Lit
 deriving Inhabited
structure Actn where
 nm:ByteArray
 pl:Int
 lk:Int
 us:Sl Int
 wh:Sl Lit
 se:Sl Put
 sp:Sl Int
 br:Sl Int
 deriving Inhabited
structure Auto where
 wh:Sl Lit
 t:Int
 s:Int
 deriving Inhabited
structure Room where
 pls:Sl ByteArray
 ths:Sl Thing
 prs:Sl Pro
 wys:Sl Way
 acs:Sl Actn
 aus:Sl Auto
 ply:Int
 gl:Sl Lit
 deriving Inhabited
structure Move where
 p:Int
 k:Int
 n:Int
 deriving Inhabited,DecidableEq
structure Stt where
 ths:Sl Int
 prs:Sl Int
 pls:Sl Int
 deriving Inhabited
theorem Sl.one {α:Type} {C:Cel α} {w:World} {s:Sl α} (h:SlT C w s):s.v.oneCell'=true:=(cSl C).one w s h s.v (by simp [cSl])
def cLit:Cel Lit:=⟨3,fun a=>[.int .i64 a.t,.int .i64 a.s,.bool a.nt],fun _ _=>True,fun _=>rfl,fun _ _ _ _ _=>trivial,fun _ _ _ v hv=>by simp at hv; rcases hv with rfl | rfl | rfl <;> rfl⟩
def cPut:Cel Put:=⟨2,fun a=>[.int .i64 a.t,.int .i64 a.s],fun _ _=>True,fun _=>rfl,fun _ _ _ _ _=>trivial,fun _ _ _ v hv=>by simp at hv; rcases hv with rfl | rfl <;> rfl⟩
def cMove:Cel Move:=⟨3,fun a=>[.int .i64 a.p,.int .i64 a.k,.int .i64 a.n],fun _ _=>True,fun _=>rfl,fun _ _ _ _ _=>trivial,fun _ _ _ v hv=>by simp at hv; rcases hv with rfl | rfl | rfl <;> rfl⟩
def cThing:Cel Thing:=⟨4,fun a=>[.string a.nm,.int .i64 a.pl,.int .i64 a.st,.int .i64 a.sr],fun _ _=>True,fun _=>rfl,fun _ _ _ _ _=>trivial,fun _ _ _ v hv=>by simp at hv; rcases hv with rfl | rfl | rfl | rfl <;> rfl⟩
def cPro:Cel Pro:=⟨3,fun a=>[.string a.nm,.int .i64 a.pl,a.wh.v],fun w a=>SlT cLit w a.wh,fun _=>rfl,fun _ _ _ h hb=>h.ext hb,fun _ _ h v hv=>by
 simp at hv; rcases hv with rfl | rfl | rfl
 ·
  rfl
 ·
  rfl
 exact Sl.one h⟩
def cWay:Cel Way:=⟨3,fun a=>[.int .i64 a.a,.int .i64 a.b,a.wh.v],fun w a=>SlT cLit w a.wh,fun _=>rfl,fun _ _ _ h hb=>h.ext hb,fun _ _ h v hv=>by
 simp at hv; rcases hv with rfl | rfl | rfl
 ·
  rfl
 ·
  rfl
 exact Sl.one h⟩
def cAuto:Cel Auto:=⟨3,fun a=>[a.wh.v,.int .i64 a.t,.int .i64 a.s],fun w a=>SlT cLit w a.wh,fun _=>rfl,fun _ _ _ h hb=>h.ext hb,fun _ _ h v hv=>by
 simp at hv; rcases hv with rfl | rfl | rfl
 ·
  exact Sl.one h
 ·
  rfl
 rfl⟩
structure ActOk (w:World) (a:Actn):Prop where
 us:SlT cInt w a.us
 wh:SlT cLit w a.wh
 se:SlT cPut w a.se
 sp:SlT cInt w a.sp
 br:SlT cInt w a.br
def cAct:Cel Actn:=⟨8,fun a=>[.string a.nm,.int .i64 a.pl,.int .i64 a.lk,a.us.v,a.wh.v,a.se.v,a.sp.v,a.br.v],ActOk,fun _=>rfl,fun _ _ _ h hb=>⟨h.us.ext hb,h.wh.ext hb,h.se.ext hb,h.sp.ext hb,h.br.ext hb⟩,fun _ _ h v hv=>by
 simp at hv; rcases hv with rfl | rfl | rfl | rfl | rfl | rfl | rfl | rfl
 ·
  rfl
 ·
  rfl
 ·
  rfl
 ·
  exact Sl.one h.us
 ·
  exact Sl.one h.wh
 ·
  exact Sl.one h.se
 ·
  exact Sl.one h.sp
 exact Sl.one h.br⟩
structure RoomOk (w:World) (r:Room):Prop where
 pls:SlT cStr w r.pls
 ths:SlT cThing w r.ths
 prs:SlT cPro w r.prs
 wys:SlT cWay w r.wys
 acs:SlT cAct w r.acs
 aus:SlT cAuto w r.aus
 gl:SlT cLit w r.gl
theorem RoomOk.ext {w u:World} {r:Room} (h:RoomOk w r) (hb:Below w.heap.size w u):RoomOk u r:=⟨h.pls.ext hb,h.ths.ext hb,h.prs.ext hb,h.wys.ext hb,h.acs.ext hb,h.aus.ext hb,h.gl.ext hb⟩
theorem RoomOk.st {w u:World} {L:List SA} {r:Room} (h:RoomOk w r) (hu:St w.heap.size w L u):RoomOk u r:=h.ext hu.below
def Room.cells (r:Room):List Value:=[r.pls.v,r.ths.v,r.prs.v,r.wys.v,r.acs.v,r.aus.v,.int .i64 r.ply,r.gl.v]
structure SttOk (w:World) (s:Stt):Prop where
 ths:SlT cInt w s.ths
 prs:SlT cInt w s.prs
 pls:SlT cInt w s.pls
theorem SttOk.ext {w u:World} {r:Stt} (h:SttOk w r) (hb:Below w.heap.size w u):SttOk u r:=⟨h.ths.ext hb,h.prs.ext hb,h.pls.ext hb⟩
theorem SttOk.st {w u:World} {L:List SA} {r:Stt} (h:SttOk w r) (hu:St w.heap.size w L u):SttOk u r:=h.ext hu.below
def Stt.cells (s:Stt):List Value:=[s.ths.v,s.prs.v,s.pls.v]
def Sl.e {α β:Type} (f:α→β) (s:Sl α):Sl β:=⟨.slice none 0 0,s.l.map f⟩
def Pro.e (p:Pro):Pro:={ p with wh:=p.wh.e id }
def Way.e (p:Way):Way:={ p with wh:=p.wh.e id }
def Auto.e (p:Auto):Auto:={ p with wh:=p.wh.e id }
def Actn.e (p:Actn):Actn:={ p with us:=p.us.e id,wh:=p.wh.e id,se:=p.se.e id,sp:=p.sp.e id,br:=p.br.e id }
def Room.e (r:Room):Room:=⟨r.pls.e id,r.ths.e id,r.prs.e Pro.e,r.wys.e Way.e,r.acs.e Actn.e,r.aus.e Auto.e,r.ply,r.gl.e id⟩
def Stt.e (s:Stt):Stt:=⟨s.ths.e id,s.prs.e id,s.pls.e id⟩
def wordL:List ByteArray:=[⟨#[97,116]⟩,⟨#[115,116,97,116,101,115]⟩,⟨#[115,116,97,114,116]⟩,⟨#[103,111,110,101]⟩,⟨#[105,102]⟩,⟨#[108,111,99,107]⟩,⟨#[119,105,116,104]⟩,⟨#[115,101,116,115]⟩,⟨#[115,112,101,110,100,115]⟩,⟨#[98,114,105,110,103,115]⟩]
def lowB (t:ByteArray):Bool:=(List.range t.size).all fun i=>decide (97≤byt t i) && decide (byt t i≤122)
def Jas (t:ByteArray):Bool:=lowB t && (!(wordL.any fun x=>seq x t) && !seq t ⟨#[]⟩)
def Jbe (t:ByteArray):Bool:=decide ((t.size:Int)≤12) && Jas t
def putB (ths:List Thing) (a b:Int):Bool:=(decide (0≤a) && decide (a≤ths.length - 1)) && (decide (0≤b) && decide (b≤IntKind.i64.wrap ((nth ths a).st - 1)))
def Jgc (ths:List Thing) (c:List Lit):Bool:=c.all (fun x=>putB ths x.t x.s) && decide ((c.length:Int)≤8)
def Jdo (ths:List Int) (c:List Lit):Bool:=c.all fun x => !(decide (nth ths x.t=x.s) == x.nt)
theorem Jdh {α:Type} [Inhabited α] {p:α→Bool} {l:List α} {i j:Int} (h0:0≤j) (h1:j < i) (h2:i≤l.length) (h:p (nth l j)=true):(l.take i.toNat).any p=true:=by
 refine List.any_eq_true.2 ⟨nth l j,?_,h⟩
 have hj:j.toNat < l.length:=by omega
 rw [List.mem_take_iff_getElem]
 exact ⟨j.toNat,by omega,by simp [nth,List.getD,hj]⟩
theorem Jdy {α:Type} [Inhabited α] {p:α→Bool} {l:List α} {i:Int} (h:∀ j:Int,0≤j→j < i→p (nth l j)=false):(l.take i.toNat).any p=false:=by
 rw [List.any_eq_false]
 intro x hx
 obtain ⟨k,hk,rfl⟩:=List.mem_take_iff_getElem.1 hx
 have:=h k (by omega) (by omega)
 have hk2:k < l.length:=by omega
 simpa [nth,List.getD,hk2] using this
theorem Jib {t:ByteArray} (h:∀ j:Int,0≤j→j < t.size→97≤byt t j∧byt t j≤122):lowB t=true:=by
 unfold lowB
 rw [List.all_eq_true]
 intro i hi
 have:=h i (by omega) (by simp at hi; omega)
 simp; omega
theorem Jk1 {t:ByteArray} {i:Int} (h0:0≤i) (h1:i < t.size) (h:¬ (97≤byt t i∧byt t i≤122)):lowB t=false:=by
 unfold lowB
 rw [List.all_eq_false]
 refine ⟨i.toNat,by simp; omega,?_⟩
 rw [show ((i.toNat:Nat):Int)=i by omega]
 simp; omega
structure Fill (k:Nat) (s n i m:Int) (xs:List Int):Prop where
 lo : -1≤i
 hi:i < k
 pos:0≤m∧m≤n
 ex:∃ T,xs=List.replicate (i+1).toNat 0++T∧digs k s n=digs (i+1).toNat s m++T
section
variable {k:Nat} {s n i m:Int} {xs:List Int}
theorem Fill.start {w:Int} (hk:(k:Int)=w) (hw:0≤w) (hn:0≤n):Fill k s n (w - 1) n (List.replicate w.toNat 0):=by
 subst hk
 refine ⟨by omega,by omega,⟨hn,Int.le_refl _⟩,[],?_,?_⟩ <;> simp
theorem Fill.len (h:Fill k s n i m xs):xs.length=k:=by
 obtain ⟨T,h1,h2⟩:=h.ex
 have:=congrArg List.length h2
 simp [Jdi] at this
 rw [h1]; simp; omega
theorem Fill.step (h:Fill k s n i m xs) (h0:0≤i) (hs:2≤s):Fill k s n (i - 1) (m / s) (xs.set i.toNat (m % s)):=by
 obtain ⟨T,h1,h2⟩:=h.ex
 have e:(i+1).toNat=i.toNat+1:=by omega
 have e2:(i - 1+1).toNat=i.toNat:=by omega
 have hp:=h.pos
 refine ⟨by omega,by have:=h.hi; omega,⟨Int.ediv_nonneg hp.1 (by omega),Int.le_trans (Int.ediv_le_self s hp.1) hp.2⟩,m % s::T,?_,?_⟩
 ·
  rw [h1,e,e2,List.replicate_succ',List.append_assoc]
  exact Jkq (by simp)
 rw [h2,e,e2,digs]; simp
theorem Fill.bd (h:Fill k s n i m xs) (h0:0≤i):0≤i∧i < xs.length:=by
 have:=h.len
 have:=h.hi
 omega
end
theorem Jnr {α:Type} {xs:List α} {m:Int} (h:(xs.length:Int)≤m):xs.take m.toNat=xs:=List.take_of_length_le (by omega)
theorem Jru {α:Type} [Inhabited α] {xs ys:List α} (hl:xs.length=ys.length) (h:∀ i:Int,0≤i→i < xs.length→nth xs i=nth ys i):xs=ys:=by
 apply List.ext_getElem hl
 intro i h1 h2
 have:=h i (by omega) (by omega)
 simpa [nth,List.getD,h1,h2] using this
def comN (y x:List Int):Int:=Jkw y x 10 - Jhm y x
def Jz3 (L:List (List Int)) (x:List Int) (r c:Int):Int:=((L.filter fun y=>decide (Jhm y x=r) && decide (comN y x=c)).length:Int)
def maxL:List Int→Int
 | []=>0
 | a::l=>max a (maxL l)
def cA (L:List (List Int)) (x y:List Int):Int:=Jz3 L x (Jhm y x) (comN y x)
def wN (L:List (List Int)) (x:List Int):Int:=maxL (L.map (cA L x))
def Jfq (L:List (List Int)):Nat→Nat
 | 0=>0
 | i+1=>if i=0 then 0 else if wN L (nth L i) < wN L (nth L (Jfq L i)) then i else Jfq L i
theorem Jl6 (L:List (List Int)):∀ i,0 < i→Jfq L i < i
 | 0,h=>by omega
 | i+1,_=>by
  simp only [Jfq]
  split
  ·
   omega
  split
  ·
   omega
  have:=Jl6 L i (by omega); omega
structure NextI (L:List (List Int)) (gs:List Value) (i:Int) (v:Value) (m:Int):Prop where
 lo:i=0→v = .slice none 0 0∧m=0
 hi:0 < i→v=nth gs (Jfq L i.toNat)∧m=wN L (nth L (Jfq L i.toNat))
def nilB:Value→Bool
 | .slice none _ _=>true
 | _=>false
theorem Jou {u:World} {v:Value} {xs:List Int} (h:SlI u v xs) (h0:0 < xs.length):nilB v=false∧∃ p n c,v = .slice p n c:=by
 obtain ⟨_,p,cap,rfl,_,h2⟩:=h
 rcases h2 with h2 | ⟨b,o,rfl,_⟩
 ·
  omega
 exact ⟨rfl,_,_,_,rfl⟩
section
variable {L:List (List Int)} {gs:List Value} {i m:Int} {v:Value}
theorem NextI.start:NextI L gs 0 (.slice none 0 0) 0:=⟨fun _=>⟨rfl,rfl⟩,fun h=>by omega⟩
theorem NextI.nil {u:World} {lv:Value} (h:NextI L gs i v m) (hs:SlL u lv L gs) (h0:0≤i) (h1:i≤L.length) (hp:∀ j:Int,0≤j→j < L.length→0 < (nth L j).length):nilB v=decide (i=0)∧∃ p n c,v = .slice p n c:=by
 by_cases hi:i=0
 ·
  obtain ⟨rfl,_⟩:=h.lo hi
  exact ⟨by simp [hi,nilB],_,_,_,rfl⟩
 obtain ⟨rfl,_⟩:=h.hi (by omega)
 have hb:=Jl6 L i.toNat (by omega)
 have:=Jou (hs.el (Jfq L i.toNat) (by omega) (by omega)) (hp _ (by omega) (by omega))
 exact ⟨by rw [this.1]; simp [hi],this.2⟩
theorem NextI.take (h:NextI L gs i v m) (h0:0≤i) (hc:nilB v=true∨wN L (nth L i) < m) (hn:nilB v=decide (i=0)):NextI L gs (i+1) (nth gs i) (wN L (nth L i)):=by
 have e:(i+1).toNat=i.toNat+1:=by omega
 have e2:((i.toNat:Nat):Int)=i:=by omega
 refine ⟨fun h=>by omega,fun _=>?_⟩
 have:Jfq L (i+1).toNat=i.toNat:=by
  rw [e,Jfq]
  by_cases hi:i.toNat=0
  ·
   rw [if_pos hi,hi]
  rw [if_neg hi,if_pos]
  have h2:=(h.hi (by omega)).2
  rw [hn] at hc
  rcases hc with hc | hc
  ·
   simp at hc; omega
  rw [e2, ← h2]; exact hc
 rw [this,e2]
 exact ⟨rfl,rfl⟩
theorem NextI.leave (h:NextI L gs i v m) (h0:0≤i) (hc:nilB v=false∧¬ wN L (nth L i) < m) (hn:nilB v=decide (i=0)):NextI L gs (i+1) v m:=by
 have e:(i+1).toNat=i.toNat+1:=by omega
 have e2:((i.toNat:Nat):Int)=i:=by omega
 have hi:¬ i.toNat=0:=by rw [hn] at hc; simp at hc; omega
 refine ⟨fun h=>by omega,fun _=>?_⟩
 have h2:=h.hi (by omega)
 have:Jfq L (i+1).toNat=Jfq L i.toNat:=by
  rw [e,Jfq,if_neg hi,if_neg]
  rw [e2, ← h2.2]; exact hc.2
 rw [this]
 exact h2
end
end Go.Proofs.YtkekjhcmephhjaaGreatDoor
namespace Go.Proofs.YtkekjhcmephhjaaGreatDoor
set_option linter.unusedVariables false
set_option linter.unusedSimpArgs false
open Go.RowKit Go.Proofs
section
variable {P:Program} {ro:Option Nat} {n0:Nat} {w0:World} {ds:List Deferred} {ops:Array Oper} {Q:Exit→Act→World→Prop} {L:List SA}
 {rest:List Oper} {l:List Value} {d:Option Tmp} {ty:TypeId} {ps:String} {af:Array Edge} {g:Option (Nat × Bool)} {C:World→Prop} {u:World}
theorem St.setRow {b j:Nat} {c c':List Value} {e:TypeId} (h:St n0 w0 L u) (hj:L[j]? = some (Go.Proofs.YtkekjhcmephhjaaGreatDoor.blk b c e)):St n0 w0 (L.set j (Go.Proofs.YtkekjhcmephhjaaGreatDoor.blk b c' e)) (u.setRow b c'.toArray):=by
 obtain ⟨S,hS,⟨hS1,hb⟩,hupd⟩:=h.upd hj
 refine hupd _ _ (fun k=>k=b) ⟨rfl,rfl,rfl,by simp,fun k hk=>setRow_other u b k _ (fun e=>by have:=hS b ((hS1 b).2 rfl); omega)⟩ (fun k hk o' hcell=>?_) ⟨fun k=>Iff.rfl,?_⟩ (fun k hk=>by subst hk; exact ⟨hS _ ((hS1 _).2 rfl),.inl ((hS1 _).2 rfl)⟩)
 ·
  rw [setRow_other u b k _ (fun e=>hk.2.2 ((hS1 k).2 e))]; exact hcell
 exact setRow_heap u b c.toArray c'.toArray e _ hb
theorem WS.build0 {T e:TypeId} {k by_ i:Nat} {zc:List Value} (hT:sl P T=some (e,k,by_)) (hz:zv P e=some zc)
  {l':Value→List Value} (hl:∀ v,lset l i v=some (l' v)) (kk:∀ v,WS P ro n0 w0 ds ops Q (osl e k v 0 []::L) rest (l' v)) :
  WS P ro n0 w0 ds ops Q L (⟨some i,.buildSlice T 0 #[],ty,ps,af,none⟩::rest) l:=by
 refine WS.world rfl rfl fun u hu=>?_
 obtain ⟨inf,hu1,hi,hs,hby⟩:=Jcc hT
 unfold zv at hz
 rw [hi] at hz
 cases hz2:inf.zero with
 | none=>simp [hz2] at hz
 | some zz =>
  refine ⟨.slice (some ⟨u.heap.size,0,none⟩) 0 0,u.alloc (.cells #[] e),?_,?_⟩
  ·
   simp [execOp,Instr.buildSlice,run_underlying hu1,sizeOf,typeInfo,hi,hs,newRow,Instr.fill,zeroValue,hz2]
   congr 2
   apply Array.ext'
   simp
  rw [Jaw,Jal (hl _)]
  refine kk _ _ (hu.cons (T:=fun k=>k=u.heap.size) ((Below.refl _ u).alloc (Nat.le_refl _) _) ⟨?_,by simp,.inr ⟨u.heap.size,0, #[],rfl,Nat.zero_le _,World.alloc_heap_new u _,Nat.le_refl _,?_,?_,?_⟩⟩ (fun k hk=>by omega))
  ·
   intro k; simp [Value.ownBlock]; exact eq_comm
  ·
   simp only [maxLen]; omega
  ·
   simp
  simp
theorem ClS.one {w:World} {v:Value} {cs:List Clue} {gs:List Value} (h:ClS w v cs gs):∀ g∈gs,g.oneCell'=true:=by
 intro g hg
 obtain ⟨i,h0,h1,rfl⟩:=Jbh hg
 obtain ⟨_,p,cap,h2,_⟩:=h.el i h0 (by have:=h.len; omega)
 rw [h2]; rfl
end
def Jf6 {α:Type} [Inhabited α] (cs:List α) (ns:List Nat):List α:=ns.map fun k=>cs.getD k default
section
variable {α:Type} [Inhabited α] {cs:List α} {ns ms:List Nat}
theorem Jik:(Jf6 cs ns).length=ns.length:=by simp [Jf6]
end
theorem ClS.pick {u:World} {v v':Value} {cs:List Clue} {gs:List Value} (h:ClS u v cs gs) {ns:List Nat} (hn:∀ k∈ns,k < cs.length) (hs:SlC u v' (Jf6 cs ns).length 7 (Jjs (Jf6 cs ns) (Jf6 gs ns))):ClS u v' (Jf6 cs ns) (Jf6 gs ns):=by
 refine ⟨hs,by simp [Jik],fun i h0 h1=>?_⟩
 rw [Jik] at h1
 have hlt:i.toNat < ns.length:=by omega
 have hk:=hn _ (List.getElem_mem hlt)
 have e1:nth (Jf6 cs ns) i=nth cs ((ns[i.toNat]:Nat):Int):=by simp [nth,List.getD,Jf6,hlt]
 have e2:nth (Jf6 gs ns) i=nth gs ((ns[i.toNat]:Nat):Int):=by simp [nth,List.getD,Jf6,hlt]
 rw [e1,e2]
 exact h.el _ (by omega) (by omega)
section
variable {P:Program} {ro:Option Nat} {n0:Nat} {w0:World} {ds:List Deferred} {ops:Array Oper} {Q:Exit→Act→World→Prop} {L:List SA}
 {rest:List Oper} {l:List Value} {d:Option Tmp} {ty:TypeId} {ps:String} {af:Array Edge} {g:Option (Nat × Bool)} {C:World→Prop}
theorem WS.callS {β:Type} {f:Operand} {args:List Operand} {ts:Array TypeId} {fn:FuncId} {cap:List Value} {vs:List Value} {v:β→Value} {L':β→List SA} {p:β→Prop} {i:Nat} {l':β→List Value}
  (hf:evo l f=some (.func (.func fn) #[] cap.toArray)) (hv:evs l args=some vs) (he:Ent P fn)
  (hc:∀ u,St n0 w0 L u→Calls P fn (vs++cap).toArray u (fun e u'=>∃ x,p x∧e = .returned (v x)∧St n0 w0 (L' x) u'))
  (hl:∀ x,lset l i (v x)=some (l' x)) (k:∀ x,p x→WS P ro n0 w0 ds ops Q (L' x) rest (l' x)) :
  WS P ro n0 w0 ds ops Q L (⟨some i,.call ⟨.value f,args.toArray,ts⟩,ty,ps,af,none⟩::rest) l:=by
 intro u hu
 unfold wpListIn
 rw [if_pos (by simp [Region.wanted])]
 refine ⟨fun _ _=>trivial,?_⟩
 rw [Ja3 rfl,Jbd]
 have hr:(execOp (ev l) ⟨some i,.call ⟨.value f,args.toArray,ts⟩,ty,ps,af,none⟩).run P u = .ok (.enter fn (vs++cap).toArray) u:=by
  have h1:∀ (args:Array Value) (w:World),Sem.run P (callFunc fn args) w = .ok (.enter fn args) w:=he
  replace hf:=Jam hf
  replace hv:=Jex hv
  subst hv
  simp [execOp,hf,resolve,invoke,Deferred.ofValue,h1]
 rw [hr]
 refine ⟨fun h=>by simp [FW] at h,Jby ((hc u hu).mono ?_)⟩
 rintro e u' ⟨x,hp,rfl,hs⟩
 show wpListIn (FW ro) 0 P ops Q rest ((Act.mk l.toArray ds).put (some i) (v x)) u'
 rw [Jaw,Jal (hl x)]
 exact k x hp u' hs
theorem Jco {x:Operand} {v:Value} {c b:Bool} (hg:c=true) (h:evo l x=some (cond (c && (b == true)) v undef)):evo l x=some (cond b v undef):=by subst hg; cases b <;> exact h
theorem Jlv {x:Operand} {v:Value} {c b:Bool} (hg:c=true) (h:evo l x=some (cond (c && (b == false)) v undef)):evo l x=some (cond (!b) v undef):=by subst hg; cases b <;> exact h
theorem SlI.none (u:World):SlI u (.slice none 0 0) []:=⟨by simp,Option.none,0,rfl,by simp,Or.inl rfl⟩
end
end Go.Proofs.YtkekjhcmephhjaaGreatDoor
namespace Go.Proofs.YtkekjhcmephhjaaGreatDoor
set_option linter.unusedVariables false
set_option linter.unusedSimpArgs false
open Go.RowKit
def allI (n:Nat) (p:Int→Bool):Bool:=(List.range n).all fun i=>p i
theorem Jc1 {n:Nat} {p:Int→Bool} (h:∀ j:Int,0≤j→j < n→p j=true):allI n p=true:=by
 unfold allI
 rw [List.all_eq_true]
 intro i hi
 exact h i (by omega) (by have:=List.mem_range.1 hi; omega)
theorem Jdz {n:Nat} {p:Int→Bool} {i:Int} (h0:0≤i) (h1:i < n) (h:p i=false):allI n p=false:=by
 unfold allI
 rw [List.all_eq_false]
 refine ⟨i.toNat,List.mem_range.2 (by omega),?_⟩
 rw [show ((i.toNat:Nat):Int)=i by omega,h]
 simp
theorem Jf3 {n:Nat} {p:Int→Bool} (h:allI n p=true) {i:Int} (h0:0≤i) (h1:i < n):p i=true:=by
 unfold allI at h
 rw [List.all_eq_true] at h
 have:=h i.toNat (List.mem_range.2 (by omega))
 rwa [show ((i.toNat:Nat):Int)=i by omega] at this
theorem Jf5 {α:Type} [Inhabited α] {l:List α} {p:α→Bool}:l.all p=allI l.length fun i=>p (nth l i):=by
 cases h:allI l.length fun i=>p (nth l i) with
 | true =>
  rw [List.all_eq_true]
  intro x hx
  obtain ⟨i,h0,h1,rfl⟩:=Jbh hx
  exact Jf3 h h0 h1
 | false =>
  cases h2:l.all p with
  | false=>rfl
  | true =>
   rw [List.all_eq_true] at h2
   rw [Jc1 (p:=fun i=>p (nth l i)) fun j h0 h1=>h2 _ (Jap h0 h1)] at h
   exact h
def Jbi (f:Int→Int):Nat→Int
 | 0=>0
 | n+1=>if Jbi f n=0 then f n else Jbi f n
theorem Jaq {f:Int→Int}:∀ {n:Nat},(∀ j:Int,0≤j→j < n→f j=0)→Jbi f n=0
 | 0,_=>rfl
 | n+1,h=>by
  have h1:=Jaq (f:=f) (n:=n) fun j h0 h1=>h j h0 (by omega)
  simp [Jbi,h1,h n (by omega) (by omega)]
theorem Jao {f:Int→Int} {i:Int}:∀ {n:Nat},0≤i→i < n→(∀ j:Int,0≤j→j < i→f j=0)→f i≠0→Jbi f n=f i
 | 0,h0,h1,_,_=>by omega
 | n+1,h0,h1,h,hi=>by
  by_cases hn:i=n
  ·
   subst hn
   rw [Jbi,if_pos (Jaq h)]
  have h2:=Jao (f:=f) (n:=n) h0 (by omega) h hi
  rw [Jbi,h2,if_neg hi]
theorem Jbk {f:Int→Int}:∀ {n:Nat},Jbi f n=0→∀ i:Int,0≤i→i < n→f i=0
 | 0,_,i,h0,h1=>by omega
 | n+1,h,i,h0,h1=>by
  rw [Jbi] at h
  split at h
  ·
   rename_i h2
   by_cases hn:i=n
   ·
    subst hn; exact h
   exact Jbk h2 i h0 (by omega)
  rename_i h2; exact (h2 h).elim
def or0 (a b:Int):Int:=if a=0 then b else a
theorem Jc6 {a b:Int} (h:a=0):or0 a b=b:=by simp [or0,h]
theorem Jcd {a b c:Int} (h:a=c) (hc:c≠0):or0 a b=c:=by subst h; simp [or0,hc]
theorem Jck {a b:Int} (h:or0 a b=0):a=0∧b=0:=by
 unfold or0 at h; split at h
 ·
  exact ⟨by assumption,h⟩
 rename_i h2; exact (h2 h).elim
structure Near (r:Room):Prop where
 pls:r.pls.l.length≤12
 ths:r.ths.l.length≤15
 prs:r.prs.l.length≤14
 wys:r.wys.l.length≤20
 acs:r.acs.l.length≤30
 aus:r.aus.l.length≤15
 gl:r.gl.l.length≤20
 pl:∀ x∈r.pls.l,x.size≤100
 th:∀ x∈r.ths.l,x.nm.size≤100
 pr:∀ x∈r.prs.l,x.nm.size≤100∧x.wh.l.length≤20
 wy:∀ x∈r.wys.l,x.wh.l.length≤20
 ac:∀ x∈r.acs.l,x.nm.size≤100∧x.wh.l.length≤20∧x.us.l.length≤20∧x.se.l.length≤20∧x.sp.l.length≤20∧x.br.l.length≤20
 au:∀ x∈r.aus.l,x.wh.l.length≤20
structure NmB (r:Room):Prop where
 pl:∀ x∈r.pls.l,x.size≤70000
 th:∀ x∈r.ths.l,x.nm.size≤70000
 pr:∀ x∈r.prs.l,x.nm.size≤70000
 ac:∀ x∈r.acs.l,x.nm.size≤70000∧True
theorem Near.nm {r:Room} (h:Near r):NmB r :=
 ⟨fun x hx=>Nat.le_trans (h.pl x hx) (by decide),fun x hx=>Nat.le_trans (h.th x hx) (by decide),fun x hx=>Nat.le_trans (h.pr x hx).1 (by decide),fun x hx=>⟨Nat.le_trans (h.ac x hx).1 (by decide),trivial⟩⟩
def placeB (r:Room) (n:Int):Bool:=decide (0≤n) && decide (n≤r.pls.l.length - 1)
def ascB (n:Nat) (l:List Int):Bool:=allI l.length fun i=>(decide (0≤nth l i) && decide (nth l i≤(n:Int) - 1)) && (decide (i=0) || decide (nth l (i - 1) < nth l i))
def newB {α:Type} [Inhabited α] (f:α→ByteArray) (l:List α) (i:Int):Bool := !((l.take i.toNat).any fun x=>seq (f x) (f (nth l i)))
def act2 (r:Room) (a:Actn):Bool:=Jbe a.nm && (placeB r a.pl && ((decide (-1≤a.lk) && decide (a.lk≤7)) && (ascB r.prs.l.length a.us.l && (ascB r.prs.l.length a.sp.l && (ascB r.prs.l.length a.br.l && decide ((a.se.l.length:Int)≤6))))))
def act3 (a:Actn):Bool:=allI a.sp.l.length fun k=>decide (nth a.sp.l k∈a.us.l)
def act4 (a:Actn):Bool:=allI a.br.l.length fun k => !decide (nth a.br.l k∈a.us.l)
def act5 (r:Room) (a:Actn):Bool:=allI a.se.l.length fun k=>putB r.ths.l (nth a.se.l k).t (nth a.se.l k).s && !((a.se.l.take k.toNat).any fun x=>decide (x.t=(nth a.se.l k).t))
def actB (r:Room) (i:Int):Bool:=newB Actn.nm r.acs.l i && (act2 r (nth r.acs.l i) && (act3 (nth r.acs.l i) && (act4 (nth r.acs.l i) && act5 r (nth r.acs.l i))))
def manyB (r:Room):Bool:=decide ((8:Int) < r.pls.l.length) || (decide ((12:Int) < r.ths.l.length) || (decide ((10:Int) < r.prs.l.length) || (decide ((16:Int) < r.wys.l.length) || (decide ((24:Int) < r.acs.l.length) || decide ((12:Int) < r.aus.l.length)))))
def plO (r:Room) (i:Int):Int:=if (Jbe (nth r.pls.l i) && newB id r.pls.l i)=true then 0 else 22
def thB (r:Room) (x:Thing):Bool:=placeB r x.pl && ((decide (2≤x.st) && decide (x.st≤6)) && (decide (0≤x.sr) && decide (x.sr≤x.st - 1)))
def thO (r:Room) (i:Int):Int:=if (Jbe (nth r.ths.l i).nm && (newB Thing.nm r.ths.l i && thB r (nth r.ths.l i)))=true then 0 else 21
def whO (r:Room) (c:List Lit):Int:=if Jgc r.ths.l c=true then 0 else 25
def prO (r:Room) (i:Int):Int:=or0 (if (Jbe (nth r.prs.l i).nm && (newB Pro.nm r.prs.l i && (decide ((nth r.prs.l i).pl = -1) || placeB r (nth r.prs.l i).pl)))=true then 0 else 24) (whO r (nth r.prs.l i).wh.l)
def wyO (r:Room) (i:Int):Int:=or0 (if (placeB r (nth r.wys.l i).a && (placeB r (nth r.wys.l i).b && !decide ((nth r.wys.l i).a=(nth r.wys.l i).b)))=true then 0 else 23) (whO r (nth r.wys.l i).wh.l)
def acO (r:Room) (i:Int):Int:=or0 (if actB r i=true then 0 else 26) (whO r (nth r.acs.l i).wh.l)
def auO (r:Room) (i:Int):Int:=or0 (if putB r.ths.l (nth r.aus.l i).t (nth r.aus.l i).s=true then 0 else 27) (whO r (nth r.aus.l i).wh.l)
def glO (r:Room):Int:=or0 (if (decide (1≤r.ply) && decide (r.ply≤4))=true then 0 else 1) (whO r r.gl.l)
def Jea (r:Room):Int:=or0 (Jbi (auO r) r.aus.l.length) (glO r)
def Jd7 (r:Room):Int:=or0 (Jbi (acO r) r.acs.l.length) (Jea r)
def Jep (r:Room):Int:=or0 (Jbi (wyO r) r.wys.l.length) (Jd7 r)
def Jec (r:Room):Int:=or0 (Jbi (prO r) r.prs.l.length) (Jep r)
def Jgi (r:Room):Int:=or0 (Jbi (thO r) r.ths.l.length) (Jec r)
def Jez (r:Room):Int:=or0 (Jbi (plO r) r.pls.l.length) (Jgi r)
def checkE (r:Room):Int:=if manyB r=true then 2 else if r.pls.l.length=0 then 22 else Jez r
theorem Jgb {r:Room} (h:checkE r=0):manyB r=false∧Jez r=0:=by
 unfold checkE at h
 split at h
 ·
  exact absurd h (by decide)
 rename_i h1
 split at h
 ·
  exact absurd h (by decide)
 exact ⟨by simpa using h1,h⟩
theorem Jpu {r:Room} (h:checkE r=0):glO r=0:=(Jck (Jck (Jck (Jck (Jck (Jck (Jgb h).2).2).2).2).2).2).2
theorem Jha {r:Room} (h:checkE r=0):1≤r.ply∧r.ply≤4:=by
 have h1:=(Jck (Jpu h)).1
 simp at h1
 omega
def Jgy (r:Room) (l:List Int) (i:Int):Int:=if putB r.ths.l i (nth l i)=true then 0 else 28
def Jg0 (r:Room) (l:List Int) (i:Int):Int:=if (placeB r (nth l i) || (decide (nth l i = -1) || (decide (-2 - r.ply+1≤nth l i) && decide (nth l i ≤ -2))))=true then 0 else 28
def Jgw (r:Room) (l:List Int) (i:Int):Int:=if placeB r (nth l i)=true then 0 else 28
def stE (r:Room) (ths prs pls:List Int):Int:=if (decide (ths.length=r.ths.l.length) && (decide (prs.length=r.prs.l.length) && decide ((pls.length:Int)=r.ply)))=true
 then or0 (Jbi (Jgy r ths) ths.length) (or0 (Jbi (Jg0 r prs) prs.length) (Jbi (Jgw r pls) pls.length)) else 28
def Jjc (r:Room) (z:Stt):Int:=or0 (checkE r) (stE r z.ths.l z.prs.l z.pls.l)
def upd (vs:Nat→Value) (i:Nat) (v:Value):Nat→Value:=fun j=>if j=i then v else vs j
theorem Jlx {vs:Nat→Value} {i:Nat} {v:Value}:upd vs i v i=v:=by simp [upd]
theorem Jpa {vs:Nat→Value} {i j:Nat} {v:Value} (h:j≠i):upd vs i v j=vs j:=by simp [upd,h]
def Jna {α:Type} (l:List α) (d:Nat→Nat) (f:Nat→α):List Nat→Option (List α)
 | []=>some l
 | i::is=>match Jna l d f is with
  | some r=>lset r (d i) (f i)
  | none=>none
theorem Jfd {α:Type} {l:List α} {d:Nat→Nat} {f:Nat→α}:∀ {is:List Nat} {r:List α},Jna l d f is=some r→is.Nodup→(∀ i∈is,∀ k∈is,d i=d k→i=k) →
  r.length=l.length∧(∀ k,(∀ i∈is,d i≠k)→r[k]? = l[k]?)∧∀ i∈is,d i < l.length→r[d i]? = some (f i)
 | [],r,h,_,_=>by simp [Jna] at h; subst h; exact ⟨rfl,fun _ _=>rfl,fun i hi=>by simp at hi⟩
 | i::is,r,h,hn,hd=>by
  unfold Jna at h
  split at h
  ·
   rename_i r1 h1
   have h2:=Jal h
   subst h2
   rw [List.nodup_cons] at hn
   obtain ⟨e1,e2,e3⟩:=Jfd h1 hn.2 fun a ha b hb e=>hd a (List.mem_cons_of_mem _ ha) b (List.mem_cons_of_mem _ hb) e
   refine ⟨by simpa using e1,fun k hk=>?_,fun j hj hlt=>?_⟩
   ·
    rw [List.getElem?_set_ne (hk i List.mem_cons_self)]
    exact e2 k fun a ha=>hk a (List.mem_cons_of_mem _ ha)
   by_cases hji:j=i
   ·
    subst hji
    rw [List.getElem?_set_self (by omega)]
   rcases List.mem_cons.1 hj with hj' | hj'
   ·
    exact (hji hj').elim
   rw [List.getElem?_set_ne (fun e=>hji (hd i List.mem_cons_self j hj e).symm)]
   exact e3 j hj' hlt
  cases h
def live (is:List Nat) (R:Nat→Value→List SA) (vs:Nat→Value) (p:Nat→Bool):List SA:=is.flatMap fun j=>if p j=true then R j (vs j) else []
theorem Jbz {is:List Nat} {R:Nat→Value→List SA} {vs vs':Nat→Value} {p p':Nat→Bool} (h:∀ j∈is,p j=p' j∧(p j=true→vs j=vs' j)):live is R vs p=live is R vs' p':=by
 induction is with
 | nil=>rfl
 | cons a is ih =>
  have h1:=h a List.mem_cons_self
  have h2:=ih fun j hj=>h j (List.mem_cons_of_mem _ hj)
  simp only [live,List.flatMap_cons] at h2 ⊢
  rw [h2, ← h1.1]
  congr 1
  split
  ·
   rename_i hp; rw [h1.2 hp]
  rfl
theorem Jg6 (is:List Nat) (R:Nat→Value→List SA) (vs:Nat→Value) (p q:Nat→Bool):(live is R vs p).Perm (live is R vs (fun j=>p j && q j)++live is R vs (fun j=>p j && !q j)):=by
 induction is with
 | nil=>exact List.Perm.refl _
 | cons a is ih =>
  simp only [live,List.flatMap_cons] at ih ⊢
  by_cases hp:p a=true
  ·
   by_cases hq:q a=true
   ·
    simpa [hp,hq,List.append_assoc] using List.Perm.append_left (R a (vs a)) ih
   simp only [hp,hq,if_true,Bool.and_false,Bool.false_eq_true,if_false,List.nil_append,Bool.true_and,Bool.not_false]
   refine (List.Perm.append_left _ ih).trans ?_
   rw [← List.append_assoc, ← List.append_assoc]
   exact List.Perm.append_right _ List.perm_append_comm
  simpa [hp] using ih
theorem Jia {R:Nat→Value→List SA} {vs:Nat→Value}:∀ {is:List Nat},live is R vs (fun _=>false)=[]
 | []=>rfl
 | a::is=>by
  have:=Jia (R:=R) (vs:=vs) (is:=is)
  simp only [live,List.flatMap_cons] at this ⊢
  rw [this]; simp
theorem Jhu {R:Nat→Value→List SA} {vs:Nat→Value} {c:Nat}:∀ {is:List Nat},is.Nodup→c∈is→live is R vs (fun j=>decide (j=c))=R c (vs c)
 | [],_,h=>by simp at h
 | a::is,hn,h=>by
  rw [List.nodup_cons] at hn
  simp only [live,List.flatMap_cons]
  by_cases hac:a=c
  ·
   subst hac
   have:live is R vs (fun j=>decide (j=a))=live is R vs fun _=>false:=Jbz fun j hj=>⟨by simp; rintro rfl; exact hn.1 hj,fun _=>rfl⟩
   simp only [live] at this
   rw [this]
   simp
  have hc:c∈is:=by rcases List.mem_cons.1 h with e | e; exact (hac e.symm).elim; exact e
  have:=Jhu (R:=R) (vs:=vs) hn.2 hc
  simp only [live] at this
  rw [this]
  simp [hac]
theorem Jma {p:Nat→Bool} {i:Nat}:∀ {is:List Nat},is.Nodup→i∈is→p i=true→(is.filter p).length=(is.filter fun k=>p k && !decide (k=i)).length+1
 | [],_,h,_=>by simp at h
 | a::is,hn,h,hp=>by
  rw [List.nodup_cons] at hn
  by_cases hai:a=i
  ·
   subst hai
   have:is.filter p=is.filter fun k=>p k && !decide (k=a):=List.filter_congr fun k hk=>by
    have:k≠a:=by rintro rfl; exact hn.1 hk
    simp [this]
   simp [List.filter_cons,hp,this]
  have hi:i∈is:=by rcases List.mem_cons.1 h with e | e; exact (hai e.symm).elim; exact e
  have ih:=Jma hn.2 hi hp
  simp only [List.filter_cons,hai,decide_false,Bool.not_false,Bool.and_true]
  cases hpa:p a with
  | true=>simp [ih]
  | false=>simpa using ih
def Jiw (ops:Array Oper) (bl:List Bool) (is:List Nat) (d:Nat→Nat) (dep:Nat→List Nat) (cs:Nat→Option Nat) (n:Nat):Bool :=
 (is.all fun i=>bl[i]? == some false && (match ops[i]? with
  | some o=>o.dst == some (d i) && decide (d i < n) && ((dep i).all fun j=>is.contains j && o.after.toList.any fun e=>Region.binds .any e && e.on == j) &&
    (o.after.toList.all fun e => !Region.binds .any e || (is.contains e.on && decide (e.on < i)) || bl[e.on]? == some true)
  | none=>false) && (match cs i with | some c=>(dep i).contains c | none=>true) && is.all fun k=>k == i || (!(d k == d i) && !((cs i).isSome && cs k == cs i))) &&
 (List.range bl.length).all fun k=>is.contains k || bl[k]? == some true || (match ops[k]? with
  | some o=>is.all fun i=>o.after.toList.any fun e=>Region.binds .any e && e.on == i
  | none=>false)
structure ManyAt (ops:Array Oper) (bl:List Bool) (is:List Nat) (d:Nat→Nat) (dep:Nat→List Nat) (cs:Nat→Option Nat) (n i:Nat) (o:Oper):Prop where
 op:ops[i]? = some o
 un:bl[i]? = some false
 dst:o.dst=some (d i)
 lt:d i < n
 deps:∀ j∈dep i,j∈is∧∃ e∈o.after,Region.binds .any e=true∧e.on=j
 aft:∀ e∈o.after,Region.binds .any e=true→(e.on∈is∧e.on < i)∨bl[e.on]? = some true
 csd:∀ c,cs i=some c→c∈dep i
 inj:∀ k∈is,k≠i→d k≠d i∧(∀ c,cs i=some c→cs k≠some c)
theorem Jbs {ops:Array Oper} {bl:List Bool} {is:List Nat} {d:Nat→Nat} {dep:Nat→List Nat} {cs:Nat→Option Nat} {n:Nat} (h:Jiw ops bl is d dep cs n=true) {i:Nat} (hi:i∈is):∃ o,ManyAt ops bl is d dep cs n i o:=by
 unfold Jiw at h
 rw [Bool.and_eq_true,List.all_eq_true] at h
 have h1:=h.1 i hi
 cases ho:ops[i]? with
 | none=>simp [ho] at h1
 | some o =>
  simp only [ho,Bool.and_eq_true,List.all_eq_true,beq_iff_eq,decide_eq_true_eq,List.contains_iff_mem,List.any_eq_true,Bool.or_eq_true,Bool.not_eq_true'] at h1
  obtain ⟨⟨⟨h1,⟨⟨h2,h3⟩,h4⟩,h5⟩,h6⟩,h7⟩:=h1
  refine ⟨o,ho,h1,h2,h3,fun j hj=>?_,fun e he hb=>?_,fun c hc=>?_,fun k hk hki=>?_⟩
  ·
   obtain ⟨a,e,he,hb,hj⟩:=h4 j hj
   exact ⟨a,e,by simpa using he,hb,hj⟩
  ·
   rcases h5 e (by simpa using he) with (h | h) | h
   ·
    rw [hb] at h; cases h
   ·
    exact .inl h
   exact .inr h
  ·
   rw [hc] at h6; simpa using h6
  rcases h7 k hk with h | h
  ·
   exact (hki h).elim
  refine ⟨by simpa using h.1,fun c hc hck=>?_⟩
  have:=h.2
  rw [hc,hck] at this
  simp at this
theorem Jm4 {ops:Array Oper} {bl:List Bool} {is:List Nat} {d:Nat→Nat} {dep:Nat→List Nat} {cs:Nat→Option Nat} {n:Nat} (h:Jiw ops bl is d dep cs n=true) {k:Nat} (hk:k ∉ is) (hb:bl[k]? = some false) {o:Oper} (ho:ops[k]? = some o) {i:Nat} (hi:i∈is) :
  ∃ e∈o.after,Region.binds .any e=true∧e.on=i:=by
 unfold Jiw at h
 rw [Bool.and_eq_true,List.all_eq_true,List.all_eq_true] at h
 have hlt:k < bl.length:=(List.getElem?_eq_some_iff.1 hb).1
 have h1:=h.2 k (List.mem_range.2 hlt)
 simp only [ho,Bool.or_eq_true,List.contains_iff_mem,hk,hb,false_or,List.all_eq_true,List.any_eq_true,Bool.and_eq_true,beq_iff_eq] at h1
 rcases h1 with h1 | h1
 ·
  cases h1
 obtain ⟨e,he,hb,hj⟩:=h1 i hi
 exact ⟨e,by simpa using he,hb,hj⟩
section
variable {P:Program} {ro:Option Nat} {n0:Nat} {w0:World} {ds:List Deferred} {ops:Array Oper} {Q:Exit→Act→World→Prop} {L:List SA} {l:List Value} {C:World→Prop}
theorem St.sel0 {u:World} (A:List SA) (h:St n0 w0 (A++L) u):St n0 w0 L u:=St.sub (List.sublist_append_right _ _) h
def Jgs (is:List Nat) (cs:Nat→Option Nat) (b:Nat→Bool) (j:Nat):Bool:=b j && !(is.any fun i=>b i && decide (cs i=some j))
structure ManyInv (n0:Nat) (w0:World) (L:List SA) (l:List Value) (bl:List Bool) (is:List Nat) (d:Nat→Nat) (dep:Nat→List Nat) (cs:Nat→Option Nat) (R:Nat→Value→List SA) (V:Nat→(Nat→Value)→Prop)
  (bl':List Bool) (l':List Value) (vs:Nat→Value) (u:World):Prop where
 bn:bl'.length=bl.length
 bo:∀ k,k ∉ is→bl'[k]? = bl[k]?
 bi:∀ k∈is,bl'[k]? = some true∨bl'[k]? = some false
 ln:l'.length=l.length
 lo:∀ k,(∀ j∈is,d j≠k)→l'[k]? = l[k]?
 li:∀ j∈is,bl'[j]? = some true→l'[d j]? = some (vs j)∧V j vs∧∀ k∈dep j,bl'[k]? = some true
 st:St n0 w0 (live is R vs (Jgs is cs fun j=>decide (bl'[j]? = some true))++L) u
def Jse (P:Program) (ro:Option Nat) (n0:Nat) (w0:World) (ds:List Deferred) (ops:Array Oper) (L:List SA) (l:List Value) (is:List Nat) (d:Nat→Nat) (dep:Nat→List Nat) (cs:Nat→Option Nat) (R:Nat→Value→List SA) (V:Nat→(Nat→Value)→Prop) (i:Nat) (o:Oper):Prop :=
 ∀ (Q:Exit→Act→World→Prop) (vs:Nat→Value) (l':List Value) (M:List SA),l'.length=l.length→(∀ j∈dep i,l'[d j]? = some (vs j)∧V j vs)→(∀ k,(∀ j∈is,d j≠k)→l'[k]? = l[k]?) →
  (∀ v,V i (upd vs i v)→QS n0 w0 ds Q .normal (R i v++M) (l'.set (d i) v))→WS P ro n0 w0 ds ops Q ((match cs i with | some c=>R c (vs c) | none=>[])++M) [o] l'
theorem AS.many {bl be:List Bool} {fuel nn:Nat} {le:(Nat→Value)→List Value} {L':(Nat→Value)→List SA} (is:List Nat) (d:Nat→Nat) (dep:Nat→List Nat) (cs:Nat→Option Nat) (R:Nat→Value→List SA) (V:Nat→(Nat→Value)→Prop)
  (hok:Jiw ops bl is d dep cs l.length=true) (hnd:is.Nodup) (hnn:is.length=nn) (hbe:Jna bl id (fun _=>true) is=some be) (hC:∀ u,St n0 w0 L u→C u)
  (hV:∀ i∈is,∀ vs vs',(∀ j∈i::dep i,vs j=vs' j)→V i vs→V i vs')
  (hle:∀ vs,Jna l d vs is=some (le vs)) (hL':∀ vs,live is R vs (fun j => !(is.any fun i=>decide (cs i=some j)))++L=L' vs)
  (step:∀ i∈is,∀ o,ops[i]? = some o→Jse P ro n0 w0 ds ops L l is d dep cs R V i o)
  (fin:∀ vs,(∀ i∈is,V i vs)→AS P ro n0 w0 ds ops Q C (L' vs) fuel be (le vs)) :
  AS P ro n0 w0 ds ops Q C L (fuel+nn) bl l:=by
 subst hnn
 have hdj:∀ i∈is,∀ k∈is,d i=d k→i=k:=fun i hi k hk e=>by
  by_cases hki:k=i
  ·
   exact hki.symm
  obtain ⟨o,ho⟩:=Jbs hok hi
  exact ((ho.inj k hk hki).1 e.symm).elim
 have main:∀ (n:Nat) (bl':List Bool) (l':List Value) (vs:Nat→Value) (u:World),ManyInv n0 w0 L l bl is d dep cs R V bl' l' vs u→(is.filter fun k=>decide (bl'[k]? = some false)).length=n →
   AH P ro ops (NP ops Q) C (fuel+n) bl'.toArray ⟨l'.toArray,ds⟩ u:=by
  intro n
  induction n with
  | zero =>
   intro bl' l' vs u hI hn
   have hall:∀ k∈is,bl'[k]? = some true:=fun k hk=>by
    rcases hI.bi k hk with h | h
    ·
     exact h
    have:=List.filter_eq_nil_iff.1 (List.length_eq_zero_iff.1 hn) k hk
    simp [h] at this
   have e1:bl'=be:=by
    obtain ⟨q1,q2,q3⟩:=Jfd hbe hnd fun a _ b _ e=>e
    apply List.ext_getElem?
    intro k
    by_cases hk:k∈is
    ·
     have hlt:k < bl.length:=by
      have:=(List.getElem?_eq_some_iff.1 (hall k hk)).1
      rw [hI.bn] at this; exact this
     rw [hall k hk]; exact (q3 k hk hlt).symm
    rw [hI.bo k hk,q2 k fun i hi e=>hk (by simp at e; rw [← e]; exact hi)]
   have e2:l'=le vs:=by
    obtain ⟨q1,q2,q3⟩:=Jfd (hle vs) hnd hdj
    apply List.ext_getElem?
    intro k
    by_cases hk:∃ j∈is,d j=k
    ·
     obtain ⟨j,hj,rfl⟩:=hk
     obtain ⟨o,ho⟩:=Jbs hok hj
     rw [(hI.li j hj (hall j hj)).1,q3 j hj ho.lt]
    have hk':∀ j∈is,d j≠k:=fun j hj e=>hk ⟨j,hj,e⟩
    rw [hI.lo k hk',q2 k hk']
   subst e1 e2
   refine fin vs (fun i hi=>(hI.li i hi (hall i hi)).2.1) u ?_
   rw [← hL' vs]
   have:live is R vs (Jgs is cs fun j=>decide (bl'[j]? = some true))=live is R vs (fun j => !(is.any fun i=>decide (cs i=some j))):=Jbz fun j hj=>by
    refine ⟨?_,fun _=>rfl⟩
    simp only [Jgs]
    rw [decide_eq_true (hall j hj),Bool.true_and]
    congr 1
    have:∀ (ks:List Nat),(∀ k∈ks,k∈is)→(ks.any fun i=>decide (bl'[i]? = some true) && decide (cs i=some j))=ks.any fun i=>decide (cs i=some j):=fun ks=>by
     induction ks with
     | nil=>intro _; rfl
     | cons a ks ih=>intro h; simp only [List.any_cons]; rw [ih fun k hk=>h k (List.mem_cons_of_mem _ hk),decide_eq_true (hall a (h a List.mem_cons_self)),Bool.true_and]
    exact this is fun _ h=>h
   rw [← this]
   exact hI.st
  | succ n ih =>
   intro bl' l' vs u hI hn u' hu'
   have hI':ManyInv n0 w0 L l bl is d dep cs R V bl' l' vs u':={ hI with st:=hI.st.ext hu' }
   -- the Ju1 that is not over
   have hex:∃ k,k∈is∧bl'[k]? = some false:=by
    cases hf:is.filter fun k=>decide (bl'[k]? = some false) with
    | nil=>rw [hf] at hn; simp at hn
    | cons a r =>
     have:a∈is.filter fun k=>decide (bl'[k]? = some false):=by rw [hf]; exact List.mem_cons_self
     rw [List.mem_filter] at this
     exact ⟨a,this.1,by simpa using this.2⟩
   obtain ⟨m,⟨hm,hmf⟩,hmin⟩:=Ju1 hex
   have hgd:∀ k,bl'.toArray.getD k true=false ↔ bl'[k]? = some false:=fun k=>by
    cases h:bl'[k]? with
    | none=>simp [Array.getD_eq_getD_getElem?,h]
    | some x=>simp [Array.getD_eq_getD_getElem?,h]
   have hgt:∀ k,bl'.toArray.getD k false=true ↔ bl'[k]? = some true:=fun k=>by
    cases h:bl'[k]? with
    | none=>simp [Array.getD_eq_getD_getElem?,h]
    | some x=>simp [Array.getD_eq_getD_getElem?,h]
   have hnin:∀ {k:Nat},bl[k]? = some true→bl'[k]? = some true:=fun {k} hk=>by
    by_cases hki:k∈is
    ·
     obtain ⟨o,ho⟩:=Jbs hok hki
     rw [ho.un] at hk; cases hk
    rw [hI.bo k hki]; exact hk
   refine ⟨hC _ (hI'.st.sel0 _),fun h0=>?_,fun i hi=>?_⟩
   ·
    exfalso
    obtain ⟨o,ho⟩:=Jbs hok hm
    have:m∈Region.ready .any ops bl'.toArray:=mem_ready.2 ⟨(hgd m).2 hmf,o,ho.op,fun e he hb=>(hgt _).2 (by
     rcases ho.aft e he hb with ⟨h1,h2⟩ | h1
     ·
      rcases hI.bi _ h1 with h | h
      ·
       exact h
      have:=hmin _ ⟨h1,h⟩; omega
     exact hnin h1)⟩
    rw [h0] at this
    cases this
   obtain ⟨hun,o,ho,hall⟩:=mem_ready.1 hi
   have hif:bl'[i]? = some false:=(hgd i).1 hun
   have hin:i∈is:=by
    by_cases hin:i∈is
    ·
     exact hin
    exfalso
    obtain ⟨e,he,hb,hj⟩:=Jm4 hok hin (by rw [← hI.bo i hin]; exact hif) ho hm
    have:=(hgt _).1 (hall e he hb)
    rw [hj,hmf] at this
    cases this
   obtain ⟨o',hM⟩:=Jbs hok hin
   obtain rfl:o=o':=by have:=hM.op; rw [ho] at this; exact Option.some.inj this
   have hdep:∀ j∈dep i,j∈is∧bl'[j]? = some true:=fun j hj=>by
    obtain ⟨h1,e,he,hb,hj'⟩:=hM.deps j hj
    exact ⟨h1,by rw [← hj']; exact (hgt _).1 (hall e he hb)⟩
   let p:Nat→Bool:=Jgs is cs fun j=>decide (bl'[j]? = some true)
   -- nobody who is over waits for i
   have hno:∀ k∈is,bl'[k]? = some true→i ∉ dep k:=fun k hk hkt hik=>by
    have:=(hI.li k hk hkt).2.2 i hik
    rw [hif] at this; cases this
   have hpi:p i=false:=by simp [p,Jgs,hif]
   let q:Nat→Bool:=fun j=>decide (cs i=some j)
   have hpc:∀ c,cs i=some c→p c=true:=fun c hc=>by
    have hcd:=hdep c (hM.csd c hc)
    simp only [p,Jgs,hcd.2,decide_true,Bool.true_and,Bool.not_eq_true',List.any_eq_false,Bool.and_eq_true,decide_eq_true_eq,not_and]
    intro k hk hkt hck
    by_cases hki:k=i
    ·
     subst hki; rw [hif] at hkt; cases hkt
    exact (hM.inj k hk hki).2 c hc hck
   have e1:live is R vs (fun j=>p j && q j)=(match cs i with | some c=>R c (vs c) | none=>[]):=by
    cases hc:cs i with
    | none =>
     have:live is R vs (fun j=>p j && q j)=live is R vs fun _=>false:=Jbz fun j _=>⟨by simp [q,hc],fun _=>rfl⟩
     rw [this,Jia]
    | some c =>
     have:live is R vs (fun j=>p j && q j)=live is R vs fun j=>decide (j=c):=Jbz fun j _=>⟨by
      by_cases hjc:j=c
      ·
       subst hjc; simp [q,hc,hpc j hc]
      simp [q,hc,hjc,Ne.symm hjc],fun _=>rfl⟩
     rw [this,Jhu hnd (hdep c (hM.csd c hc)).1]
   have hst1:St n0 w0 ((match cs i with | some c=>R c (vs c) | none=>[])++(live is R vs (fun j=>p j && !q j)++L)) u':=by
    rw [← e1, ← List.append_assoc]
    exact hI'.st.perm (List.Perm.append_right _ (Jg6 is R vs p q))
   have hW:=step i hin o ho (Exit.then (AH P ro ops (NP ops Q) C (fuel+n) (bl'.set i true).toArray) (NP ops Q)) vs l' (live is R vs (fun j=>p j && !q j)++L) hI.ln (fun j hj=>by
     have:=hI.li j (hdep j hj).1 (hdep j hj).2
     exact ⟨this.1,this.2.1⟩) hI.lo (fun v hv=>by
    intro u2 hu2
    refine ih (bl'.set i true) (l'.set (d i) v) (upd vs i v) u2 ?_ ?_
    ·
     have hilt:i < bl'.length:=(List.getElem?_eq_some_iff.1 hif).1
     have hbs:∀ k,(bl'.set i true)[k]? = some true ↔ (k=i∨bl'[k]? = some true):=fun k=>by
      by_cases hk:k=i
      ·
       subst hk; simp [hilt]
      rw [List.getElem?_set_ne (Ne.symm hk)]; simp [hk]
     refine ⟨by simpa using hI.bn,fun k hk=>?_,fun k hk=>?_,by simpa using hI.ln,fun k hk=>?_,fun j hj hjt=>?_,?_⟩
     ·
      rw [List.getElem?_set_ne (by rintro rfl; exact hk hin)]; exact hI.bo k hk
     ·
      by_cases hki:k=i
      ·
       subst hki; exact .inl ((hbs k).2 (.inl rfl))
      rw [List.getElem?_set_ne (Ne.symm hki)]; exact hI.bi k hk
     ·
      rw [List.getElem?_set_ne (hk i hin)]; exact hI.lo k hk
     ·
      by_cases hji:j=i
      ·
       subst hji
       refine ⟨by rw [List.getElem?_set_self (by rw [hI.ln]; exact hM.lt),Jlx],hv,fun k hk=>(hbs k).2 (.inr (hdep k hk).2)⟩
      have hjt':bl'[j]? = some true:=by rcases (hbs j).1 hjt with h | h; exact (hji h).elim; exact h
      obtain ⟨a1,a2,a3⟩:=hI.li j hj hjt'
      refine ⟨by rw [List.getElem?_set_ne (Ne.symm (hM.inj j hj hji).1),Jpa hji]; exact a1,?_,fun k hk=>(hbs k).2 (.inr (a3 k hk))⟩
      refine hV j hj vs _ (fun k hk=>?_) a2
      rw [Jpa]
      rintro rfl
      rcases List.mem_cons.1 hk with h | h
      ·
       exact hji h.symm
      exact hno j hj hjt' h
     let p':Nat→Bool:=Jgs is cs fun j=>decide ((bl'.set i true)[j]? = some true)
     have hp'i:p' i=true:=by
      simp only [p',Jgs,(hbs i).2 (.inl rfl),decide_true,Bool.true_and,Bool.not_eq_true',List.any_eq_false,Bool.and_eq_true,decide_eq_true_eq,not_and]
      intro k hk hkt hck
      obtain ⟨ok,hok'⟩:=Jbs hok hk
      have hid:=hok'.csd i hck
      rcases (hbs k).1 hkt with h | h
      ·
       subst h
       have:=(hdep k hid).2
       rw [hif] at this; cases this
      exact hno k hk h hid
     have e2:live is R (upd vs i v) (fun j=>p' j && decide (j=i))=R i v:=by
      have:live is R (upd vs i v) (fun j=>p' j && decide (j=i))=live is R (upd vs i v) fun j=>decide (j=i):=Jbz fun j _=>⟨by
       by_cases hj:j=i
       ·
        subst hj; simp [hp'i]
       simp [hj],fun _=>rfl⟩
      rw [this,Jhu hnd hin,Jlx]
     have e3:live is R (upd vs i v) (fun j=>p' j && !decide (j=i))=live is R vs (fun j=>p j && !q j):=Jbz fun j hj=>by
      by_cases hji:j=i
      ·
       subst hji; simp [hpi]
      refine ⟨?_,fun _=>Jpa hji⟩
      have h1:decide ((bl'.set i true)[j]? = some true)=decide (bl'[j]? = some true):=by
       rw [List.getElem?_set_ne (Ne.symm hji)]
      have h2:(is.any fun k=>decide ((bl'.set i true)[k]? = some true) && decide (cs k=some j))=((is.any fun k=>decide (bl'[k]? = some true) && decide (cs k=some j)) || decide (cs i=some j)):=by
       rw [Bool.eq_iff_iff]
       simp only [List.any_eq_true,Bool.and_eq_true,Bool.or_eq_true,decide_eq_true_eq]
       constructor
       ·
        rintro ⟨k,hk,hkt,hck⟩
        rcases (hbs k).1 hkt with h | h
        ·
         subst h; exact .inr hck
        exact .inl ⟨k,hk,h,hck⟩
       rintro (⟨k,hk,hkt,hck⟩ | h)
       ·
        exact ⟨k,hk,(hbs k).2 (.inr hkt),hck⟩
       exact ⟨i,hin,(hbs i).2 (.inl rfl),h⟩
      simp only [p',p,q,Jgs,h1,h2,hji,decide_false,Bool.not_false,Bool.and_true,Bool.not_or,Bool.and_assoc]
     have hp:=List.Perm.append_right L (Jg6 is R (upd vs i v) p' fun j=>decide (j=i))
     rw [e2,e3,List.append_assoc] at hp
     exact hu2.perm hp.symm
    have hf:(is.filter fun k=>decide (bl'[k]? = some false)).length=(is.filter fun k=>decide (bl'[k]? = some false) && !decide (k=i)).length+1:=Jma hnd hin (by simp [hif])
    have:(is.filter fun k=>decide ((bl'.set i true)[k]? = some false))=is.filter fun k=>decide (bl'[k]? = some false) && !decide (k=i):=List.filter_congr fun k _=>by
     by_cases hki:k=i
     ·
      subst hki
      have hilt:k < bl'.length:=(List.getElem?_eq_some_iff.1 hif).1
      simp [hilt]
     rw [List.getElem?_set_ne (Ne.symm hki)]; simp [hki]
    rw [this]
    omega) 
   have h3:=Jb1 ho (hW u' hst1)
   simpa using h3
 intro u hu
 have hfl:is.filter (fun k=>decide (bl[k]? = some false))=is:=List.filter_eq_self.2 fun k hk=>by
  obtain ⟨o,ho⟩:=Jbs hok hk
  simp [ho.un]
 refine main is.length bl l (fun _=>undef) u ⟨rfl,fun _ _=>rfl,fun k hk=>?_,rfl,fun _ _=>rfl,fun j hj hjt=>?_,?_⟩ (by rw [hfl])
 ·
  obtain ⟨o,ho⟩:=Jbs hok hk
  exact .inr ho.un
 ·
  obtain ⟨o,ho⟩:=Jbs hok hj
  rw [ho.un] at hjt; cases hjt
 have:live is R (fun _=>undef) (Jgs is cs fun j=>decide (bl[j]? = some true))=live is R (fun _=>undef) fun _=>false:=Jbz fun j hj=>by
  obtain ⟨o,ho⟩:=Jbs hok hj
  exact ⟨by simp [Jgs,ho.un],fun _=>rfl⟩
 rw [this,Jia]
 exact hu
end
section
variable {P:Program} {ro:Option Nat} {n0:Nat} {w0:World} {ds:List Deferred} {ops:Array Oper} {Q:Exit→Act→World→Prop} {L:List SA} {rest:List Oper} {l:List Value} {ty:TypeId} {ps:String} {af:Array Edge}
theorem WS.append0 {T e:TypeId} {size by_ i j m:Nat} {x y:Operand} {v z:Value} {news zc:List Value} (hT:sl P T=some (e,size,by_)) (hz:zv P e=some zc) (hzl:zc.length=size) (hs0:0 < size)
  (hx:evo l x=some (v)) (hj:L[j]? = some (osl e size v 0 [])) (hy:evo l y=some (z)) (hnews:∀ u,St n0 w0 L u→SlC u z m size news) (h1:∀ a∈news,a.oneCell'=true)
  (hm:m≤9223372036854775807) (hb:m * by_≤140737488355328)
  {l':Value→List Value} (hl:∀ v,lset l i v=some (l' v)) {L':Value→List SA} (hL:∀ v',lset L j (osl e size v' m news)=some (L' v')) (k:∀ v',WS P ro n0 w0 ds ops Q (L' v') rest (l' v')) :
  WS P ro n0 w0 ds ops Q L (⟨some i,.call ⟨.builtin .append, #[x,y], #[T,T]⟩,ty,ps,af,none⟩::rest) l :=
 WS.append (xs:=[]) hT hz hzl hs0 hx hj hy hnews h1 (by rw [Nat.zero_add]; exact hm) (by rw [Nat.zero_add]; exact hb) hl (fun v'=>by rw [Nat.zero_add,List.nil_append]; exact hL v') k
end
section
variable {P:Program} {n0:Nat} {w0:World} {L:List SA} {l:List Value} {fn:Func}
theorem outR {R:Ending→World→Prop} {v:Value} (hr:Res P fn l L n0 w0 v) (hR:∀ u,St n0 w0 L u→R (.returned v) u):QS n0 w0 [] (bodyPost P fn R) .ret L l:=fun u hu=>⟨rfl,_,hr u hu,hR u hu⟩
theorem Jaz {j b t:Nat} {ty e:TypeId} {c:List Value} (ht:l[t]? = some (.pointer (some ⟨b,0,none⟩))) (hj:L[j]? = some (blk b c e)) (hT:tk P ty=some (true,c.length)) :
  Rv P n0 w0 L l b t ty (.agg c.toArray):=⟨ht,fun u hu=>by
 have:=run_loadCells_list (P:=P) u ⟨b,0,none⟩ c fun j v h=>by rw [Jbt,Jb2 (hu.blk hj).2]; simpa using h
 simp [loadVar,(Jcq hT u).1,(Jcq hT u).2,this]⟩
theorem Jee {b t t2 t3:Nat} {ty:TypeId} {v v2 v3:Value} (h:fn.results = #[.cell t ty,.tmp t2,.tmp t3]) (h1:Rv P n0 w0 L l b t ty v) (h2:l[t2]? = some v2) (h3:l[t3]? = some v3):Res P fn l L n0 w0 (.tuple #[v,v2,v3]):=fun u hu=>by
 obtain ⟨a1,a2⟩:=Jny h1 hu
 simp only [results,h]
 simp [Sem.run_bind,Result.andThen,a1,a2,h2,h3]
end
end Go.Proofs.YtkekjhcmephhjaaGreatDoor
namespace Go.Proofs.YtkekjhcmephhjaaGreatDoor
set_option linter.unusedVariables false
set_option linter.unusedSimpArgs false
open Go.RowKit Go.Proofs
section
variable {P:Program} {ro:Option Nat} {n0:Nat} {w0:World} {ds:List Deferred} {ops:Array Oper} {Q:Exit→Act→World→Prop} {L:List SA}
 {rest:List Oper} {l:List Value} {C:World→Prop} {s:Nat}
theorem AZ.firstP {i:Nat} {oi:Oper} {v:Value} (hi:ops[i]? = some oi) (hcalm:Ja6 ops=true) (his:(i == s)=false) :
  ∀ (fuel:Nat) (listed:Array Bool) (a:Act) (w:World),
   (∀ j oj,ops[j]? = some oj→j≠i→listed.getD j true=false→(∀ e∈oj.after,Region.binds .any e=true→e.on≠i)→oi.apart ops oj=true) →
   i∈Region.ready .any ops listed→Yc P ops (fun _=>True) oi v a →
   AZ P ro ops (NP ops Q) C s fuel (listed.setIfInBounds i true) (a.put oi.dst v) w→AZ P ro ops (NP ops Q) C s (fuel+1) listed a w:=by
 have hci:=Jb4 hcalm i oi hi
 intro fuel
 induction fuel with
 | zero =>
  intro listed a w _ hr hy H u hu
  have Hu:=H.ext hu
  refine ⟨fun h=>Hu.holds (by rw [getD_set_ne true (by simpa using his)]; exact h),fun h=>(by rw [h] at hr; cases hr),fun j hj=>?_⟩
  by_cases hji:j=i
  ·
   subst hji; exact hy.opIn hi hci trivial fun u' hu'=>Hu.ext hu'
  have:=ready_mono hj hji
  rw [(H u hu).2.1] at this
  cases this
 | succ fuel ih =>
  intro listed a w hfree hr hy H u hu
  have Hu:=H.ext hu
  refine ⟨fun h=>Hu.holds (by rw [getD_set_ne true (by simpa using his)]; exact h),fun h=>(by rw [h] at hr; cases hr),fun j hj=>?_⟩
  by_cases hji:j=i
  ·
   subst hji; exact hy.opIn hi hci trivial fun u' hu'=>Hu.ext hu'
  have h1:=(H u hu).2.2 j (ready_mono hj hji)
  obtain ⟨hjun,oj,hoj,hall⟩:=mem_ready.1 hj
  have hnot:∀ e∈oj.after,Region.binds .any e=true→e.on≠i:=fun e he hb heq=>by
   have h1:=hall e he hb
   have h0:=(mem_ready.1 hr).1
   rw [heq] at h1
   rcases Nat.lt_or_ge i listed.size with h' | h'
   ·
    simp [h'] at h0 h1; rw [h0] at h1; cases h1
   simp [Array.getElem?_eq_none h'] at h1
  have h2:=Jd0 (Jge hi) hoj (hfree j oj hoj hji hjun hnot) hcalm hci hy h1
  have hfree':∀ k ok,ops[k]? = some ok→k≠i→(listed.setIfInBounds j true).getD k true=false →
    (∀ e∈ok.after,Region.binds .any e=true→e.on≠i)→oi.apart ops ok=true:=fun k ok hk hki hun hno=>by
   refine hfree k ok hk hki ?_ hno
   by_cases hjk:j=k
   ·
    subst hjk; exact hjun
   rw [getD_set_ne true hjk] at hun; exact hun
  refine wpOpIn_mono (fun a' w' h3=>ih (listed.setIfInBounds j true) a' w' hfree' (ready_mono hr (Ne.symm hji)) h3.1 ?_) h2
  rw [Array.setIfInBounds_comm _ _ hji]
  exact h3.2
theorem AT.takeP {bl bl':List Bool} {fuel:Nat} {l':List Value} (i:Nat) {oi:Oper} {d:Nat} {v:Value} (hi:ops[i]? = some oi) (hcalm:Ja6 ops=true) (his:(i == s)=false) (hf:Region.free .any ops bl.toArray i=true) (hr:(Region.ready .any ops bl.toArray).contains i=true)
  (hd:oi.dst=some d) (hg:oi.guard=none) (h:Det P (fun _=>True) oi l v) (hb:lset bl i true=some bl') (hl:lset l d v=some l') (k:AT P ro n0 w0 ds ops Q C s L fuel bl' l') :
  AT P ro n0 w0 ds ops Q C s L (fuel+1) bl l:=fun u hu=>by
 rw [← Jal hb, ← Jal hl] at k
 refine AZ.firstP hi hcalm his fuel _ _ u (Region.free_spec hi hf) (by simpa using hr) (v:=v) (.inl ⟨by simp [Region.wanted,hg],?_⟩) ?_
 ·
  intro w hw; rw [Jbd]; exact h w hw
 rw [hd,Jaw]
 have:=k u hu
 simpa using this
end
section
variable {P:Program} {ro:Option Nat} {n0:Nat} {w0:World} {ds:List Deferred} {ops:Array Oper} {Q:Exit→Act→World→Prop} {L:List SA}
 {rest:List Oper} {l:List Value} {d:Option Tmp} {ty:TypeId} {ps:String} {af:Array Edge} {g:Option (Nat × Bool)}
theorem WS.callP {β:Type} {f:Operand} {args:List Operand} {ts:Array TypeId} {fn:FuncId} {cap:List Value} {vs:List Value} {v:β→Value} {L':β→List SA} {Lp:List SA} {p:β→Prop} {q:Prop} {ch:List PanicEntry} {d:Option Tmp} {l':β→List Value}
  (hf:evo l f=some (.func (.func fn) #[] cap.toArray)) (hv:evs l args=some vs) (he:Ent P fn)
  (hc:∀ u,St n0 w0 L u→Calls P fn (vs++cap).toArray u (fun e u'=>(∃ x,p x∧e = .returned (v x)∧St n0 w0 (L' x) u')∨(q∧e = .panicked ch∧St n0 w0 Lp u')))
  (hl:∀ x,(match d with | some i=>lset l i (v x) | none=>some l)=some (l' x)) (hp:q→∀ u,St n0 w0 Lp u→Q (.panic ch) ⟨l.toArray,ds⟩ u)
  (k:∀ x,p x→WS P ro n0 w0 ds ops Q (L' x) rest (l' x)) :
  WS P ro n0 w0 ds ops Q L (⟨d,.call ⟨.value f,args.toArray,ts⟩,ty,ps,af,none⟩::rest) l:=by
 intro u hu
 unfold wpListIn
 rw [if_pos (by simp [Region.wanted])]
 refine ⟨fun _ _=>trivial,?_⟩
 rw [Ja3 rfl,Jbd]
 have hr:(execOp (ev l) ⟨d,.call ⟨.value f,args.toArray,ts⟩,ty,ps,af,none⟩).run P u = .ok (.enter fn (vs++cap).toArray) u:=by
  have h1:∀ (args:Array Value) (w:World),Sem.run P (callFunc fn args) w = .ok (.enter fn args) w:=he
  replace hf:=Jam hf
  replace hv:=Jex hv
  subst hv
  simp [execOp,hf,resolve,invoke,Deferred.ofValue,h1]
 rw [hr]
 refine ⟨fun h=>by simp [FW] at h,Jby ((hc u hu).mono ?_)⟩
 rintro e u' (⟨x,hpx,rfl,hS⟩ | ⟨hq,rfl,hS⟩)
 ·
  show wpListIn (FW ro) 0 P ops Q rest ((Act.mk l.toArray ds).put d (v x)) u'
  have h2:=hl x
  cases d with
  | some i =>
   rw [Jaw,Jal h2]
   exact k x hpx u' hS
  | none =>
   rw [Jsj]
   have h3:=Option.some.inj h2
   rw [h3]
   exact k x hpx u' hS
 exact hp hq u' hS
theorem WS.callPg {β:Type} {f:Operand} {args:List Operand} {ts:Array TypeId} {fn:FuncId} {cap:List Value} {vs:List Value} {v:β→Value} {L':β→List SA} {Lp:List SA} {p:β→Prop} {q:Prop} {ch:List PanicEntry} {i:Nat} {l':β→List Value} {j:Nat} {want:Bool}
  (hw:yielded ops l.toArray j=some want)
  (hf:evo l f=some (.func (.func fn) #[] cap.toArray)) (hv:evs l args=some vs) (he:Ent P fn)
  (hc:∀ u,St n0 w0 L u→Calls P fn (vs++cap).toArray u (fun e u'=>(∃ x,p x∧e = .returned (v x)∧St n0 w0 (L' x) u')∨(q∧e = .panicked ch∧St n0 w0 Lp u')))
  (hl:∀ x,lset l i (v x)=some (l' x)) (hp:q→∀ u,St n0 w0 Lp u→Q (.panic ch) ⟨l.toArray,ds⟩ u)
  (k:∀ x,p x→WS P ro n0 w0 ds ops Q (L' x) rest (l' x)) :
  WS P ro n0 w0 ds ops Q L (⟨some i,.call ⟨.value f,args.toArray,ts⟩,ty,ps,af,some (j,want)⟩::rest) l:=by
 intro u hu
 unfold wpListIn
 rw [if_pos (by simp [Region.wanted,hw])]
 refine ⟨fun _ _=>trivial,?_⟩
 rw [Ja3 rfl,Jbd]
 have hr:(execOp (ev l) ⟨some i,.call ⟨.value f,args.toArray,ts⟩,ty,ps,af,some (j,want)⟩).run P u = .ok (.enter fn (vs++cap).toArray) u:=by
  have h1:∀ (args:Array Value) (w:World),Sem.run P (callFunc fn args) w = .ok (.enter fn args) w:=he
  replace hf:=Jam hf
  replace hv:=Jex hv
  subst hv
  simp [execOp,hf,resolve,invoke,Deferred.ofValue,h1]
 rw [hr]
 refine ⟨fun h=>by simp [FW] at h,Jby ((hc u hu).mono ?_)⟩
 rintro e u' (⟨x,hpx,rfl,hS⟩ | ⟨hq,rfl,hS⟩)
 ·
  show wpListIn (FW ro) 0 P ops Q rest ((Act.mk l.toArray ds).put (some i) (v x)) u'
  rw [Jaw,Jal (hl x)]
  exact k x hpx u' hS
 exact hp hq u' hS
end
section
variable {P:Program} {ro:Option Nat} {n0:Nat} {w0:World} {ds:List Deferred} {ops:Array Oper} {Q:Exit→Act→World→Prop} {L:List SA} {l:List Value} {C C':World→Prop}
theorem CS.drawnTillC (s:Nat) (C:World→Prop) {id:Nat} {os:List Oper} {k:Nat} {bl:List Bool} (hm:P.follows .mixedOrders=true) (hk:os.length=k) (hb:List.replicate k false=bl) (h:AT P ro n0 w0 ds os.toArray Q C s L k bl l) :
  CS P ro n0 w0 ds (.region id os.toArray true) Q L l:=by subst hb; exact CS.drawnZ s C hm hk h
theorem AZ.le {s:Nat} (hC:∀ u,C' u→C u):∀ {fuel:Nat} {listed:Array Bool} {a:Act} {w:World},AZ P ro ops Q C' s fuel listed a w→AZ P ro ops Q C s fuel listed a w
 | 0,_,_,_,h=>fun u hu=>⟨fun hs=>hC u ((h u hu).1 hs),(h u hu).2⟩
 | _+1,_,_,_,h=>fun u hu=>⟨fun hs=>hC u ((h u hu).1 hs),(h u hu).2.1,fun i hi=>wpOpIn_mono (fun _ _ h=>AZ.le hC h) ((h u hu).2.2 i hi)⟩
theorem AT.le {s:Nat} {fuel:Nat} {bl:List Bool} (C':World→Prop) (hC:∀ u,C' u→C u) (k:AT P ro n0 w0 ds ops Q C' s L fuel bl l):AT P ro n0 w0 ds ops Q C s L fuel bl l:=fun u hu=>AZ.le hC (k u hu)
theorem Jcr {β:Type} {p:β→Prop} {Lf:β→List SA} {o:Oper} {v:Value} (h:∀ b,p b→Det P (St n0 w0 (Lf b)) o l v):Det P (fun u=>∃ b,p b∧St n0 w0 (Lf b) u) o l v:=fun u ⟨b,hb,hu⟩=>h b hb u hu
theorem Je8 {T:TypeId} {x y:Operand} {a:ByteArray} {i:Int} {d:Option Tmp} {ty:TypeId} {ps:String} {af:Array Edge} {g:Option (Nat × Bool)} (hT:P.underlying T=some .string) (hx:evo l x=some (.string a)) (hy:evo l y=some (.int .i64 i))
  (h:0≤i∧i≤a.size):Det P C ⟨d,.slice T x none (some y) none,ty,ps,af,g⟩ l (.string (a.extract 0 i.toNat)):=fun u _=>by
 (replace hx:=Jam hx; replace hy:=Jam hy)
 have e2:0≤max i 0:=by omega
 simp [execOp,Jan,hx,hy,Instr.sliceAt,Instr.slice,Instr.sliceBounds,Instr.sliceBound,asIntOf,run_underlying hT,h.1,h.2,e2]
end
def RetX {β:Type} (w:World) (R:SA) (ch:List PanicEntry) (p:β→Prop) (q:Prop) (v:β→Value) (A:β→SA):Ending→World→Prop:=fun e u' =>
 (∃ x,p x∧e = .returned (v x)∧St w.heap.size w [A x,R] u')∨(q∧e = .panicked ch∧St w.heap.size w [R] u')
theorem Calls.two {P:Program} {f:FuncId} {args:List Value} {n0:Nat} {w0 u:World} {L:List SA} {b:Bool} {ch:List PanicEntry} (hu:St n0 w0 L u)
  (ht:b=true→Calls P f args.toArray u fun e w'=>w'=u∧e = .returned (.tuple #[])) (hf:b=false→Calls P f args.toArray u fun e w'=>w'=u∧e = .panicked ch) :
  Calls P f args.toArray u (fun e u'=>(∃ x:Unit,b=true∧e = .returned (.tuple #[])∧St n0 w0 L u')∨(b=false∧e = .panicked ch∧St n0 w0 L u')):=by
 cases b with
 | true =>
  refine (ht rfl).mono ?_
  rintro e w' ⟨rfl,rfl⟩
  exact .inl ⟨(),rfl,rfl,hu⟩
 | false =>
  refine (hf rfl).mono ?_
  rintro e w' ⟨rfl,rfl⟩
  exact .inr ⟨rfl,rfl,hu⟩
def dfr (fn:FuncId) (cap:List Value):Deferred:={ target:=.fn (.func fn) cap.toArray,args := #[] }
theorem Jqj {P:Program} {fn:Func} {R:Ending→World→Prop} {f:FuncId} {cap:List Value} {tmps:Array Value} {m:FrameMode} {w:World} (hm:m ≠ .run) (he:Ent P f)
  (h:CallsD P f cap.toArray m w fun e u' w'=>∃ v,e = .returned v∧settle u' = .returning∧∃ x,(results fn tmps).run P w' = .ok x w'∧R (.returned x) w'):Leaves P fn tmps R [dfr f cap] m w:=by
 refine leaves_cons hm (f:=f) (args:=cap.toArray) ?_ (h.mono ?_)
 ·
  have:=he cap.toArray w
  simpa [invoke] using this
 rintro e u' w' ⟨v,rfl,h2,x,h3,h4⟩
 show Leaves P fn tmps R [] (settle u') w'
 rw [h2]
 exact ⟨x,h3,h4⟩
section
variable {P:Program} {ro:Option Nat} {n0:Nat} {w0:World} {ds:List Deferred} {ops:Array Oper} {Q:Exit→Act→World→Prop} {L:List SA}
 {rest:List Oper} {l:List Value} {ty:TypeId} {ps:String} {af:Array Edge}
theorem Jvj {f:FuncId} {fn:Func} {c:Code} {args:List Value} {u:World} {R:Ending→World→Prop} (hu:St n0 w0 L u) (hf:P.funcs[f]? = some fn) (hb:fn.body=some c)
  (hl:frame args fn.ntmps=some l) (hn:args.length≤fn.ntmps) (h:CS P none n0 w0 [] c (bodyPostD P fn R) L l):Calls P f args.toArray u R:=by
 refine calls_of_wp_defers hf hb ((wpIn_wide (n:=0)).1 ?_)
 have:=h u hu
 rw [← Jef hl hn,Jkk] at this
 exact this
theorem WS.defer {f:Operand} {fn:FuncId} {cap:List Value} (hf:evo l f=some (.func (.func fn) #[] cap.toArray)) (k:WS P none n0 w0 (dfr fn cap::ds) ops Q L rest l) :
  WS P none n0 w0 ds ops Q L (⟨none,.defer ⟨.value f, #[], #[]⟩,ty,ps,af,none⟩::rest) l:=by
 intro u hu
 unfold wpListIn
 rw [if_pos (by simp [Region.wanted])]
 refine ⟨fun _ _=>trivial,?_⟩
 rw [show (FW none).round=none from rfl,Oper.semAt_none,Jbd]
 have hr:(execOp (ev l) ⟨none,.defer ⟨.value f, #[], #[]⟩,ty,ps,af,none⟩).run P u = .ok (.defer (dfr fn cap)) u:=by
  replace hf:=Jam hf
  simp [execOp,hf,resolve,Deferred.ofValue,dfr]
 rw [hr]
 exact k u hu
theorem outD {fn:Func} {R:Ending→World→Prop} {f:FuncId} {cap:List Value} {v:Value} (he:Ent P f) (hc:∀ u,CallsD P f cap.toArray .returning u fun e u' w'=>e = .returned (.tuple #[])∧u' = .returning∧w'=u)
  (hr:Res P fn l L n0 w0 v) (hR:∀ u,St n0 w0 L u→R (.returned v) u):QS n0 w0 [dfr f cap] (bodyPostD P fn R) .ret L l:=fun u hu=>by
 refine Jqj (by simp) he ((hc u).mono ?_)
 rintro e u' w' ⟨rfl,rfl,rfl⟩
 exact ⟨_,rfl,rfl,v,hr _ hu,hR _ hu⟩
theorem panD {fn:Func} {R:Ending→World→Prop} {f:FuncId} {t b:Nat} {Tb e4:TypeId} {k:Nat} {x v:Value} {e1:TypeId} {ch chr:List PanicEntry} {a:Act} {u:World} (ha:a.defers=[dfr f [.pointer (some ⟨b,0,none⟩)]])
  (ht:a.tmps[t]? = some (.pointer (some ⟨b,0,none⟩))) (he:Ent P f) (hs:settle (.panicking chr) = .returning)
  (hc:∀ w:World,(w.alloc (.cells #[] e1)).cell? ⟨b,0,none⟩=some x→(w.alloc (.cells #[] e1)).frozen? ⟨b,0,none⟩=false→CallsD P f #[.pointer (some ⟨b,0,none⟩)] (.panicking ch) w fun e u' w'=>e = .returned (.tuple #[])∧u' = .panicking chr∧w'=(w.alloc (.cells #[] e1)).setCell ⟨b,0,none⟩ v)
  (hr:fn.results = #[.cell t Tb]) (hT:tk P Tb=some (false,k)) (hu:St n0 w0 (blk b [x] e4::L) u) (hR:∀ u,St n0 w0 L u→R (.returned v) u):bodyPostD P fn R (.panic ch) a u:=by
 have h1:St n0 w0 (blk b [x] e4::L) (u.alloc (.cells #[] e1)):=hu.ext ((Below.refl _ u).alloc (Nat.le_refl _) _)
 have hb1:=(h1.blk (j:=0) rfl).2
 have h2:St n0 w0 (blk b [v] e4::L) ((u.alloc (.cells #[] e1)).setCell ⟨b,0,none⟩ v):=h1.store (j:=0) rfl 0 v
 show Leaves P fn a.tmps R a.defers (.panicking ch) u
 rw [ha]
 refine Jqj (by simp) he ((hc u (Jb2 hb1 0) ?_).mono ?_)
 ·
  simp [World.frozen?,hb1]
 rintro e u' w' ⟨rfl,rfl,rfl⟩
 refine ⟨_,rfl,hs,v,?_,hR _ (h2.erase 0)⟩
 have h3:((u.alloc (.cells #[] e1)).setCell ⟨b,0,none⟩ v).cell? ⟨b,0,none⟩=some v:=Jb2 (h2.blk (j:=0) rfl).2 0
 simp only [results,hr]
 simp [Sem.run_bind,Result.andThen,ht,asAddr,loadVar,(Jcq hT _).1,h3]
end
end Go.Proofs.YtkekjhcmephhjaaGreatDoor
namespace Go.Proofs.YtkekjhcmephhjaaGreatDoor
set_option linter.unusedVariables false
set_option linter.unusedSimpArgs false
open Go.RowKit
abbrev P3:=List Int × List Int × List Int
def Stt.x (z:Stt):P3:=(z.ths.l,z.prs.l,z.pls.l)
def no3:P3:=([],[],[])
def RetS (w:World) (x:P3) (f:Value→Value):Ending→World→Prop:=fun e w'=>∃ z:Stt,(z.x=x∧∃ u0,SttOk u0 z)∧RetF w (f (.agg #[z.ths.v,z.prs.v,z.pls.v])) (roS fun u=>SttOk u z) e w'
def Jen (n:Nat) (c:List Lit):Prop:=∀ x∈c,0≤x.t∧x.t < n
def autoI (aus:List Auto) (ths:List Int):Int:=idxF (fun a=>Jdo ths a.wh.l && !decide (nth ths a.t=a.s)) aus
def settleN (aus:List Auto):Nat→List Int→Option (List Int)
 | 0,_=>none
 | n+1,ths=>if autoI aus ths < 0 then some ths else settleN aus n (ths.set (nth aus (autoI aus ths)).t.toNat (nth aus (autoI aus ths)).s)
def Je2 (aus:List Auto) (n:Nat):Prop:=∀ a∈aus,(0≤a.t∧a.t < n)∧Jen n a.wh.l
theorem Js3 {aus:List Auto} {ths:List Int} (h:¬ autoI aus ths < 0):0≤autoI aus ths∧autoI aus ths < aus.length:=by
 refine ⟨by omega,?_⟩
 unfold autoI idxF at *
 split at h
 ·
  rename_i i hi
  have:=(List.findIdx?_eq_some_iff_findIdx_eq.1 hi).1
  omega
 omega
def settleV (r:Room) (x:P3):Option P3:=(settleN r.aus.l 101 x.1).map fun t=>(t,x.2.1,x.2.2)
structure ActIn (r:Room) (a:Actn):Prop where
 wh:Jen r.ths.l.length a.wh.l
 pl:0≤a.pl∧a.pl < r.pls.l.length
 us:∀ x∈a.us.l,0≤x∧x < r.prs.l.length
 sp:∀ x∈a.sp.l,0≤x∧x < r.prs.l.length
 br:∀ x∈a.br.l,0≤x∧x < r.prs.l.length
 se:∀ x∈a.se.l,putB r.ths.l x.t x.s=true
 lus:a.us.l.length≤r.prs.l.length
 lsp:a.sp.l.length≤r.prs.l.length
 lbr:a.br.l.length≤r.prs.l.length
 lse:a.se.l.length≤6
structure Ready (r:Room):Prop where
 ply:1≤r.ply∧r.ply≤4
 lens:1≤r.pls.l.length∧r.pls.l.length≤8∧r.ths.l.length≤12∧r.prs.l.length≤10∧r.wys.l.length≤16∧r.acs.l.length≤24∧r.aus.l.length≤12
 ths:∀ x∈r.ths.l,thB r x=true
 aus:Je2 r.aus.l r.ths.l.length
 aut:∀ a∈r.aus.l,putB r.ths.l a.t a.s=true
 prs:∀ p∈r.prs.l,Jen r.ths.l.length p.wh.l∧(p.pl = -1∨placeB r p.pl=true)
 wys:∀ x∈r.wys.l,Jen r.ths.l.length x.wh.l∧(0≤x.a∧x.a < r.pls.l.length)∧(0≤x.b∧x.b < r.pls.l.length)
 acs:∀ a∈r.acs.l,ActIn r a
 gl:Jen r.ths.l.length r.gl.l
theorem Jpt {ths:List Thing} {a b:Int} (h:putB ths a b=true):0≤a∧a < ths.length:=by
 simp only [putB,Bool.and_eq_true,decide_eq_true_eq] at h
 omega
theorem Jfu {r:Room} {n:Int} (h:placeB r n=true):0≤n∧n < r.pls.l.length:=by
 simp only [placeB,Bool.and_eq_true,decide_eq_true_eq] at h
 omega
theorem Je7 {ths:List Thing} {c:List Lit} (h:Jgc ths c=true):Jen ths.length c:=fun x hx=>by
 simp only [Jgc,Bool.and_eq_true,List.all_eq_true] at h
 exact Jpt (h.1 x hx)
theorem Jok {r:Room} {c:List Lit} (h:whO r c=0):Jgc r.ths.l c=true:=by
 unfold whO at h
 split at h
 ·
  assumption
 cases h
theorem ite0 {b:Bool} {k:Int} (hk:k≠0) (h:(if b=true then (0:Int) else k)=0):b=true:=by
 split at h
 ·
  assumption
 exact (hk h).elim
theorem Jeb {n:Nat} {l:List Int} (h:ascB n l=true):∀ x∈l,0≤x∧x < n:=fun x hx=>by
 obtain ⟨i,h0,h1,rfl⟩:=Jbh hx
 have:=Jf3 h h0 h1
 simp only [Bool.and_eq_true,decide_eq_true_eq] at this
 omega
theorem Jqy {n:Nat} {l:List Int} (h:ascB n l=true):∀ k:Nat,k < l.length→(k:Int)≤nth l k
 | 0,hk=>(Jeb h _ (Jap (by omega) (by omega))).1
 | k+1,hk=>by
  have h1:=Jqy h k (by omega)
  have h2:=Jf3 h (i:=((k+1:Nat):Int)) (by omega) (by omega)
  simp only [Bool.and_eq_true,Bool.or_eq_true,decide_eq_true_eq] at h2
  rw [show ((k+1:Nat):Int) - 1=(k:Int) by omega] at h2
  omega
theorem Jhn {n:Nat} {l:List Int} (h:ascB n l=true):l.length≤n:=by
 by_cases hl:l.length=0
 ·
  omega
 have h1:=Jqy h (l.length - 1) (by omega)
 have h2:=(Jeb h _ (Jap (xs:=l) (i:=((l.length - 1:Nat):Int)) (by omega) (by omega))).2
 omega
theorem Je0 {r:Room} (h:checkE r=0):Ready r:=by
 obtain ⟨hm,h2⟩:=Jgb h
 obtain ⟨hpl,h3⟩:=Jck h2
 obtain ⟨hth,h4⟩:=Jck h3
 obtain ⟨hpr,h5⟩:=Jck h4
 obtain ⟨hwy,h6⟩:=Jck h5
 obtain ⟨hac,h7⟩:=Jck h6
 obtain ⟨hau,hgl⟩:=Jck h7
 have hl:¬ r.pls.l.length=0:=fun h0=>by
  unfold checkE at h
  rw [hm,if_neg (by decide),if_pos h0] at h
  cases h
 refine ⟨Jha h,?_,fun x hx=>?_,fun a ha=>?_,fun a ha=>?_,fun p hp=>?_,fun x hx=>?_,fun a ha=>?_,Je7 (Jok (Jck hgl).2)⟩
 ·
  simp only [manyB,Bool.or_eq_false_iff,decide_eq_false_iff_not] at hm
  omega
 ·
  obtain ⟨i,h0,h1,rfl⟩:=Jbh hx
  have:=ite0 (by decide) (Jbk hth i h0 h1)
  simp only [Bool.and_eq_true] at this
  exact this.2.2
 ·
  obtain ⟨i,h0,h1,rfl⟩:=Jbh ha
  have:=Jck (Jbk hau i h0 h1)
  exact ⟨Jpt (ite0 (by decide) this.1),Je7 (Jok this.2)⟩
 ·
  obtain ⟨i,h0,h1,rfl⟩:=Jbh ha
  have:=Jck (Jbk hau i h0 h1)
  exact ite0 (by decide) this.1
 ·
  obtain ⟨i,h0,h1,rfl⟩:=Jbh hp
  have:=Jck (Jbk hpr i h0 h1)
  refine ⟨Je7 (Jok this.2),?_⟩
  have:=ite0 (by decide) this.1
  simp only [Bool.and_eq_true,Bool.or_eq_true,decide_eq_true_eq] at this
  exact this.2.2
 ·
  obtain ⟨i,h0,h1,rfl⟩:=Jbh hx
  have:=Jck (Jbk hwy i h0 h1)
  have h8:=ite0 (by decide) this.1
  simp only [Bool.and_eq_true] at h8
  exact ⟨Je7 (Jok this.2),Jfu h8.1,Jfu h8.2.1⟩
 obtain ⟨i,h0,h1,rfl⟩:=Jbh ha
 have:=Jck (Jbk hac i h0 h1)
 have h8:=ite0 (by decide) this.1
 simp only [actB,act2,Bool.and_eq_true,decide_eq_true_eq] at h8
 obtain ⟨_,⟨_,hp,_,hu,hs,hb,hse⟩,_,_,h5⟩:=h8
 refine ⟨Je7 (Jok this.2),Jfu hp,Jeb hu,Jeb hs,Jeb hb,fun x hx=>?_,Jhn hu,Jhn hs,Jhn hb,by omega⟩
 obtain ⟨k,a0,a1,rfl⟩:=Jbh hx
 have:=Jf3 h5 a0 a1
 simp only [Bool.and_eq_true] at this
 exact this.1
structure StIn (r:Room) (x:P3):Prop where
 lt:x.1.length=r.ths.l.length
 lp:x.2.1.length=r.prs.l.length
 ll:(x.2.2.length:Int)=r.ply
 th:∀ i:Int,0≤i→i < x.1.length→putB r.ths.l i (nth x.1 i)=true
 pr:∀ i:Int,0≤i→i < x.2.1.length→(placeB r (nth x.2.1 i) || (decide (nth x.2.1 i = -1) || (decide (-2 - r.ply+1≤nth x.2.1 i) && decide (nth x.2.1 i ≤ -2))))=true
 pl:∀ i:Int,0≤i→i < x.2.2.length→placeB r (nth x.2.2 i)=true
def stL (r:Room) (x:P3):Int:=or0 (checkE r) (stE r x.1 x.2.1 x.2.2)
theorem Jxd {r:Room} {x:P3}:stE r x.1 x.2.1 x.2.2=0 ↔ StIn r x:=by
 constructor
 ·
  intro h
  unfold stE at h
  split at h
  ·
   rename_i hl
   simp only [Bool.and_eq_true,decide_eq_true_eq] at hl
   obtain ⟨h1,h2⟩:=Jck h
   obtain ⟨h2,h3⟩:=Jck h2
   exact ⟨hl.1,hl.2.1,hl.2.2,fun i h0 hi=>ite0 (by decide) (Jbk h1 i h0 hi),fun i h0 hi=>ite0 (by decide) (Jbk h2 i h0 hi),fun i h0 hi=>ite0 (by decide) (Jbk h3 i h0 hi)⟩
  cases h
 intro h
 unfold stE
 have e1:Jbi (Jgy r x.1) x.1.length=0:=Jaq fun i a b=>if_pos (h.th i a b)
 have e2:Jbi (Jg0 r x.2.1) x.2.1.length=0:=Jaq fun i a b=>if_pos (h.pr i a b)
 have e3:Jbi (Jgw r x.2.2) x.2.2.length=0:=Jaq fun i a b=>if_pos (h.pl i a b)
 rw [if_pos (by simp only [Bool.and_eq_true,decide_eq_true_eq]; exact ⟨h.lt,h.lp,h.ll⟩),e1,Jc6 rfl,e2,Jc6 rfl,e3]
theorem Jk8 {r:Room} {x:P3}:stL r x=0 ↔ checkE r=0∧StIn r x:=by
 rw [← Jxd]
 constructor
 ·
  exact Jck
 rintro ⟨h1,h2⟩; unfold stL; rw [Jc6 h1,h2]
theorem StIn.small {r:Room} {x:P3} (h:StIn r x) (hr:Ready r):x.1.length≤1000000∧x.2.1.length≤1000000∧x.2.2.length≤1000000:=by
 have:=h.lt; have:=h.lp; have:=h.ll; have:=hr.lens; have:=hr.ply
 omega
theorem StIn.autos {r:Room} {x:P3} (h:StIn r x) (hr:Ready r):Je2 r.aus.l x.1.length:=by rw [h.lt]; exact hr.aus
def ansS (r:Room) (o:Option P3):Int × P3:=match o with | some y=>(0,y) | none=>(27,no3)
def SettleV (r:Room) (x:P3):Int × P3:=if stL r x=0 then ansS r (settleV r x) else (stL r x,no3)
def Jb7 (r:Room):P3:=(r.ths.l.map Thing.sr,r.prs.l.map Pro.pl,List.replicate r.ply.toNat 0)
def BeginV (r:Room):Int × P3:=if checkE r=0 then SettleV r (Jb7 r) else (checkE r,no3)
theorem SttOk.ones {w:World} {z:Stt} (h:SttOk w z):z.ths.v.oneCell'=true∧z.prs.v.oneCell'=true∧z.pls.v.oneCell'=true:=⟨Sl.one h.ths,Sl.one h.prs,Sl.one h.pls⟩
theorem Jdd {α:Type} [Inhabited α] {xs:List α} {s:Int} (h0:0≤s) (h1:s < xs.length):xs.take (s+1).toNat=xs.take s.toNat++[nth xs s]:=by
 have h2:s.toNat < xs.length:=by omega
 rw [show (s+1).toNat=s.toNat+1 by omega,List.take_succ_eq_append_getElem h2]
 have:nth xs s=xs[s.toNat]:=by simp [nth,List.getD,h2]
 rw [this]
theorem Jjt {xs:List Int} {v s:Int} (h0:0≤s) (h1:s < xs.length):cnt (xs.take (s+1).toNat) v=cnt (xs.take s.toNat) v+(if nth xs s=v then 1 else 0):=by
 rw [Jdd h0 h1,Js8]
def goB (r:Room) (x:P3) (m:Move):Bool:=((decide (0≤m.n) && decide (m.n≤r.wys.l.length - 1)) && (decide ((nth r.wys.l m.n).a=nth x.2.2 m.p) || decide ((nth r.wys.l m.n).b=nth x.2.2 m.p))) && Jdo x.1 (nth r.wys.l m.n).wh.l
def Jnc (r:Room) (x:P3) (m:Move):Bool:=(((decide (0≤m.n) && decide (m.n≤r.prs.l.length - 1)) && decide (nth x.2.1 m.n=nth x.2.2 m.p)) && Jdo x.1 (nth r.prs.l m.n).wh.l) && decide (cnt x.2.1 (-2 - m.p) < 3)
def Jnl (r:Room) (x:P3) (m:Move):Bool:=(decide (0≤m.n) && decide (m.n≤r.prs.l.length - 1)) && decide (nth x.2.1 m.n = -2 - m.p)
def Js1 (x:P3) (a:Actn) (m:Move):Bool:=allI a.us.l.length fun k=>decide (nth x.2.1 (nth a.us.l k) = -2 - m.p)
def Jo1 (x:P3) (a:Actn):Bool:=allI a.br.l.length fun k=>decide (nth x.2.1 (nth a.br.l k) = -1)
def Jpi (x:P3) (a:Actn) (m:Move):Bool:=(decide (a.pl=nth x.2.2 m.p) && Jdo x.1 a.wh.l) && decide (cnt x.2.1 (-2 - m.p) - a.sp.l.length+a.br.l.length≤3)
def doB (r:Room) (x:P3) (m:Move):Bool:=(decide (0≤m.n) && decide (m.n≤r.acs.l.length - 1)) && (Js1 x (nth r.acs.l m.n) m && (Jo1 x (nth r.acs.l m.n) && Jpi x (nth r.acs.l m.n) m))
def legalB (r:Room) (x:P3) (m:Move):Bool :=
 if (decide (0≤m.p) && decide (m.p≤r.ply - 1))=true then
  if m.k=1 then goB r x m else if m.k=2 then Jnc r x m else if m.k=3 then Jnl r x m else if m.k=4 then doB r x m else false
 else false
def Jce (v:Int) (l:List Int) (ps:List Int):List Int:=ps.foldl (fun l p=>l.set p.toNat v) l
def Jfm (l:List Int) (ss:List Put):List Int:=ss.foldl (fun l s=>l.set s.t.toNat s.s) l
theorem Jcx {v:Int}:∀ {ps l:List Int},(Jce v l ps).length=l.length
 | [],_=>rfl
 | p::ps,l=>by
  have:=Jcx (v:=v) (ps:=ps) (l:=l.set p.toNat v)
  simpa [Jce] using this
theorem Jfa:∀ {ss:List Put} {l:List Int},(Jfm l ss).length=l.length
 | [],_=>rfl
 | p::ps,l=>by
  have:=Jfa (ss:=ps) (l:=l.set p.t.toNat p.s)
  simpa [Jfm] using this
theorem Jgr {v:Int} {l ps:List Int} {s:Int} (h0:0≤s) (h1:s < ps.length):Jce v l (ps.take (s+1).toNat)=(Jce v l (ps.take s.toNat)).set (nth ps s).toNat v:=by
 rw [Jdd h0 h1,Jce,List.foldl_append]; rfl
theorem Jj0 {l:List Int} {ps:List Put} {s:Int} (h0:0≤s) (h1:s < ps.length):Jfm l (ps.take (s+1).toNat)=(Jfm l (ps.take s.toNat)).set (nth ps s).t.toNat (nth ps s).s:=by
 rw [Jdd h0 h1,Jfm,List.foldl_append]; rfl
def moveX (r:Room) (x:P3) (m:Move):P3 :=
 if m.k=1 then (x.1,x.2.1,x.2.2.set m.p.toNat ((nth r.wys.l m.n).a+(nth r.wys.l m.n).b - nth x.2.2 m.p))
 else if m.k=2 then (x.1,x.2.1.set m.n.toNat (-2 - m.p),x.2.2)
 else if m.k=3 then (x.1,x.2.1.set m.n.toNat (nth x.2.2 m.p),x.2.2)
 else if m.k=4 then (Jfm x.1 (nth r.acs.l m.n).se.l,Jce (-2 - m.p) (Jce (-1) x.2.1 (nth r.acs.l m.n).sp.l) (nth r.acs.l m.n).br.l,x.2.2)
 else x
theorem Jjq {r:Room} {x:P3} {m:Move}:(moveX r x m).1.length=x.1.length∧(moveX r x m).2.1.length=x.2.1.length∧(moveX r x m).2.2.length=x.2.2.length:=by
 unfold moveX
 split
 ·
  simp
 split
 ·
  simp
 split
 ·
  simp
 split
 ·
  simp [Jfa,Jcx]
 simp
def StepV (r:Room) (x:P3) (m:Move):Int × P3:=if stL r x=0 then if legalB r x m=true then ansS r (settleV r (moveX r x m)) else (29,no3) else (stL r x,no3)
structure MoveIn (r:Room) (x:P3) (m:Move):Prop where
 p:0≤m.p∧m.p < x.2.2.length∧m.p≤3
 go:m.k=1→0≤m.n∧m.n < r.wys.l.length
 pr:m.k=2∨m.k=3→0≤m.n∧m.n < x.2.1.length
 ac:m.k=4→0≤m.n∧m.n < r.acs.l.length
theorem Ju2 {r:Room} {x:P3} {m:Move} (hR:Ready r) (hI:StIn r x) (h:legalB r x m=true):MoveIn r x m:=by
 have hl:=hI.ll
 have hp:=hI.lp
 have hy:=hR.ply
 unfold legalB at h
 split at h
 ·
  rename_i h1
  simp only [Bool.and_eq_true,decide_eq_true_eq] at h1
  refine ⟨by omega,fun hk=>?_,fun hk=>?_,fun hk=>?_⟩
  ·
   rw [if_pos hk] at h
   simp only [goB,Bool.and_eq_true,decide_eq_true_eq] at h
   omega
  ·
   rcases hk with hk | hk
   ·
    rw [if_neg (by omega),if_pos hk] at h
    simp only [Jnc,Bool.and_eq_true,decide_eq_true_eq] at h
    omega
   rw [if_neg (by omega),if_neg (by omega),if_pos hk] at h
   simp only [Jnl,Bool.and_eq_true,decide_eq_true_eq] at h
   omega
  rw [if_neg (by omega),if_neg (by omega),if_neg (by omega),if_pos hk] at h
  simp only [doB,Bool.and_eq_true,decide_eq_true_eq] at h
  omega
 cases h
theorem StIn.at {r:Room} {x:P3} (hI:StIn r x) {i:Int} (h0:0≤i) (h1:i < x.2.2.length):0≤nth x.2.2 i∧nth x.2.2 i < r.pls.l.length:=Jfu (hI.pl i h0 h1)
def oT {α:Type} (C:Cel α) (e:TypeId) (v:Value) (l:List α):SA:=osl e C.k v l.length (Ja9 C l)
section
variable {P:Program} {ro:Option Nat} {n0:Nat} {w0:World} {ds:List Deferred} {ops:Array Oper} {Q:Exit→Act→World→Prop} {L:List SA} {rest:List Oper} {l:List Value} {ty:TypeId} {ps:String} {af:Array Edge}
 {α:Type} {C:Cel α}
theorem WS.buildT1 (C:Cel α) {T e:TypeId} {by_ i:Nat} {x:Operand} {a:α} {zc:List Value} (hT:sl P T=some (e,C.k,by_)) (hz:zv P e=some zc) (hx:evo l x=some (.agg (C.cells a).toArray)) (hk:0 < C.k∧C.k≤1000)
  {l':Value→List Value} (hl:∀ v,lset l i v=some (l' v)) (kk:∀ v,WS P ro n0 w0 ds ops Q (oT C e v [a]::L) rest (l' v)) :
  WS P ro n0 w0 ds ops Q L (⟨some i,.buildSlice T 1 #[(0,x)],ty,ps,af,none⟩::rest) l:=by
 refine WS.buildSliceK (pl:=[(0,x)]) (rows:=[C.cells a]) (k:=C.k) hT hz (by simp [Jam hx]) rfl (by omega) (by omega) (by simp [C.len]) hl fun v=>?_
 exact kk v
theorem WS.appendT1 {T e:TypeId} {by_ i j jz:Nat} {x y:Operand} {v z:Value} {a:α} {xs:List α} {zc:List Value} (hT:sl P T=some (e,C.k,by_)) (hz:zv P e=some zc) (hzl:zc.length=C.k) (hk:0 < C.k)
  (hx:evo l x=some v) (hj:L[j]? = some (oT C e v xs)) (hy:evo l y=some z) (hjz:L[jz]? = some (oT C e z [a])) {w:World} (h1:C.ok w a)
  (hm:xs.length+1≤9223372036854775807) (hb:(xs.length+1) * by_≤140737488355328)
  {l':Value→List Value} (hl:∀ v,lset l i v=some (l' v)) {L':Value→List SA} (hL:∀ v',lset L j (oT C e v' (xs++[a]))=some (L' v')) (k:∀ v',v'.oneCell'=true→WS P ro n0 w0 ds ops Q (L' v') rest (l' v')) :
  WS P ro n0 w0 ds ops Q L (⟨some i,.call ⟨.builtin .append, #[x,y], #[T,T]⟩,ty,ps,af,none⟩::rest) l:=by
 refine WS.append hT hz hzl hk hx hj hy (m:=1) (fun u hu=>Jcb hu hjz) (fun b hb'=>?_) hm hb hl (L':=L') (fun v'=>?_) fun v'=>?_
 ·
  rw [Jiy] at hb'; exact C.one w a h1 b hb'
 ·
  rw [← hL v',oT,Jf8]; simp
 have hjl:=(List.getElem?_eq_some_iff.1 hj).1
 have h2:=(Jal (hL v')).symm
 refine WS.oc (j:=j) (v:=v') (e:=e) (k:=C.k) (n:=(xs++[a]).length) (xs:=Ja9 C (xs++[a])) (by rw [h2,List.getElem?_set_self hjl]; rfl) (k v')
theorem Jcp {u:World} {e:TypeId} {v:Value} {xs:List α} {j:Nat} (hu:St n0 w0 L u) (hj:L[j]? = some (oT C e v xs)) (hk:∀ a∈xs,C.ok u a):SlT C u ⟨v,xs⟩:=⟨Jcb hu hj,hk⟩
end
def Jcj (p k:Int) (n:Nat):List Move:=(List.range n).map fun i:Nat=>(⟨p,k,(i:Int)⟩:Move)
def Jr4 (p:Int):Nat→List Move
 | 0=>[]
 | j+1=>Jr4 p j++Jcj p ((j:Int)+1) 24
def Jsc:Nat→List Move
 | 0=>[]
 | q+1=>Jsc q++Jr4 q 4
theorem Jo4 (p k:Int) (n:Nat):(Jcj p k n).length=n:=by simp [Jcj]
theorem Jm3 (p k:Int) {n:Int} (h0:0≤n):Jcj p k (n+1).toNat=Jcj p k n.toNat++[⟨p,k,n⟩]:=by
 rw [show (n+1).toNat=n.toNat+1 by omega]
 simp [Jcj,List.range_succ]
 omega
def Jtv (r:Room) (x:P3):List Move:=(Jsc r.ply.toNat).filter (legalB r x)
def LegalV (r:Room) (x:P3):Int × List Move:=if stL r x=0 then (0,Jtv r x) else (stL r x,[])
def RetM (w:World) (x:List Move) (f:Value→Value):Ending→World→Prop:=fun e w'=>∃ v:Value,(∃ u0,SlT cMove u0 ⟨v,x⟩)∧RetF w (f v) (roT cMove ⟨v,x⟩) e w'
theorem retM {w0 u:World} {L:List SA} {e:TypeId} {j:Nat} {v:Value} {xs:List Move} {f:Value→Value} (hj:L[j]? = some (oT cMove e v xs)) (hu:St w0.heap.size w0 L u):RetM w0 xs f (.returned (f v)) u :=
 ⟨v,⟨u,Jcp hu hj fun _ _=>trivial⟩,retR (fun S u h=>⟨Star.osl hj h,fun _ _=>trivial⟩) u hu⟩
theorem Jy3 {w0 u:World} {L:List SA} {f:Value→Value} (hu:St w0.heap.size w0 L u):RetM w0 [] f (.returned (f (.slice none 0 0))) u :=
 ⟨_,⟨u,SlT.nil cMove u⟩,retR (fun S u h=>SlT.nil cMove u) u hu⟩
theorem RetF.toRo {w:World} {v:Value} {A:SA} {p:World→Prop} (hp:∀ S u,A.h S u→p u) {e:Ending} {u:World} (h:RetF w v A e u):RetF w v (roS p) e u:=by
 obtain ⟨h1,h2,T,h3,h4⟩:=h
 exact ⟨h1,h2,T,⟨fun u' hk=>hp T u' (A.loc T u u' h3 hk),fun k hS=>A.dom T u k h3 hS⟩,h4⟩
theorem RetF.now {w:World} {v:Value} {p:World→Prop} {e:Ending} {u:World} (h:RetF w v (roS p) e u):p u:=by
 obtain ⟨_,_,T,h3,_⟩:=h
 exact roS.now h3
theorem Jmo {α β:Type} [Inhabited α] (f:α→β) {l:List α} {s:Int} (h0:0≤s) (h1:s < l.length):(l.take s.toNat).map f++[f (nth l s)]=(l.take (s+1).toNat).map f:=by
 rw [Jdd h0 h1]; simp
def Jhx (n:Nat):List Int:=(List.range n).map fun i:Nat=>(i:Int)
theorem StIn.held {r:Room} {x:P3} (hI:StIn r x) {i:Int} (h0:0≤i) (h1:i < x.2.1.length) (h2:nth x.2.1 i ≤ -2):0 ≤ -2 - nth x.2.1 i ∧ -2 - nth x.2.1 i < x.2.2.length:=by
 have:=hI.pr i h0 h1
 have h3:=hI.ll
 simp only [placeB,Bool.or_eq_true,Bool.and_eq_true,decide_eq_true_eq] at this
 omega
section
variable {P:Program} {ro:Option Nat} {n0:Nat} {w0:World} {ds:List Deferred} {ops:Array Oper} {Q:Exit→Act→World→Prop} {L:List SA} {rest:List Oper} {l:List Value} {d:Option Tmp} {ty:TypeId} {ps:String} {af:Array Edge} {g:Option (Nat × Bool)}
 {α:Type} {C:Cel α}
theorem Jci {T e e':TypeId} {a b j:Nat} {x:Operand} {v:Value} {xs:List α} (hT:sl P T=some (e,a,b)) (hx:evo l x=some v) (hj:L[j]? = some (oT C e' v xs)) :
  Det P (St n0 w0 L) ⟨d,.call ⟨.builtin .len, #[x], #[T]⟩,ty,ps,af,g⟩ l (.int .i64 xs.length):=Jlq hT hx hj
variable [Inhabited α]
theorem Jgd {T e:TypeId} {z j:Nat} (k f:Nat) {x:Operand} {v y:Value} {i:Int} {xs:List α} (hj:L[j]? = some (oT C e v xs)) (hx:evo l x=some (.pointer (some ⟨slb v,slo v+i.toNat * k+f,none⟩))) (hk:C.k=k) (h:0≤i∧i < xs.length) (hf:f < k)
  (hc:(C.cells (nth xs i))[f]? = some y) (hT:tk P T=some (false,z)):Det P (St n0 w0 L) ⟨d,.load T x,ty,ps,af,g⟩ l y:=by
 subst hk
 exact Jp2 (by rw [hx,sla,Nat.add_assoc]) hj (by rw [Jb8 C h.1 h.2 f hf]; exact hc) hT
end
theorem Jm8 {α:Type} [Inhabited α] {l:List α} {i:Int} {a:α} (h0:0≤i) (h1:i < l.length):nth (l.set i.toNat a) i=a:=by
 have h2:i.toNat < l.length:=by omega
 simp [nth,List.getD,h2]
theorem Jhb {α:Type} [Inhabited α] {l:List α} {i j:Int} {a:α} (h0:0≤i) (h1:0≤j) (h:j≠i):nth (l.set i.toNat a) j=nth l j:=by
 have:i.toNat≠j.toNat:=by omega
 simp [nth,List.getD,List.getElem?_set_ne this]
section
variable {n0:Nat} {w0 u:World} {L:List SA}
theorem St.roTrue (h:St n0 w0 L u) {p:World→Prop} (hp:∀ u,p u):St n0 w0 (roS p::L) u :=
 ⟨h.le,h.below,fun _=>False,fun _ h=>h.elim,⟨fun u' _=>hp u',fun _ h=>h.elim⟩,h.star.sup fun _ h=>⟨h,fun h=>h⟩⟩
theorem St.roMap {p q:World→Prop} (hp:∀ u,p u→q u) (h:St n0 w0 (roS p::L) u):St n0 w0 (roS q::L) u:=St.toRo (fun S u h=>hp u (roS.now h)) h
end
def Jxx (w:World) (r:Room):Ending→World→Prop:=fun e w'=>∃ c:Room,(c.e=r.e∧∃ u0,RoomOk u0 c)∧RetF w (.agg #[c.pls.v,c.ths.v,c.prs.v,c.wys.v,c.acs.v,c.aus.v,.int .i64 c.ply,c.gl.v]) (roS fun u=>RoomOk u c) e w'
theorem Jie {α β:Type} {f:α→β} {l l':List α} (h:l.map f=l'.map f):l.length=l'.length:=by
 have:=congrArg List.length h
 simpa using this
section
variable {P:Program} {l:List Value} {d:Option Tmp} {ty:TypeId} {ps:String} {af:Array Edge} {g:Option (Nat × Bool)} {C:World→Prop}
theorem Jg7 {T:TypeId} {pl:List (Nat × Operand)} {pls:List (Nat × Nat)} {z cs:List Value} {parts:List (Nat × Value)} (hp:plc P T=some pls) (hz:zv P T=some z) (hv:evp l pl=some parts)
  (hf:Instr.fill (pls.toArray[·]?) z.toArray parts=some cs.toArray):Det P C ⟨d,.build T pl.toArray,ty,ps,af,g⟩ l (.agg cs.toArray):=fun u _=>by
 replace hv:=Jp1 hv
 subst hv
 unfold plc at hp
 split at hp
 ·
  rename_i fs hu
  unfold zv at hz
  cases hi:P.info? T with
  | none=>simp [hi] at hz
  | some inf =>
   cases hz2:inf.zero with
   | none=>simp [hi,hz2] at hz
   | some zz =>
    simp [hi,hz2] at hz
    have hm:=Jii (P:=P) (w:=u) fs.toList pls hp
    have hm2:(fs.mapM fun f=>do pure (f.offset, ← sizeOf f.type):Sem (Array (Nat × Nat))).run P u = .ok pls.toArray u:=by
     rw [Array.mapM_eq_mapM_toList]
     simp at hm
     simp [hm]
    have hzc:zz.cells=z.toArray:=by rw [← hz]
    simp [execOp,Jan,Instr.build,zeroValue,typeInfo,hi,hz2,run_underlying hu]
    simp at hm2
    simp [hm2,hzc]
    simp at hf
    simp [hf]
 simp at hp
end
theorem Jzk {a:List (Nat × Nat)} {z:List Value} {p q:List Value} (ha:a=[(0,8),(8,3)]) (hz:z.length=11) (hp:p.length=8) (hq:q.length=3) :
  Instr.fill (a.toArray[·]?) z.toArray [(0,.agg p.toArray),(1,.agg q.toArray)]=some (p++q).toArray:=by
 subst ha
 match z,hz with
 | [z0,z1,z2,z3,z4,z5,z6,z7,z8,z9,z10],_ =>
  match p,hp with
  | [p0,p1,p2,p3,p4,p5,p6,p7],_ =>
   match q,hq with
   | [q0,q1,q2],_=>simp [Instr.fill,Value.cells]
section
variable {P:Program} {ro:Option Nat} {n0:Nat} {w0:World} {ds:List Deferred} {ops:Array Oper} {Q:Exit→Act→World→Prop} {L:List SA} {rest:List Oper} {l:List Value} {ty:TypeId} {ps:String} {af:Array Edge}
theorem WS.callFg {β:Type} {f:Operand} {args:List Operand} {ts:Array TypeId} {fn:FuncId} {cap:List Value} {vs:List Value} {v:β→Value} {A:β→SA} {p:β→Prop} {i:Nat} {l':β→List Value} {j:Nat} {want:Bool}
  (hw:yielded ops l.toArray j=some want)
  (hf:evo l f=some (.func (.func fn) #[] cap.toArray)) (hv:evs l args=some vs) (he:Ent P fn)
  (hc:∀ u,St n0 w0 L u→Calls P fn (vs++cap).toArray u (fun e u'=>∃ x,p x∧RetF u (v x) (A x) e u'))
  (hl:∀ x,lset l i (v x)=some (l' x)) (k:∀ x,p x→WS P ro n0 w0 ds ops Q (A x::L) rest (l' x)) :
  WS P ro n0 w0 ds ops Q L (⟨some i,.call ⟨.value f,args.toArray,ts⟩,ty,ps,af,some (j,want)⟩::rest) l:=by
 intro u hu
 unfold wpListIn
 rw [if_pos (by simp [Region.wanted,hw])]
 refine ⟨fun _ _=>trivial,?_⟩
 rw [Ja3 rfl,Jbd]
 have hr:(execOp (ev l) ⟨some i,.call ⟨.value f,args.toArray,ts⟩,ty,ps,af,some (j,want)⟩).run P u = .ok (.enter fn (vs++cap).toArray) u:=by
  have h1:∀ (args:Array Value) (w:World),Sem.run P (callFunc fn args) w = .ok (.enter fn args) w:=he
  replace hf:=Jam hf
  replace hv:=Jex hv
  subst hv
  simp [execOp,hf,resolve,invoke,Deferred.ofValue,h1]
 rw [hr]
 refine ⟨fun h=>by simp [FW] at h,Jby ((hc u hu).mono ?_)⟩
 rintro e u' ⟨x,hp,rfl,hb,T,hA,hT⟩
 show wpListIn (FW ro) 0 P ops Q rest ((Act.mk l.toArray ds).put (some i) (v x)) u'
 rw [Jaw,Jal (hl x)]
 exact k x hp u' (hu.cons hb hA hT)
end
section
variable {P:Program} {ro:Option Nat} {n0:Nat} {w0:World} {ds:List Deferred} {ops:Array Oper} {Q:Exit→Act→World→Prop} {L:List SA} {rest:List Oper} {l:List Value} {ty:TypeId} {ps:String} {af:Array Edge}
theorem WS.buildHole {T e:TypeId} {by_ i:Nat} {x1 x2 x3 x4:Operand} {a b c d:Int} (hT:sl P T=some (e,1,by_)) (hz:zv P e=some [.int .i64 0])
  (h1:evo l x1=some (.int .i64 a)) (h2:evo l x2=some (.int .i64 b)) (h3:evo l x3=some (.int .i64 c)) (h4:evo l x4=some (.int .i64 d))
  {l':Value→List Value} (hl:∀ v,lset l i v=some (l' v)) (k:∀ v,WS P ro n0 w0 ds ops Q (oints e v [0,a,b,c,d]::L) rest (l' v)) :
  WS P ro n0 w0 ds ops Q L (⟨some i,.buildSlice T 5 #[(1,x1),(2,x2),(3,x3),(4,x4)],ty,ps,af,none⟩::rest) l:=by
 (replace h1:=Jam h1; replace h2:=Jam h2; replace h3:=Jam h3; replace h4:=Jam h4)
 refine WS.world rfl rfl fun u hu=>?_
 obtain ⟨inf,hu1,hi,hs,hby⟩:=Jcc hT
 unfold zv at hz
 rw [hi] at hz
 cases hz2:inf.zero with
 | none=>simp [hz2] at hz
 | some zz =>
  simp [hz2] at hz
  have hzc:zz.cells = #[.int .i64 0]:=by
   apply Array.ext'; simpa using hz
  refine ⟨.slice (some ⟨u.heap.size,0,none⟩) 5 5,u.alloc (.cells #[.int .i64 0,.int .i64 a,.int .i64 b,.int .i64 c,.int .i64 d] e),?_,?_⟩
  ·
   have hic:∀ n,(Value.int .i64 n).cells = #[.int .i64 n]:=fun _=>rfl
   have e5:Array.range 5 = #[0,1,2,3,4]:=by decide
   simp [execOp,Instr.buildSlice,run_underlying hu1,sizeOf,typeInfo,hi,hs,newRow,zeroValue,hz2,hzc,h1,h2,h3,h4,Instr.fill,hic,e5]
  rw [Jaw,Jal (hl _)]
  refine k _ _ (hu.cons (T:=fun k=>k=u.heap.size) ((Below.refl _ u).alloc (Nat.le_refl _) _) ⟨?_,by simp [ints],.inr ⟨u.heap.size,5,_,rfl,Nat.zero_le _,World.alloc_heap_new u _,Nat.le_refl _,?_,?_,?_⟩⟩ (fun k hk=>by omega))
  ·
   intro k; simp [Value.ownBlock]; exact eq_comm
  ·
   decide
  ·
   simp
  simp [ints]
end
def cntM (r:Room):Nat→Nat
 | 1=>r.wys.l.length
 | 2=>r.prs.l.length
 | 3=>r.prs.l.length
 | 4=>r.acs.l.length
 | _=>0
def kinM (r:Room) (p:Int):Nat→List Move
 | 0=>[]
 | j+1=>kinM r p j++Jcj p j (cntM r j)
def allM (r:Room):Nat→List Move
 | 0=>[]
 | q+1=>allM r q++kinM r q 5
def cntL (r:Room):List Int:=[0,r.wys.l.length,r.prs.l.length,r.prs.l.length,r.acs.l.length]
theorem Jon (r:Room) {j:Int} (h0:0≤j) (h1:j < 5):nth (cntL r) j=cntM r j.toNat:=by
 rcases (show j=0∨j=1∨j=2∨j=3∨j=4 by omega) with h | h | h | h | h <;> subst h <;> rfl
theorem Jql (p k:Int) {n m:Nat} (h:n≤m):Jcj p k n <+: Jcj p k m:=by
 refine ⟨(Jcj p k m).drop n,?_⟩
 have:Jcj p k n=(Jcj p k m).take n:=by simp [Jcj,List.take_range,Nat.min_eq_left h, ← List.map_take]
 rw [this,List.take_append_drop]
theorem Jly (r:Room) (p:Int) {j:Nat}:∀ {m:Nat},j≤m→kinM r p j <+: kinM r p m
 | 0,h=>by
  have:j=0:=by omega
  subst this; exact List.prefix_refl _
 | m+1,h=>by
  by_cases hj:j=m+1
  ·
   subst hj; exact List.prefix_refl _
  exact (Jly r p (show j≤m by omega)).trans ⟨_,rfl⟩
theorem Jk4 (r:Room) {j:Nat}:∀ {m:Nat},j≤m→allM r j <+: allM r m
 | 0,h=>by
  have:j=0:=by omega
  subst this; exact List.prefix_refl _
 | m+1,h=>by
  by_cases hj:j=m+1
  ·
   subst hj; exact List.prefix_refl _
  exact (Jk4 r (show j≤m by omega)).trans ⟨_,rfl⟩
def upM (r:Room) (p j n:Int):List Move:=allM r p.toNat++(kinM r p j.toNat++Jcj p j n.toNat)
theorem Jlm {r:Room} {p j n:Int} (h:0≤n):upM r p j n++[⟨p,j,n⟩]=upM r p j (n+1):=by
 unfold upM; rw [Jm3 _ _ h]; simp [List.append_assoc]
theorem Jz7 {r:Room} {p j:Int} (h0:0≤j):upM r p j (cntM r j.toNat)=upM r p (j+1) 0:=by
 unfold upM
 rw [show (j+1).toNat=j.toNat+1 by omega,kinM,show ((j.toNat:Nat):Int)=j by omega]
 simp [Jcj]
theorem Jzd {r:Room} {p:Int} (h0:0≤p):upM r p 5 0=upM r (p+1) 0 0:=by
 unfold upM
 rw [show (p+1).toNat=p.toNat+1 by omega,allM,show ((p.toNat:Nat):Int)=p by omega]
 simp [Jcj,kinM]
theorem Jva (r:Room) {p:Int} (hp:p=r.ply):upM r p 0 0=allM r r.ply.toNat:=by subst hp; simp [upM,kinM,Jcj]
theorem Job {r:Room} {p j n:Int} (h0:0≤p∧p < r.ply) (h1:0≤j∧j < 5) (h2:0≤n∧n < cntM r j.toNat):∃ post,allM r r.ply.toNat=upM r p j n++⟨p,j,n⟩::post:=by
 have e1:upM r p j n++[⟨p,j,n⟩] <+: allM r r.ply.toNat:=by
  rw [Jlm h2.1]
  refine List.IsPrefix.trans ?_ (Jk4 r (show p.toNat+1≤r.ply.toNat by omega))
  rw [allM,show ((p.toNat:Nat):Int)=p by omega]
  unfold upM
  rw [List.prefix_append_right_inj]
  refine List.IsPrefix.trans ?_ (Jly r p (show j.toNat+1≤5 by omega))
  rw [kinM,show ((j.toNat:Nat):Int)=j by omega,List.prefix_append_right_inj]
  exact Jql p j (by omega)
 obtain ⟨t,ht⟩:=e1
 exact ⟨t,by rw [← ht]; simp⟩
end Go.Proofs.YtkekjhcmephhjaaGreatDoor
namespace Go.Proofs.YtkekjhcmephhjaaGreatDoor
set_option linter.unusedVariables false
set_option linter.unusedSimpArgs false
open Go.RowKit Go.Proofs
section
variable {P:Program} {ro:Option Nat} {w0:World} {ds:List Deferred} {Q:Exit→Act→World→Prop} {L:List SA} {l:List Value}
theorem Jwl {a b c f:SA} {M G:List SA}:(a::b::(M++(G++[c,f]))).Perm ([a,b,f]++(G++c::M)):=by
 refine List.Perm.cons _ (List.Perm.cons _ ?_)
 show (M++(G++[c,f])).Perm (f::(G++c::M))
 refine List.perm_append_comm.trans ?_
 rw [List.append_assoc]
 refine List.Perm.trans (List.Perm.append_left G (List.Perm.swap f c M)) ?_
 exact List.perm_middle
theorem Jxz {F c:SA} {M G:List SA}:(F::(G++c::M)).Perm (G++c::(M++[F])):=by
 refine List.perm_middle.symm.trans ?_
 refine List.Perm.append_left G ?_
 exact (List.Perm.swap _ _ _).trans (List.Perm.cons c (List.perm_append_comm (l₁:=[F]) (l₂:=M)))
theorem CS.rangeFuncG {X:Type} {β:Type} {gf:FuncId} {lb:List Value} {A:List SA} {lend:Value→X→SA} {all:List X} {g:Operand} {t:Tmp} {assign body:Code} (G:X→β→List SA)
  (hg:evo l g=some (.func (.func gf) #[] lb.toArray)) (he:Ent P gf) (hi:Iter P w0 gf lb A lend all)
  (M:List X→List SA) (Mx:Code→List X→List SA) {l0:Value→List Value} {l1:Value→β→List Value} (h0:∀ v,lset l t v=some (l0 v))
  (ha:∀ (v:Value) (x:X) (lr:Nat) (L':List SA) (Q':Exit→Act→World→Prop),(∀ b,QS w0.heap.size w0 [] Q' .normal (G x b++lend v x::L') (l1 v b))→CS P (some lr) w0.heap.size w0 [] assign Q' (lend v x::L') (l0 v))
  (hbody:∀ (lr:Nat) (pre:List X) (x:X) (post:List X) (v:Value) (b:β) (F:SA),all=pre++x::post →
   CS P (some lr) w0.heap.size w0 [] body (Jn5 w0.heap.size w0 M Mx (lend v x) (pre++[x]) F) (G x b++lend v x::(M pre++[F])) (l1 v b))
  (hdone:∀ D,QS w0.heap.size w0 (mark D::ds) Q .normal (recd D (.deferred (some []))::(M all++A)) l)
  (hstop:∀ D c pre x post,all=pre++x::post→CS P none w0.heap.size w0 (mark D::ds) c Q (recd D (.deferred (some []))::(Mx c (pre++[x])++A)) l) :
  CS P none w0.heap.size w0 ds (.rangeFunc g #[t] assign body) Q (M []++A) l:=by
 intro u hu
 refine wpIn_rangeFunc ?_
 intro fn hfn
 have hu1:=(hu.allocRec (.deferred (some []))).allocRec (.loop (lrec fn l.toArray t assign body u.heap.size .ready none))
 rw [World.size_alloc] at hu1
 obtain ⟨W1,hW1⟩:∃ W1,(u.alloc (.deferred (some []))).alloc (.loop (lrec fn l.toArray t assign body u.heap.size .ready none))=W1:=⟨_,rfl⟩
 have hent:=run_enterLoop_outer (P:=P) (w:=u) fn l.toArray #[t] assign body
 rw [show ({ state:=.ready,pending:=none,fn,tmps:=l.toArray,params := #[t],assign,body,defers:=u.heap.size }:Loop)=lrec fn l.toArray t assign body u.heap.size .ready none from rfl,hW1] at hent
 rw [hW1] at hu1
 generalize u.heap.size=D at hent hu1
 clear hW1 hu
 refine ⟨D+1,[mark D],W1,{ target:=.fn (.func gf) lb.toArray,args := #[.func (.yield (D+1)) #[] #[]] },W1,gf,
  #[.func (.yield (D+1)) #[] #[]]++lb.toArray,W1,hent,?_,fun _ _=>trivial,?_,fun h=>by simp [FW] at h,?_⟩
 ·
  have hg':(Act.mk l.toArray ds).eval g = .func (.func gf) #[] lb.toArray:=by rw [Jbd]; exact Jam hg
  simp only [resolve,hg']
  simp [go_sem]
 ·
  have h1:∀ (args:Array Value) (w:World),Sem.run P (callFunc gf args) w = .ok (.enter gf args) w:=he
  simp [invoke,go_sem,h1]
 have hcall:=hi (D+1) (fun pre=>star ([recd (D+1) (.loop (lrec fn l.toArray t assign body D .ready none)),recd D (.deferred (some []))]++M pre))
  (fun pre=>exS fun c:Code=>star ([recd (D+1) (.loop (lrec fn l.toArray t assign body D .done (some c))),recd D (.deferred (some []))]++Mx c pre)) ?_ W1
  (St.pack (L1:=[recd (D+1) (.loop (lrec fn l.toArray t assign body D .ready none)),recd D (.deferred (some []))]++M []) hu1)
 ·
  have e:(Value.func (.yield (D+1)) #[] #[]::lb).toArray = #[Value.func (.yield (D+1)) #[] #[]]++lb.toArray:=by apply Array.ext'; simp
  rw [e] at hcall
  have hcall':=(callsIn_wide (n:=0)).2 hcall
  refine CallsIn.mono hcall' ?_
  rintro e u' ⟨⟨v,rfl⟩,hs | ⟨pre,x,post,hall,hs⟩⟩
  ·
   have hs2:=hs.unpack
   obtain ⟨_,hl⟩:=St.rec_ (j:=0) rfl hs2
   exact ⟨none,_,run_endLoop hl (by simp [lrec]),hdone D _ (hs2.putRec (j:=0) rfl _).tail⟩
  obtain ⟨c,hs1⟩:=hs.ex
  have hs2:=hs1.unpack
  obtain ⟨_,hl⟩:=St.rec_ (j:=0) rfl hs2
  exact ⟨some c,_,run_endLoop hl (by simp [lrec]),hstop D c pre x post hall _ (hs2.putRec (j:=0) rfl _).tail⟩
 intro pre x post hall F v u1 hs
 have hs1:=St.unpack hs
 obtain ⟨_,hl⟩:=St.rec_ (j:=0) rfl hs1
 have hy:=run_yield (P:=P) (args := #[v]) hl (by simp [lrec])
 have et:((lrec fn l.toArray t assign body D .ready none).params.zip #[v]).foldl (fun tmps (t,a)=>tmps.setIfInBounds t a) (lrec fn l.toArray t assign body D .ready none).tmps=(l0 v).toArray:=by
  have:=Jal (h0 v)
  simp [lrec, ← this]
 rw [et] at hy
 refine ⟨fn,_,assign,body,hy,roundIn_of_wpIn (F:=FW none) trivial ?_⟩
 refine ha v x (D+1) _ _ ?_ u1 (hs.perm (List.Perm.swap _ _ _))
 intro b u2 hs2
 have hs2':St w0.heap.size w0 (star ([recd (D+1) (.loop (lrec fn l.toArray t assign body D .ready none)),recd D (.deferred (some []))]++M pre)::(G x b++[lend v x,F])) u2:=hs2.perm (by
  refine List.Perm.trans ?_ List.perm_middle
  exact List.Perm.append_left _ (List.Perm.swap _ _ _))
 have hs3:=St.unpack hs2'
 obtain ⟨_,hl2⟩:=St.rec_ (j:=0) rfl hs3
 refine ⟨_,run_beginRound hl2 rfl,?_⟩
 have hs4:=(hs3.putRec (j:=0) rfl (.loop (lrec fn l.toArray t assign body D .busy none)))
 have hs5:=(((hs4.perm Jwl).pack).perm Jxz)
 refine wpIn_mono (hbody (D+1) pre x post v b _ hall _ hs5) ?_
 have back:∀ {M':List SA} {u4:World},St w0.heap.size w0 (lend v x::(M'++[star [recd (D+1) (.loop (lrec fn l.toArray t assign body D .busy none)),recd D (.deferred (some [])),F]])) u4 →
   St w0.heap.size w0 (recd (D+1) (.loop (lrec fn l.toArray t assign body D .busy none))::recd D (.deferred (some []))::(M'++[lend v x,F])) u4:=fun h=>((h.perm perm6.symm).unpack).perm perm5.symm
 rintro e a u4 hq
 cases e with
 | normal =>
  have h4:=back hq
  obtain ⟨_,hl4⟩:=St.rec_ (j:=0) rfl h4
  exact ⟨_,_,run_endRound none hl4,.inl ⟨rfl,St.pack (L1:=_::_::M (pre++[x])) (h4.putRec (j:=0) rfl (.loop (lrec fn l.toArray t assign body D .ready none)))⟩⟩
 | ret =>
  have h4:=back hq
  obtain ⟨_,hl4⟩:=St.rec_ (j:=0) rfl h4
  exact ⟨_,_,run_endRound (some .ret) hl4,.inr ⟨rfl,St.exI .ret (St.pack (L1:=_::_::Mx .ret (pre++[x])) (h4.putRec (j:=0) rfl (.loop (lrec fn l.toArray t assign body D .done (some .ret)))))⟩⟩
 | exit i =>
  have h4:=back hq
  obtain ⟨_,hl4⟩:=St.rec_ (j:=0) rfl h4
  exact ⟨_,_,run_endRound (some (.exit i)) hl4,.inr ⟨rfl,St.exI (.exit i) (St.pack (L1:=_::_::Mx (.exit i) (pre++[x])) (h4.putRec (j:=0) rfl (.loop (lrec fn l.toArray t assign body D .done (some (.exit i))))))⟩⟩
 | goto i=>exact hq.elim
 | panic c=>exact hq.elim
 | outgrown=>exact hq.elim
theorem CS.rangeB {X:Type} {gf:FuncId} {lb:List Value} {A:List SA} {all:List X} {x:Operand} {t t2 id:Tmp} {body:Code} {T n ty1 ty2:TypeId} {ps1 ps2:String} {af1 af2:Array Edge} {zs:List Value} {V:X→Value} (cs:X→List Value) (hV:∀ x,V x = .agg (cs x).toArray) (hcl:∀ x,(cs x).length=n) (hc1:∀ x,∀ v∈cs x,v.oneCell'=true)
  (hz:zv P T=some zs) (hzl:zs.length=n) (hT:tk P T=some (true,n)) (hne:t≠t2)
  (hg:evo l x=some (.func (.func gf) #[] lb.toArray)) (he:Ent P gf) (hi:Iter P w0 gf lb A (fun v x=>fact (v=V x)) all)
  (M:List X→List SA) (Mx:Code→List X→List SA) {l0:Value→List Value} {l1:Value→Nat→List Value} (h0:∀ v,lset l t v=some (l0 v)) (ht:t < l.length) (h1:∀ v b,lset (l0 v) t2 (.pointer (some ⟨b,0,none⟩))=some (l1 v b)) (ht2:∀ v,t2 < (l0 v).length)
  (hbody:∀ (lr:Nat) (pre:List X) (x:X) (post:List X) (v:Value) (b:Nat) (F:SA),all=pre++x::post →
   CS P (some lr) w0.heap.size w0 [] body (Jn5 w0.heap.size w0 M Mx (fact (v=V x)) (pre++[x]) F) (blk b (cs x) T::fact (v=V x)::(M pre++[F])) (l1 v b))
  (hdone:∀ D,QS w0.heap.size w0 (mark D::ds) Q .normal (recd D (.deferred (some []))::(M all++A)) l)
  (hstop:∀ D c pre x post,all=pre++x::post→CS P none w0.heap.size w0 (mark D::ds) c Q (recd D (.deferred (some []))::(Mx c (pre++[x])++A)) l) :
  CS P none w0.heap.size w0 ds (.rangeFunc x #[t] (.region id #[⟨some t2,.alloc T,ty1,ps1,af1,none⟩,⟨none,.store T (.tmp t2) (.tmp t),ty2,ps2,af2,none⟩] false) body) Q (M []++A) l :=
 CS.rangeFuncG (β:=Nat) (l0:=l0) (l1:=l1) (fun x b=>[blk b (cs x) T]) hg he hi M Mx h0 (fun v x lr L' Q' k=>CS.factE (j:=0) rfl fun hv=>CS.region (os:=[_,_]) (WS.alloc hz (h1 v) fun b _=>by
  have e1:(l1 v b)[t2]? = some (.pointer (some ⟨b,0,none⟩)):=Jk2 (h1 v b) (ht2 v)
  have e2:(l1 v b)[t]? = some (V x):=by
   have h2:=Jal (h1 v b)
   have h3:=Jk2 (h0 v) ht
   rw [← h2,List.getElem?_set_ne (Ne.symm hne),h3,hv]
  refine WS.storeW (j:=0) (b:=b) (c:=zs) (vs:=cs x) (e:=T) (n:=n) (by simpa [evo] using e1) rfl (by rw [← hV x]; simpa [evo] using e2) (by rw [hcl,hzl]) (hc1 x) hT (hcl x) rfl ?_
  exact WS.done (k b))) hbody hdone hstop
end
end Go.Proofs.YtkekjhcmephhjaaGreatDoor
namespace Go.Proofs.YtkekjhcmephhjaaGreatDoor
set_option linter.unusedVariables false
set_option linter.unusedSimpArgs false
open Go.RowKit
theorem Jil {f:Move→Bool} {p k:Int} {c m:Nat} (hc:c≤m) (h:∀ n:Int,(c:Int)≤n→f ⟨p,k,n⟩=false):(Jcj p k m).filter f=(Jcj p k c).filter f:=by
 obtain ⟨d,rfl⟩:∃ d,m=c+d:=⟨m - c,by omega⟩
 have e:Jcj p k (c+d)=Jcj p k c++(List.range d).map fun i:Nat=>(⟨p,k,((c+i:Nat):Int)⟩:Move):=by
  simp [Jcj,List.range_add]
 have e2:(List.filter f ((List.range d).map fun i:Nat=>(⟨p,k,((c+i:Nat):Int)⟩:Move)))=[]:=by
  rw [List.filter_eq_nil_iff]
  intro x hx
  obtain ⟨i,_,rfl⟩:=List.mem_map.1 hx
  rw [h _ (by omega)]; simp
 rw [e,List.filter_append,e2,List.append_nil]
theorem Jmv {r:Room} {x:P3} {p k n:Int} (hk:1≤k∧k≤4) (hn:(cntM r k.toNat:Int)≤n):legalB r x ⟨p,k,n⟩=false:=by
 unfold legalB
 split
 ·
  rcases (show k=1∨k=2∨k=3∨k=4 by omega) with h | h | h | h <;> subst h
  ·
   rw [if_pos rfl]
   have hn:(r.wys.l.length:Int)≤n:=hn
   unfold goB
   simp only [Bool.and_eq_false_iff,decide_eq_false_iff_not]
   exact .inl (.inl (.inr (by omega)))
  ·
   rw [if_neg (show ¬ (2:Int)=1 by decide),if_pos rfl]
   have hn:(r.prs.l.length:Int)≤n:=hn
   unfold Jnc
   simp only [Bool.and_eq_false_iff,decide_eq_false_iff_not]
   exact .inl (.inl (.inl (.inr (by omega))))
  ·
   rw [if_neg (show ¬ (3:Int)=1 by decide),if_neg (show ¬ (3:Int)=2 by decide),if_pos rfl]
   have hn:(r.prs.l.length:Int)≤n:=hn
   unfold Jnl
   simp only [Bool.and_eq_false_iff,decide_eq_false_iff_not]
   exact .inl (.inr (by omega))
  rw [if_neg (show ¬ (4:Int)=1 by decide),if_neg (show ¬ (4:Int)=2 by decide),if_neg (show ¬ (4:Int)=3 by decide),if_pos rfl]
  have hn:(r.acs.l.length:Int)≤n:=hn
  unfold doB
  simp only [Bool.and_eq_false_iff,decide_eq_false_iff_not]
  exact .inl (.inr (by omega))
 rfl
theorem Jot {r:Room} (hR:Ready r) (k:Nat):cntM r k≤24:=by
 have:=hR.lens
 unfold cntM
 split <;> omega
theorem Jj6 {r:Room} (hR:Ready r) (x:P3) (p:Int):(kinM r p 5).filter (legalB r x)=(Jr4 p 4).filter (legalB r x):=by
 have h:=fun (k:Nat) (hk:1≤k∧k≤4)=>Jil (f:=legalB r x) (p:=p) (k:=(k:Int)) (c:=cntM r k) (m:=24) (Jot hR k) (fun n hn=>Jmv (by omega) (by simpa using hn))
 have h1:=h 1 (by omega)
 have h2:=h 2 (by omega)
 have h3:=h 3 (by omega)
 have h4:=h 4 (by omega)
 simp only [kinM,Jr4,List.filter_append]
 have h0:Jcj p (0:Nat) (cntM r 0)=[]:=rfl
 rw [h0,List.filter_nil]
 rw [show ((0:Nat):Int)+1=((1:Nat):Int) from rfl,show ((1:Nat):Int)+1=((2:Nat):Int) from rfl,show ((2:Nat):Int)+1=((3:Nat):Int) from rfl,show ((3:Nat):Int)+1=((4:Nat):Int) from rfl,h1,h2,h3,h4,List.nil_append]
theorem Jga {r:Room} (hR:Ready r) (x:P3):∀ q,(allM r q).filter (legalB r x)=(Jsc q).filter (legalB r x)
 | 0=>rfl
 | q+1=>by rw [allM,Jsc,List.filter_append,List.filter_append,Jga hR x q,Jj6 hR]
theorem Jl2 {r:Room} (hR:Ready r) (p:Int):∀ j,(kinM r p j).length≤j * 24
 | 0=>by simp [kinM]
 | j+1=>by
  have:=Jl2 hR p j
  have:=Jot hR j
  simp only [kinM,List.length_append,Jo4]; omega
theorem Jme {r:Room} (hR:Ready r):∀ q,(allM r q).length≤q * 120
 | 0=>by simp [allM]
 | q+1=>by
  have:=Jme hR q
  have:=Jl2 hR q 5
  simp only [allM,List.length_append]; omega
theorem Jlk {α β:Type} [Inhabited α] [Inhabited β] (f:α→β) (hd:f default=default) (l:List α) (i:Int):nth (l.map f) i=f (nth l i):=by
 unfold nth
 simp only [List.getD_eq_getElem?_getD,List.getElem?_map]
 cases h:l[i.toNat]? with
 | none=>simp [hd]
 | some a=>simp
structure Alike (c r:Room):Prop where
 pls:c.pls.l=r.pls.l
 ths:c.ths.l=r.ths.l
 lprs:c.prs.l.length=r.prs.l.length
 prs:c.prs.l.map Pro.e=r.prs.l.map Pro.e
 pr:∀ i,(nth c.prs.l i).nm=(nth r.prs.l i).nm∧(nth c.prs.l i).pl=(nth r.prs.l i).pl∧(nth c.prs.l i).wh.l=(nth r.prs.l i).wh.l
 lwys:c.wys.l.length=r.wys.l.length
 wy:∀ i,(nth c.wys.l i).a=(nth r.wys.l i).a∧(nth c.wys.l i).b=(nth r.wys.l i).b∧(nth c.wys.l i).wh.l=(nth r.wys.l i).wh.l
 lacs:c.acs.l.length=r.acs.l.length
 acs:c.acs.l.map Actn.e=r.acs.l.map Actn.e
 ac:∀ i,(nth c.acs.l i).e=(nth r.acs.l i).e
 laus:c.aus.l.length=r.aus.l.length
 aus:c.aus.l.map Auto.e=r.aus.l.map Auto.e
 au:∀ i,(nth c.aus.l i).t=(nth r.aus.l i).t∧(nth c.aus.l i).s=(nth r.aus.l i).s∧(nth c.aus.l i).wh.l=(nth r.aus.l i).wh.l
 ply:c.ply=r.ply
 gl:c.gl.l=r.gl.l
theorem Jf7 {α:Type} {a b:Sl α} (h:a.e (id:α→α)=b.e id):a.l=b.l:=by
 have:=congrArg Sl.l h
 simpa [Sl.e] using this
theorem Jdg {α β:Type} {f:α→β} {a b:Sl α} (h:a.e f=b.e f):a.l.map f=b.l.map f:=congrArg Sl.l h
theorem Jr3 {α β:Type} [Inhabited α] [Inhabited β] {f:α→β} (hd:f default=default) {l m:List α} (h:l.map f=m.map f) (i:Int):f (nth l i)=f (nth m i):=by
 rw [← Jlk f hd, ← Jlk f hd,h]
theorem Jdr {c r:Room} (h:c.e=r.e):Alike c r:=by
 have h1:c.pls.e id=r.pls.e id:=congrArg Room.pls h
 have h2:c.ths.e id=r.ths.e id:=congrArg Room.ths h
 have h3:c.prs.e Pro.e=r.prs.e Pro.e:=congrArg Room.prs h
 have h4:c.wys.e Way.e=r.wys.e Way.e:=congrArg Room.wys h
 have h5:c.acs.e Actn.e=r.acs.e Actn.e:=congrArg Room.acs h
 have h6:c.aus.e Auto.e=r.aus.e Auto.e:=congrArg Room.aus h
 have h7:c.gl.e id=r.gl.e id:=congrArg Room.gl h
 refine ⟨Jf7 h1,Jf7 h2,Jie (Jdg h3),Jdg h3,fun i=>?_,Jie (Jdg h4),fun i=>?_,Jie (Jdg h5),Jdg h5,fun i=>Jr3 (f:=Actn.e) rfl (Jdg h5) i,Jie (Jdg h6),Jdg h6,fun i=>?_,(by have:=congrArg Room.ply h; exact this),Jf7 h7⟩
 ·
  have:=Jr3 (f:=Pro.e) rfl (Jdg h3) i
  have a1:=congrArg Pro.nm this
  have a2:=congrArg Pro.pl this
  have a3:=congrArg Pro.wh this
  exact ⟨a1,a2,Jf7 a3⟩
 ·
  have:=Jr3 (f:=Way.e) rfl (Jdg h4) i
  have a1:=congrArg Way.a this
  have a2:=congrArg Way.b this
  have a3:=congrArg Way.wh this
  exact ⟨a1,a2,Jf7 a3⟩
 have:=Jr3 (f:=Auto.e) rfl (Jdg h6) i
 have a1:=congrArg Auto.t this
 have a2:=congrArg Auto.s this
 have a3:=congrArg Auto.wh this
 exact ⟨a1,a2,Jf7 a3⟩
structure AlikeA (a b:Actn):Prop where
 nm:a.nm=b.nm
 pl:a.pl=b.pl
 lk:a.lk=b.lk
 us:a.us.l=b.us.l
 wh:a.wh.l=b.wh.l
 se:a.se.l=b.se.l
 sp:a.sp.l=b.sp.l
 br:a.br.l=b.br.l
theorem Jeq {a b:Actn} (h:a.e=b.e):AlikeA a b:=by
 have a1:=congrArg Actn.nm h
 have a2:=congrArg Actn.pl h
 have a3:=congrArg Actn.lk h
 have a4:=congrArg Actn.us h
 have a5:=congrArg Actn.wh h
 have a6:=congrArg Actn.se h
 have a7:=congrArg Actn.sp h
 have a8:=congrArg Actn.br h
 exact ⟨a1,a2,a3,Jf7 a4,Jf7 a5,Jf7 a6,Jf7 a7,Jf7 a8⟩
theorem Jl4 {α:Type} [Inhabited α] {f:α→ByteArray} {l m:List α} (h:l.map f=m.map f) (hn:∀ i,f (nth l i)=f (nth m i)) (i:Int):newB f l i=newB f m i:=by
 unfold newB
 have e:∀ (l:List α) (x:ByteArray),((l.take i.toNat).any fun y=>seq (f y) x)=(((l.map f).take i.toNat).any fun y=>seq y x):=fun l x=>by
  rw [← List.map_take,List.any_map]; rfl
 rw [e,e,h,hn]
theorem Jfv {α β:Type} (f:α→β) (p:α→Bool) (q:β→Bool) (hp:∀ a,p a=q (f a)) (l:List α):idxF p l=idxF q (l.map f):=by
 unfold idxF
 rw [List.findIdx?_map,show (q ∘ f)=p from funext fun a=>(hp a).symm]
theorem Alike.nms {c r:Room} (h:Alike c r):c.prs.l.map Pro.nm=r.prs.l.map Pro.nm:=by
 have:=congrArg (List.map Pro.nm) h.prs
 simpa [List.map_map,Function.comp_def,Pro.e] using this
theorem Alike.anms {c r:Room} (h:Alike c r):c.acs.l.map Actn.nm=r.acs.l.map Actn.nm:=by
 have:=congrArg (List.map Actn.nm) h.acs
 simpa [List.map_map,Function.comp_def,Actn.e] using this
theorem Alike.manyB {c r:Room} (h:Alike c r):manyB c=manyB r:=by unfold Go.Proofs.YtkekjhcmephhjaaGreatDoor.manyB; rw [h.pls,h.ths,h.lprs,h.lwys,h.lacs,h.laus]
theorem Alike.placeB {c r:Room} (h:Alike c r) (n:Int):placeB c n=placeB r n:=by unfold Go.Proofs.YtkekjhcmephhjaaGreatDoor.placeB; rw [h.pls]
theorem Alike.plO {c r:Room} (h:Alike c r):plO c=plO r:=by funext i; unfold Go.Proofs.YtkekjhcmephhjaaGreatDoor.plO; rw [h.pls]
theorem Alike.thO {c r:Room} (h:Alike c r):thO c=thO r:=by funext i; unfold Go.Proofs.YtkekjhcmephhjaaGreatDoor.thO thB; rw [h.ths,h.placeB]
theorem Alike.whO {c r:Room} (h:Alike c r) (l:List Lit):whO c l=whO r l:=by unfold Go.Proofs.YtkekjhcmephhjaaGreatDoor.whO; rw [h.ths]
theorem Alike.prO {c r:Room} (h:Alike c r):prO c=prO r:=by
 funext i
 unfold Go.Proofs.YtkekjhcmephhjaaGreatDoor.prO
 rw [h.whO,Jl4 h.nms (fun i=>(h.pr i).1),(h.pr i).1,(h.pr i).2.1,(h.pr i).2.2,h.placeB]
theorem Alike.wyO {c r:Room} (h:Alike c r):wyO c=wyO r:=by
 funext i
 unfold Go.Proofs.YtkekjhcmephhjaaGreatDoor.wyO
 rw [h.whO,(h.wy i).1,(h.wy i).2.1,(h.wy i).2.2,h.placeB,h.placeB]
theorem Alike.actB {c r:Room} (h:Alike c r) (i:Int):actB c i=actB r i:=by
 have ha:=Jeq (h.ac i)
 unfold Go.Proofs.YtkekjhcmephhjaaGreatDoor.actB act2 act3 act4 act5
 rw [Jl4 h.anms (fun i=>(Jeq (h.ac i)).nm),ha.nm,ha.pl,ha.lk,ha.us,ha.se,ha.sp,ha.br,h.placeB,h.lprs,h.ths]
theorem Alike.acO {c r:Room} (h:Alike c r):acO c=acO r:=by
 funext i
 unfold Go.Proofs.YtkekjhcmephhjaaGreatDoor.acO
 rw [h.whO,h.actB,(Jeq (h.ac i)).wh]
theorem Alike.auO {c r:Room} (h:Alike c r):auO c=auO r:=by
 funext i
 unfold Go.Proofs.YtkekjhcmephhjaaGreatDoor.auO
 rw [h.whO,h.ths,(h.au i).1,(h.au i).2.1,(h.au i).2.2]
theorem Alike.checkE {c r:Room} (h:Alike c r):checkE c=checkE r:=by
 unfold Go.Proofs.YtkekjhcmephhjaaGreatDoor.checkE Jez Jgi Jec Jep Jd7 Jea glO
 rw [h.manyB,h.plO,h.thO,h.prO,h.wyO,h.acO,h.auO,h.whO,h.pls,h.ths,h.lprs,h.lwys,h.lacs,h.laus,h.ply,h.gl]
theorem Alike.stE {c r:Room} (h:Alike c r) (a b d:List Int):stE c a b d=stE r a b d:=by
 have e1:Jgy c a=Jgy r a:=by funext i; unfold Jgy; rw [h.ths]
 have e2:Jg0 c b=Jg0 r b:=by funext i; unfold Jg0; rw [h.placeB,h.ply]
 have e3:Jgw c d=Jgw r d:=by funext i; unfold Jgw; rw [h.placeB]
 unfold Go.Proofs.YtkekjhcmephhjaaGreatDoor.stE
 rw [e1,e2,e3,h.ths,h.lprs,h.ply]
theorem Alike.stL {c r:Room} (h:Alike c r) (x:P3):stL c x=stL r x:=by unfold Go.Proofs.YtkekjhcmephhjaaGreatDoor.stL; rw [h.checkE,h.stE]
theorem Alike.autoI {c r:Room} (h:Alike c r) (ths:List Int):autoI c.aus.l ths=autoI r.aus.l ths:=by
 unfold Go.Proofs.YtkekjhcmephhjaaGreatDoor.autoI
 rw [Jfv Auto.e _ (fun a=>Jdo ths a.wh.l && !decide (nth ths a.t=a.s)) (fun a=>by simp [Auto.e,Sl.e]),h.aus, ← Jfv Auto.e (fun a=>Jdo ths a.wh.l && !decide (nth ths a.t=a.s)) _ (fun a=>by simp [Auto.e,Sl.e])]
theorem Alike.settleN {c r:Room} (h:Alike c r):∀ (n:Nat) (ths:List Int),settleN c.aus.l n ths=settleN r.aus.l n ths
 | 0,_=>rfl
 | n+1,ths=>by rw [Go.Proofs.YtkekjhcmephhjaaGreatDoor.settleN,Go.Proofs.YtkekjhcmephhjaaGreatDoor.settleN,h.autoI,(h.au _).1,(h.au _).2.1,Alike.settleN h n]
theorem Alike.settleV {c r:Room} (h:Alike c r) (x:P3):settleV c x=settleV r x:=by unfold Go.Proofs.YtkekjhcmephhjaaGreatDoor.settleV; rw [h.settleN]
theorem Alike.SettleV {c r:Room} (h:Alike c r) (x:P3):SettleV c x=SettleV r x:=by
 unfold Go.Proofs.YtkekjhcmephhjaaGreatDoor.SettleV
 rw [h.stL,h.settleV]
 cases Go.Proofs.YtkekjhcmephhjaaGreatDoor.settleV r x <;> rfl
theorem Alike.BeginV {c r:Room} (h:Alike c r):BeginV c=BeginV r:=by
 have e:Jb7 c=Jb7 r:=by
  have:=congrArg (List.map Pro.pl) h.prs
  rw [List.map_map,List.map_map] at this
  unfold Jb7
  rw [h.ths,h.ply,show c.prs.l.map Pro.pl=r.prs.l.map Pro.pl from this]
 unfold Go.Proofs.YtkekjhcmephhjaaGreatDoor.BeginV
 rw [h.checkE,e,h.SettleV]
theorem Alike.legalB {c r:Room} (h:Alike c r) (x:P3) (m:Move):legalB c x m=legalB r x m:=by
 have ha:=Jeq (h.ac m.n)
 unfold Go.Proofs.YtkekjhcmephhjaaGreatDoor.legalB goB Jnc Jnl doB Js1 Jo1 Jpi
 rw [h.ply,h.lwys,h.lprs,h.lacs,(h.wy m.n).1,(h.wy m.n).2.1,(h.wy m.n).2.2,(h.pr m.n).2.2,ha.us,ha.br,ha.sp,ha.pl,ha.wh]
theorem Alike.moveX {c r:Room} (h:Alike c r) (x:P3) (m:Move):moveX c x m=moveX r x m:=by
 have ha:=Jeq (h.ac m.n)
 unfold Go.Proofs.YtkekjhcmephhjaaGreatDoor.moveX
 rw [(h.wy m.n).1,(h.wy m.n).2.1,ha.se,ha.sp,ha.br]
theorem Alike.StepV {c r:Room} (h:Alike c r) (x:P3) (m:Move):StepV c x m=StepV r x m:=by
 unfold Go.Proofs.YtkekjhcmephhjaaGreatDoor.StepV
 rw [h.stL,h.legalB,h.moveX,h.settleV]
 cases Go.Proofs.YtkekjhcmephhjaaGreatDoor.settleV r (Go.Proofs.YtkekjhcmephhjaaGreatDoor.moveX r x m) <;> rfl
theorem Alike.LegalV {c r:Room} (h:Alike c r) (x:P3):LegalV c x=LegalV r x:=by
 unfold Go.Proofs.YtkekjhcmephhjaaGreatDoor.LegalV Jtv
 rw [h.stL,h.ply,show Go.Proofs.YtkekjhcmephhjaaGreatDoor.legalB c x=Go.Proofs.YtkekjhcmephhjaaGreatDoor.legalB r x from funext fun m=>h.legalB x m]
theorem Alike.symm {c r:Room} (h:c.e=r.e):Alike r c:=Jdr h.symm
theorem Jxa {c r:Room} (h:c.e=r.e) (hn:Near r):Near c:=by
 have ha:=Jdr h
 have hp:=fun i=>(ha.pr i)
 refine ⟨by rw [ha.pls]; exact hn.pls,by rw [ha.ths]; exact hn.ths,by rw [ha.lprs]; exact hn.prs,by rw [ha.lwys]; exact hn.wys,by rw [ha.lacs]; exact hn.acs,by rw [ha.laus]; exact hn.aus,by rw [ha.gl]; exact hn.gl,by rw [ha.pls]; exact hn.pl,by rw [ha.ths]; exact hn.th,fun x hx=>?_,fun x hx=>?_,fun x hx=>?_,fun x hx=>?_⟩
 ·
  obtain ⟨i,h0,h1,rfl⟩:=Jbh hx
  have:=hn.pr _ (Jap (i:=i) h0 (by rw [← ha.lprs]; exact h1))
  rw [(ha.pr i).1,(ha.pr i).2.2]; exact this
 ·
  obtain ⟨i,h0,h1,rfl⟩:=Jbh hx
  have:=hn.wy _ (Jap (i:=i) h0 (by rw [← ha.lwys]; exact h1))
  rw [(ha.wy i).2.2]; exact this
 ·
  obtain ⟨i,h0,h1,rfl⟩:=Jbh hx
  have:=hn.ac _ (Jap (i:=i) h0 (by rw [← ha.lacs]; exact h1))
  have hb:=Jeq (ha.ac i)
  rw [hb.nm,hb.wh,hb.us,hb.se,hb.sp,hb.br]; exact this
 obtain ⟨i,h0,h1,rfl⟩:=Jbh hx
 have:=hn.au _ (Jap (i:=i) h0 (by rw [← ha.laus]; exact h1))
 rw [(ha.au i).2.2]; exact this
end Go.Proofs.YtkekjhcmephhjaaGreatDoor
namespace Go.Proofs.YtkekjhcmephhjaaGreatDoor
set_option linter.unusedVariables false
set_option linter.unusedSimpArgs false
open Go.RowKit Go.Proofs
section
variable {P:Program} {l:List Value} {d:Option Tmp} {ty:TypeId} {ps:String} {af:Array Edge} {g:Option (Nat × Bool)} {C:World→Prop}
theorem Jpe {T:TypeId} {x y z:Operand} {a:ByteArray} {i j:Int} (hT:P.underlying T=some .string) (hx:evo l x=some (.string a)) (hy:evo l y=some (.int .i64 i)) (hz:evo l z=some (.int .i64 j))
  (h:0≤i∧i≤j∧j≤a.size):Det P C ⟨d,.slice T x (some y) (some z) none,ty,ps,af,g⟩ l (.string (a.extract i.toNat j.toNat)):=fun u _=>by
 (replace hx:=Jam hx; replace hy:=Jam hy; replace hz:=Jam hz)
 have e1:(0≤j∧j≤(a.size:Int)):=by omega
 have e2:0≤i∧i≤max j 0:=by omega
 simp [execOp,Jan,hx,hy,hz,Instr.sliceAt,Instr.slice,Instr.sliceBounds,Instr.sliceBound,asIntOf,run_underlying hT,e1,e2]
theorem Jg2 {T:TypeId} {x y:Operand} {a:ByteArray} {i:Int} (hT:P.underlying T=some .string) (hx:evo l x=some (.string a)) (hy:evo l y=some (.int .i64 i))
  (h:0≤i∧i≤a.size):Det P C ⟨d,.slice T x (some y) none none,ty,ps,af,g⟩ l (.string (a.extract i.toNat a.size)):=fun u _=>by
 (replace hx:=Jam hx; replace hy:=Jam hy)
 simp [execOp,Jan,hx,hy,Instr.sliceAt,Instr.slice,Instr.sliceBounds,Instr.sliceBound,asIntOf,run_underlying hT,h.1,h.2]
end
def digB (n:Int):ByteArray:=⟨(Lib.decDigits n.toNat).toArray⟩
def whP (r:Room) (v:Int):ByteArray:=if 0≤v then nth r.pls.l v else if v ≤ -2 then digB (-2 - v) else ⟨#[103,111,110,101]⟩
def pcT (r:Room) (x:P3) (i:Int):ByteArray:=(nth r.ths.l i).nm++(⟨#[61]⟩:ByteArray)++digB (nth x.1 i)
def pcP (r:Room) (x:P3) (i:Int):ByteArray:=(nth r.prs.l i).nm++(⟨#[64]⟩:ByteArray)++whP r (nth x.2.1 i)
def pcL (r:Room) (x:P3) (i:Int):ByteArray:=digB i++(⟨#[64]⟩:ByteArray)++nth r.pls.l (nth x.2.2 i)
def pcs (r:Room) (x:P3):List ByteArray:=(Jhx r.ths.l.length).map (pcT r x)++(Jhx r.prs.l.length).map (pcP r x)++(Jhx x.2.2.length).map (pcL r x)
structure Shown (r:Room) (x:P3):Prop where
 lt:x.1.length=r.ths.l.length
 lp:x.2.1.length=r.prs.l.length
 ll:1≤x.2.2.length∧x.2.2.length≤4
 th:∀ i:Int,0≤i→i < x.1.length→0≤nth x.1 i∧nth x.1 i < 10
 pr:∀ i:Int,0≤i→i < x.2.1.length→(0≤nth x.2.1 i∧nth x.2.1 i < r.pls.l.length)∨nth x.2.1 i = -1∨(-5≤nth x.2.1 i∧nth x.2.1 i ≤ -2)
 pl:∀ i:Int,0≤i→i < x.2.2.length→0≤nth x.2.2 i∧nth x.2.2 i < r.pls.l.length
theorem Jv5 {n:Int} (h : -9223372036854775808≤n∧n≤9223372036854775807):IntKind.i64.wrap n=n:=IntWalk.i64_in _ h
theorem Jw7 {r:Room} {x:Thing} (h:thB r x=true):2≤x.st∧x.st≤6:=by
 simp only [thB,Bool.and_eq_true,decide_eq_true_eq] at h
 omega
theorem Shown.of {r:Room} {x:P3} (hR:Ready r) (hI:StIn r x):Shown r x:=by
 have hl:=hI.ll
 have hp:=hR.ply
 refine ⟨hI.lt,hI.lp,by omega,fun i h0 h1=>?_,fun i h0 h1=>?_,fun i h0 h1=>?_⟩
 ·
  have h:=hI.th i h0 h1
  have h2:=Jw7 (hR.ths _ (Jap h0 (show i < (r.ths.l.length:Int) by rw [← hI.lt]; exact h1)))
  simp only [putB,Bool.and_eq_true,decide_eq_true_eq] at h
  rw [Jv5 (by omega)] at h
  omega
 ·
  have h:=hI.pr i h0 h1
  simp only [placeB,Bool.or_eq_true,Bool.and_eq_true,decide_eq_true_eq] at h
  omega
 have h:=hI.pl i h0 h1
 simp only [placeB,Bool.and_eq_true,decide_eq_true_eq] at h
 omega
section
variable {P:Program} {ro:Option Nat} {n0:Nat} {w0:World} {ds:List Deferred} {ops:Array Oper} {Q:Exit→Act→World→Prop} {L:List SA} {rest:List Oper} {l:List Value} {ty:TypeId} {ps:String} {af:Array Edge}
theorem WS.buildS1 {T e:TypeId} {by_ i:Nat} {x:Operand} {b:ByteArray} {zc:List Value} (hT:sl P T=some (e,1,by_)) (hz:zv P e=some zc) (hx:evo l x=some (.string b))
  {l':Value→List Value} (hl:∀ v,lset l i v=some (l' v)) (kk:∀ v,WS P ro n0 w0 ds ops Q (oT cStr e v [b]::L) rest (l' v)) :
  WS P ro n0 w0 ds ops Q L (⟨some i,.buildSlice T 1 #[(0,x)],ty,ps,af,none⟩::rest) l :=
 WS.buildSlice1 (pl:=[(0,x)]) (vs:=[.string b]) hT hz (by simp [Jam hx]) rfl (by decide) (fun v hv=>by simp at hv; subst hv; rfl) hl kk
end
abbrev bl (t:ByteArray):List UInt8:=t.data.toList
abbrev ba (l:List UInt8):ByteArray:=⟨l.toArray⟩
theorem Jzq (t:ByteArray):ba (bl t)=t:=rfl
theorem Jbw (t:ByteArray):(bl t).length=t.size:=by simp
theorem Jli {a b:ByteArray}:seq a b=true ↔ a=b:=Lib.bytes_beq_iff a b
theorem Jdu {t:ByteArray} {i:Nat} (h:i < t.size):byt t (i:Int)=(((bl t)[i]'(by rw [Jbw]; exact h)).toNat:Int):=by
 unfold byt
 rw [show ((i:Int)).toNat=i by omega]
 have e:t[i]? = some (t[i]'h):=by simp [h]
 rw [e]
 rfl
theorem Jl8 {t:ByteArray} {i:Int}:0≤byt t i∧byt t i≤255:=by
 unfold byt
 split
 ·
  rename_i b _
  have:=b.toNat_lt
  omega
 omega
def Jbm (c:UInt8):List UInt8→List (List UInt8)
 | []=>[[]]
 | b::r=>if b=c then []::Jbm c r else match Jbm c r with
  | x::xs=>(b::x)::xs
  | []=>[[b]]
theorem Jnf (c:UInt8):∀ l,0 < (Jbm c l).length
 | []=>by simp [Jbm]
 | b::r=>by
  unfold Jbm
  split
  ·
   simp
  split <;> simp
theorem Jdx {c:UInt8}:∀ {l:List UInt8},c ∉ l→Jbm c l=[l]
 | [],_=>rfl
 | b::r,h=>by
  have h1:¬ b=c:=fun e=>h (by simp [e])
  have h2:c ∉ r:=fun e=>h (by simp [e])
  unfold Jbm
  rw [if_neg h1,Jdx h2]
theorem Je3 {c:UInt8}:∀ {l m:List UInt8},c ∉ l→Jbm c (l++c::m)=l::Jbm c m
 | [],m,_=>by simp [Jbm]
 | b::r,m,h=>by
  have h1:¬ b=c:=fun e=>h (by simp [e])
  have h2:c ∉ r:=fun e=>h (by simp [e])
  rw [List.cons_append,Jbm,if_neg h1,Je3 h2]
def Jaf (c:UInt8) (t:ByteArray):List ByteArray:=(Jbm c (bl t)).map ba
theorem Jcw (c:UInt8) (t:ByteArray):0 < (Jaf c t).length:=by simp [Jaf,Jnf]
theorem Jhl (c:UInt8):∀ l:List UInt8,Lib.splitK [c] 0 (Lib.count l [c]) l=Jbm c l
 | []=>by rw [Lib.count_one]; rfl
 | b::r=>by
  have ih:=Jhl c r
  by_cases h:b=c
  ·
   subst h
   rw [Lib.count_cons_eq,Nat.add_comm]
   unfold Lib.splitK Jbm
   have hi:Lib.index (b::r) [b]=0:=by rw [Lib.index]; simp [List.isPrefixOf]
   rw [hi,if_neg (by decide),if_pos rfl]
   simp [ih]
  rw [Lib.count_cons_ne _ _ _ h]
  have hp:([c]:List UInt8).isPrefixOf (b::r)=false:=by simp [List.isPrefixOf,Ne.symm h]
  have hi:Lib.index (b::r) [c]=if Lib.index r [c] == -1 then -1 else Lib.index r [c]+1:=by rw [Lib.index,hp]; simp
  unfold Jbm
  rw [if_neg h, ← ih]
  cases hk:Lib.count r [c] with
  | zero=>rfl
  | succ k =>
   have hne:¬ Lib.index r [c] = -1:=fun e=>by rw [Lib.count_miss e] at hk; cases hk
   have hge:=Lib.index_ge r [c]
   unfold Lib.splitK
   rw [hi,if_neg (show ¬ (Lib.index r [c] == -1)=true by simpa using hne),if_neg (show ¬ (Lib.index r [c]+1 == -1)=true by simp; omega)]
   have e1:(Lib.index r [c]+1).toNat=(Lib.index r [c]).toNat+1:=by omega
   simp only [e1,Nat.add_zero,List.take_succ_cons,List.length_cons,List.length_nil,Nat.zero_add,List.drop_succ_cons]
   rw [if_neg (show ¬ (Lib.index r [c] == -1)=true by simpa using hne)]
theorem Jhf (c:UInt8) (s:ByteArray):Lib.splitB ⟨#[c]⟩ 0 (Lib.countB s ⟨#[c]⟩) s=Jaf c s:=by
 have h:=Lib.splitB_data ⟨#[c]⟩ 0 (Lib.countB s ⟨#[c]⟩) s
 have h2:Lib.splitK [c] 0 (Lib.count (bl s) [c]) (bl s)=Jbm c (bl s):=Jhl c (bl s)
 have h3:(Lib.splitB ⟨#[c]⟩ 0 (Lib.countB s ⟨#[c]⟩) s).map bl=Jbm c (bl s):=h.trans h2
 unfold Jaf
 rw [← h3,List.map_map]
 conv=>lhs; rw [← List.map_id (Lib.splitB ⟨#[c]⟩ 0 (Lib.countB s ⟨#[c]⟩) s)]
 rfl
theorem Jnm (c:UInt8) (s:ByteArray):Lib.countB s ⟨#[c]⟩+1=(Jaf c s).length:=by
 rw [← Jhf,Lib.splitB_all ⟨#[c]⟩ (show 1≤1 by decide) 0 _ _ rfl]
def SplitI (c:UInt8) (t:ByteArray) (i f:Int) (xs:List ByteArray):Prop :=
 (0≤f∧f≤i∧i≤t.size∧c ∉ ((bl t).drop f.toNat).take (i.toNat - f.toNat)∧xs++(Jbm c ((bl t).drop f.toNat)).map ba=Jaf c t)∨(i=t.size+1∧xs=Jaf c t)
theorem SplitI.start (c:UInt8) (t:ByteArray):SplitI c t 0 0 []:=.inl ⟨by omega,by omega,by omega,by simp,by simp [Jaf]⟩
theorem Jtt {t:ByteArray} {a b:Nat}:t.extract a b=ba (((bl t).drop a).take (b - a)):=by
 apply ByteArray.ext
 apply Array.toList_inj.1
 show _=(((bl t).drop a).take (b - a))
 rw [ByteArray.data_extract,Array.toList_extract]
theorem SplitI.other {c:UInt8} {t:ByteArray} {i f:Int} {xs:List ByteArray} (h:SplitI c t i f xs) (hi:i < t.size) (hb:¬ byt t i=(c.toNat:Int)):SplitI c t (i+1) f xs:=by
 rcases h with ⟨h0,h1,h2,h3,h4⟩ | ⟨h1,_⟩
 ·
  refine .inl ⟨h0,by omega,by omega,?_,h4⟩
  rw [show (i+1).toNat - f.toNat=(i.toNat - f.toNat)+1 by omega]
  have hl:i.toNat - f.toNat < ((bl t).drop f.toNat).length:=by rw [List.length_drop,Jbw]; omega
  rw [List.take_succ_eq_append_getElem hl,List.mem_append,not_or]
  refine ⟨h3,fun hm=>hb ?_⟩
  rw [List.mem_singleton,List.getElem_drop] at hm
  have e:=Jdu (t:=t) (i:=i.toNat) (by omega)
  rw [show ((i.toNat:Nat):Int)=i by omega] at e
  rw [e,hm]
  congr 2
  congr 1
  omega
 omega
theorem SplitI.hit {c:UInt8} {t:ByteArray} {i f:Int} {xs:List ByteArray} (h:SplitI c t i f xs) (hi:i < t.size) (hb:byt t i=(c.toNat:Int)):SplitI c t (i+1) (i+1) (xs++[t.extract f.toNat i.toNat]):=by
 rcases h with ⟨h0,h1,h2,h3,h4⟩ | ⟨h1,_⟩
 ·
  refine .inl ⟨by omega,by omega,by omega,by simp,?_⟩
  have hi2:i.toNat < (bl t).length:=by rw [Jbw]; omega
  have e0:(bl t).drop i.toNat=c::(bl t).drop (i+1).toNat:=by
   rw [List.drop_eq_getElem_cons hi2,show (i+1).toNat=i.toNat+1 by omega]
   congr 1
   have e:=Jdu (t:=t) (i:=i.toNat) (by omega)
   rw [show ((i.toNat:Nat):Int)=i by omega] at e
   rw [hb] at e
   exact (UInt8.toNat_inj.1 (by omega)).symm
  have e:(bl t).drop f.toNat=((bl t).drop f.toNat).take (i.toNat - f.toNat)++c::(bl t).drop (i+1).toNat:=by
   conv=>lhs; rw [← List.take_append_drop (i.toNat - f.toNat) ((bl t).drop f.toNat)]
   rw [List.drop_drop,show f.toNat+(i.toNat - f.toNat)=i.toNat by omega,e0]
  rw [← h4]
  conv=>rhs; rw [e,Je3 h3]
  rw [Jtt,List.append_assoc]
  rfl
 omega
theorem SplitI.last {c:UInt8} {t:ByteArray} {i f:Int} {xs:List ByteArray} (h:SplitI c t i f xs) (hi:i=t.size):SplitI c t (i+1) (i+1) (xs++[t.extract f.toNat i.toNat]):=by
 rcases h with ⟨h0,h1,h2,h3,h4⟩ | ⟨h1,_⟩
 ·
  refine .inr ⟨by omega,?_⟩
  have e:((bl t).drop f.toNat).take (i.toNat - f.toNat)=(bl t).drop f.toNat:=List.take_of_length_le (by rw [List.length_drop,Jbw]; omega)
  rw [e] at h3
  rw [← h4,Jdx h3,Jtt,e]
  rfl
 omega
theorem SplitI.fin {c:UInt8} {t:ByteArray} {i f:Int} {xs:List ByteArray} (h:SplitI c t i f xs) (hi:¬ i≤t.size):xs=Jaf c t:=by
 rcases h with ⟨h0,h1,h2,h3,h4⟩ | ⟨h1,h2⟩
 ·
  omega
 exact h2
theorem SplitI.bd {c:UInt8} {t:ByteArray} {i f:Int} {xs:List ByteArray} (h:SplitI c t i f xs) (hi:i≤t.size):0≤f∧f≤i:=by
 rcases h with ⟨h0,h1,_⟩ | ⟨h1,_⟩
 ·
  exact ⟨h0,h1⟩
 omega
theorem Jhe (c:UInt8):∀ l:List UInt8,(Jbm c l).length≤l.length+1
 | []=>by simp [Jbm]
 | b::r=>by
  have ih:=Jhe c r
  unfold Jbm
  split
  ·
   simp; omega
  split
  ·
   rename_i x xs h
   rw [h] at ih
   simp at ih ⊢; omega
  simp
theorem Jca (c:UInt8) (t:ByteArray):(Jaf c t).length≤t.size+1:=by
 have:=Jhe c (bl t)
 simp only [Jaf,List.length_map]
 rw [Jbw] at this
 exact this
theorem SplitI.len {c:UInt8} {t:ByteArray} {i f:Int} {xs:List ByteArray} (h:SplitI c t i f xs):xs.length≤t.size+1:=by
 have hl:=Jca c t
 rcases h with ⟨_,_,_,_,h4⟩ | ⟨_,h2⟩
 ·
  have:=congrArg List.length h4
  rw [List.length_append] at this
  omega
 rw [h2]; exact hl
theorem Jip (c:UInt8):∀ (l x:List UInt8),x∈Jbm c l→x.length≤l.length
 | [],x,h=>by simp [Jbm] at h; subst h; simp
 | b::r,x,h=>by
  have ih:=Jip c r
  unfold Jbm at h
  split at h
  ·
   rcases List.mem_cons.1 h with rfl | h
   ·
    simp
   have:=ih x h; simp; omega
  split at h
  ·
   rename_i y ys hs
   rw [hs] at ih
   rcases List.mem_cons.1 h with rfl | h
   ·
    have:=ih y (by simp); simp; omega
   have:=ih x (by simp [h]); simp; omega
  rcases List.mem_cons.1 h with rfl | h
  ·
   simp
  cases h
theorem Jdc {c:UInt8} {t x:ByteArray} (h:x∈Jaf c t):x.size≤t.size:=by
 obtain ⟨l,hl,rfl⟩:=List.mem_map.1 h
 have:=Jip c _ _ hl
 rw [Jbw] at this
 exact this
def Jcg (l:List UInt8):Bool:=l.all fun b=>decide (48≤b.toNat) && decide (b.toNat≤57)
def Jbg (t:ByteArray) (most:Int):Bool:=(decide ((1:Int)≤t.size) && decide ((t.size:Int)≤most)) && Jcg (bl t)
theorem Jvt {t:ByteArray} (h:∀ j:Int,0≤j→j < t.size→48≤byt t j∧byt t j≤57):Jcg (bl t)=true:=by
 unfold Jcg
 rw [List.all_eq_true]
 intro b hb
 obtain ⟨i,hi,rfl⟩:=List.mem_iff_getElem.1 hb
 have hi2:i < t.size:=by rw [← Jbw]; exact hi
 have:=h i (by omega) (by omega)
 rw [Jdu hi2] at this
 simp only [Bool.and_eq_true,decide_eq_true_eq]
 omega
theorem Jxs {t:ByteArray} (h:Jcg (bl t)=true) {j:Int} (h0:0≤j) (h1:j < t.size):48≤byt t j∧byt t j≤57:=by
 have hj:j.toNat < t.size:=by omega
 have e:=Jdu hj
 rw [show ((j.toNat:Nat):Int)=j by omega] at e
 unfold Jcg at h
 have:=List.all_eq_true.1 h _ (List.getElem_mem (show j.toNat < (bl t).length by rw [Jbw]; exact hj))
 simp only [Bool.and_eq_true,decide_eq_true_eq] at this
 omega
theorem Jw9 {t:ByteArray} {i:Int} (h0:0≤i) (h1:i < t.size) (h:byt t i < 48∨57 < byt t i):Jcg (bl t)=false:=by
 cases hd:Jcg (bl t) with
 | false=>rfl
 | true=>have:=Jxs hd h0 h1; omega
def decL:List UInt8:=[48,49,50,51,52,53,54,55,56,57]
theorem Jn8 (b:UInt8):decL.contains b=(decide (48≤b.toNat) && decide (b.toNat≤57)):=by
 have h:∀ n:Nat,n < 256→∀ m:Nat,m < 256→(UInt8.ofNat n=UInt8.ofNat m ↔ n=m):=fun n hn m hm=>by
  rw [← UInt8.toNat_inj]; simp [Nat.mod_eq_of_lt hn,Nat.mod_eq_of_lt hm]
 rw [Bool.eq_iff_iff]
 simp only [decL,List.contains_cons,List.contains_nil,Bool.or_false,Bool.or_eq_true,beq_iff_eq,Bool.and_eq_true,decide_eq_true_eq, ← UInt8.toNat_inj]
 have:=b.toNat_lt
 have e:(48:UInt8).toNat=48∧(49:UInt8).toNat=49∧(50:UInt8).toNat=50∧(51:UInt8).toNat=51∧(52:UInt8).toNat=52∧(53:UInt8).toNat=53∧(54:UInt8).toNat=54∧(55:UInt8).toNat=55∧(56:UInt8).toNat=56∧(57:UInt8).toNat=57:=by decide
 omega
theorem Jf0 {p:UInt8→Bool}:∀ {l:List UInt8},l.dropWhile p=[] ↔ l.all p=true
 | []=>by simp
 | b::r=>by
  rw [List.dropWhile_cons]
  split
  ·
   rename_i h; rw [Jf0,List.all_cons,h,Bool.true_and]
  rename_i h; simp [h]
theorem Jr5 (l:List UInt8):(Lib.trimS l decL=[]) ↔ Jcg l=true:=by
 have e:∀ m:List UInt8,(m.all fun b=>decL.contains b)=Jcg m:=fun m=>by
  unfold Jcg
  congr 1
  funext b
  exact Jn8 b
 unfold Lib.trimS Lib.trimLeftS Lib.trimRightS
 rw [Jf0,List.all_reverse,e]
 constructor
 ·
  intro h
  by_cases hd:l.reverse.dropWhile (fun b=>decL.contains b)=[]
  ·
   rw [Jf0,List.all_reverse,e] at hd; exact hd
  exfalso
  have h1:=List.head_dropWhile_not (fun b=>decL.contains b) hd
  have h2:(l.reverse.dropWhile fun b=>decL.contains b).head hd∈l.reverse.dropWhile fun b=>decL.contains b:=List.head_mem hd
  have h3:=List.all_eq_true.1 h _ h2
  rw [Jn8] at h1
  rw [h3] at h1
  cases h1
 intro h
 have:l.reverse.dropWhile (fun b=>decL.contains b)=[]:=by rw [Jf0,List.all_reverse,e]; exact h
 rw [this]; rfl
theorem Jsq (t:ByteArray):seq ⟨(Lib.trimS (bl t) decL).toArray⟩ ⟨#[]⟩=Jcg (bl t):=by
 rw [Bool.eq_iff_iff,Jli, ← Jr5]
 constructor
 ·
  intro h
  have:=congrArg (fun x:ByteArray=>x.data.toList) h
  simpa using this
 intro h; rw [h]
def numL (l:List UInt8):Int:=l.foldl (fun n b=>10 * n+((b.toNat:Int) - 48)) 0
def numB (most:Int) (t:ByteArray):Option Int:=if Jbg t most && !(decide (byt t 0=48) && decide ((1:Int) < t.size)) then some (numL (bl t)) else none
theorem Jl1:∀ (l:List UInt8) (acc:Nat),Jcg l=true→∃ n:Nat,Lib.decFrom acc l=some n∧(n:Int)=l.foldl (fun n b=>10 * n+((b.toNat:Int) - 48)) (acc:Int)
 | [],acc,_=>⟨acc,rfl,rfl⟩
 | b::r,acc,h=>by
  simp only [Jcg,List.all_cons,Bool.and_eq_true,decide_eq_true_eq] at h
  have hd:Lib.digitVal b=some (b.toNat - 48):=by unfold Lib.digitVal; rw [if_pos h.1]
  obtain ⟨n,h1,h2⟩:=Jl1 r (acc * 10+(b.toNat - 48)) (by simpa [Jcg] using h.2)
  refine ⟨n,by unfold Lib.decFrom; rw [hd]; exact h1,?_⟩
  rw [h2,List.foldl_cons]
  congr 1
  omega
theorem Jr7 {t:ByteArray} {most:Int} (h:Jbg t most=true):Lib.atoi (bl t)=some (numL (bl t)):=by
 simp only [Jbg,Bool.and_eq_true,decide_eq_true_eq] at h
 have hne:bl t≠[]:=fun e=>by have:=Jbw t; rw [e] at this; simp at this; omega
 obtain ⟨n,h1,h2⟩:=Jl1 (bl t) 0 h.2
 cases hb:bl t with
 | nil=>exact absurd hb hne
 | cons b r =>
  rw [hb] at h1 h2
  have hd:=h.2
  rw [hb] at hd
  simp only [Jcg,List.all_cons,Bool.and_eq_true,decide_eq_true_eq] at hd
  have e1:(b == 45)=false:=by
   rw [beq_eq_false_iff_ne]; rintro rfl
   have:(45:UInt8).toNat=45:=by decide
   omega
  have e2:(b == 43)=false:=by
   rw [beq_eq_false_iff_ne]; rintro rfl
   have:(43:UInt8).toNat=43:=by decide
   omega
  simp only [Lib.atoi,e1,e2,Bool.false_eq_true,if_false,Lib.decNat,List.isEmpty_cons,h1,Option.map_some]
  rw [h2]; rfl
theorem Jo7 (l:List UInt8) (b:UInt8):numL (l++[b])=10 * numL l+((b.toNat:Int) - 48):=by simp [numL]
theorem Jt4 {t:ByteArray} {m:Int} (h:Jbg t m=true):(0:Int) < t.size∧(t.size:Int)≤m:=by
 simp only [Jbg,Bool.and_eq_true,decide_eq_true_eq] at h
 omega
theorem Jsn {t:ByteArray} {i:Int} (h0:0≤i) (h1:i < t.size):numL ((bl t).take (i+1).toNat)=10 * numL ((bl t).take i.toNat)+(byt t i - 48):=by
 have hl:i.toNat < (bl t).length:=by rw [Jbw]; omega
 rw [show (i+1).toNat=i.toNat+1 by omega,List.take_succ_eq_append_getElem hl,Jo7]
 have e:=Jdu (t:=t) (i:=i.toNat) (by omega)
 rw [show ((i.toNat:Nat):Int)=i by omega] at e
 rw [e]
theorem Jit {t:ByteArray} {m:Int} (h:Jbg t m=false∨byt t 0=48∧(1:Int) < t.size):numB m t=none:=by
 unfold numB
 rcases h with h | h
 ·
  rw [h]; rfl
 rw [if_neg]; simp [h.1,h.2]
theorem Joy {t:ByteArray} {m:Int} (h:Jbg t m=true) (h2:byt t 0=48→¬ (1:Int) < t.size):numB m t=some (numL (bl t)):=by
 unfold numB
 rw [if_pos]
 simp only [h,Bool.true_and,Bool.not_eq_true',Bool.and_eq_false_iff,decide_eq_false_iff_not]
 by_cases hb:byt t 0=48
 ·
  exact .inr (h2 hb)
 exact .inl hb
theorem Jmh {t:ByteArray} (h:byt t 0=48) (h1:(0:Int) < t.size):seq t ⟨#[48]⟩ = !decide ((1:Int) < t.size):=by
 rw [Bool.eq_iff_iff,Jli]
 simp only [Bool.not_eq_true',decide_eq_false_iff_not]
 constructor
 ·
  rintro rfl; decide
 intro h2
 have hl:(bl t).length=1:=by rw [Jbw]; omega
 obtain ⟨b,hb⟩:=List.length_eq_one_iff.1 hl
 have e:=Jdu (t:=t) (i:=0) (by omega)
 have e2:(bl t)[0]'(by omega)=b:=by simp [hb]
 rw [e2] at e
 have h5:(48:UInt8).toNat=48:=by decide
 have h4:byt t ((0:Nat):Int)=48:=h
 have e3:b=48:=UInt8.toNat_inj.1 (by omega)
 subst e3
 rw [← Jzq t,hb]
theorem Jey {α:Type} (l:List α):(l.drop 1).take (l.length - 1)=l.tail:=by
 rw [List.take_of_length_le (by simp),List.drop_one]
theorem St.roCut {α:Type} {C:Cel α} {n0:Nat} {w0 u:World} {L:List SA} {s:Sl α} {lo hi:Nat} (h:St n0 w0 (roT C s::L) u) (h0:lo≤hi) (h1:hi≤s.l.length):St n0 w0 (roT C (s.cut C.k lo hi)::L) u :=
 St.toRo (A:=roT C s) (p:=fun u=>SlT C u (s.cut C.k lo hi)) (fun S u h=>(roS.now h).cut h0 h1) h
abbrev Wds:=List ByteArray
def resB (t:ByteArray):Bool:=wordL.any fun x=>seq x t
def isW (t:ByteArray) (ws:Wds):Bool:=match ws with
 | x::_=>seq x t
 | []=>false
def Jbq (ws:Wds):Option (ByteArray × Wds):=match ws with
 | t::r=>some (t,r)
 | []=>none
def Jcy (ws:Wds):Option (ByteArray × Wds):=(Jbq ws).bind fun x=>if Jas x.1 then some x else none
def idxN {α:Type} (f:α→ByteArray) (l:List α) (t:ByteArray):Int:=idxF (fun x=>seq (f x) t) l
def Jbc {α:Type} (f:α→ByteArray) (l:List α) (ws:Wds):Option (Int × Wds):=(Jcy ws).bind fun x=>if 0≤idxN f l x.1 then some (idxN f l x.1,x.2) else none
def numW (m:Int) (ws:Wds):Option (Int × Wds):=(Jbq ws).bind fun x=>(numB m x.1).map fun n=>(n,x.2)
def Jfs (t:ByteArray) (ws:Wds):Option Wds:=if isW t ws then some ws.tail else none
def Jcu:List UInt8→Nat
 | []=>0
 | b::r=>if b=61∨b=33 then 0 else Jcu r+1
def Jax (t:ByteArray):Nat:=Jcu (bl t)
def litT (ths:List Thing) (t:ByteArray):Option Lit :=
 if Jax t < t.size∧Jas (t.extract 0 (Jax t))=true∧0≤idxN Thing.nm ths (t.extract 0 (Jax t)) then
  (numB 2 (t.extract (Jax t+1) t.size)).map fun n=>⟨idxN Thing.nm ths (t.extract 0 (Jax t)),n,decide (byt t (Jax t)=33)⟩
 else none
def Jbv (ths:List Thing):Wds→Option (List Lit × Wds)
 | []=>some ([],[])
 | t::r=>if resB t then some ([],t::r) else match litT ths t,Jbv ths r with
  | some a,some (c,r')=>some (a::c,r')
  | _,_=>none
def ifW:ByteArray:=⟨#[105,102]⟩
def Jfb (ths:List Thing) (ws:Wds):Option (List Lit × Wds) :=
 if isW ifW ws then (Jbv ths ws.tail).bind fun x=>if x.1=[] then none else some x else some ([],ws)
def Jbp (prs:List Pro):Wds→Option (List Int × Wds)
 | []=>some ([],[])
 | t::r=>if resB t then some ([],t::r) else if Jas t=true∧0≤idxN Pro.nm prs t then match Jbp prs r with
  | some (c,r')=>some (idxN Pro.nm prs t::c,r')
  | none=>none
  else none
def Jdq (prs:List Pro) (word:ByteArray) (ws:Wds):Option (List Int × Wds) :=
 if isW word ws then (Jbp prs ws.tail).bind fun x=>if x.1=[] then none else some x else some ([],ws)
def Jc8:List Lit→Option (List Put)
 | []=>some []
 | a::c=>if a.nt then none else (Jc8 c).map fun r=>⟨a.t,a.s⟩::r
def Jg1 (ths:List Thing) (ws:Wds):Option (List Put × Wds) :=
 if isW ⟨#[115,101,116,115]⟩ ws then (Jbv ths ws.tail).bind fun x=>(Jc8 x.1).bind fun p=>if p=[] then none else some (p,x.2) else some ([],ws)
inductive Ln where
 | place (nm:ByteArray)
 | thing (x:Thing)
 | prop (nm:ByteArray) (pl:Int) (wh:List Lit)
 | way (a b:Int) (wh:List Lit)
 | act (nm:ByteArray) (pl lk:Int) (us:List Int) (wh:List Lit) (se:List Put) (sp br:List Int)
 | auto (t s:Int) (wh:List Lit)
 | players (n:Int)
 | goal (c:List Lit)
def kindsL:List ByteArray:=[⟨#[112,108,97,99,101]⟩,⟨#[116,104,105,110,103]⟩,⟨#[112,114,111,112]⟩,⟨#[119,97,121]⟩,⟨#[97,99,116]⟩,⟨#[97,117,116,111]⟩,⟨#[112,108,97,121,101,114,115]⟩,⟨#[103,111,97,108]⟩]
def Jdp (t:ByteArray):Int:=idxN id kindsL t
def atW:ByteArray:=⟨#[97,116]⟩
def Jka:ByteArray:=⟨#[115,116,97,116,101,115]⟩
def Jpb:ByteArray:=⟨#[115,116,97,114,116]⟩
def Jrx:ByteArray:=⟨#[103,111,110,101]⟩
def Ju7:ByteArray:=⟨#[108,111,99,107]⟩
def Ju3:ByteArray:=⟨#[119,105,116,104]⟩
def Jj1:ByteArray:=⟨#[115,112,101,110,100,115]⟩
def Jks:ByteArray:=⟨#[98,114,105,110,103,115]⟩
def Jcl (r:Room) (ws:Wds):Option (Ln × Wds) :=
 (Jcy ws).bind fun n=>(Jfs atW n.2).bind fun w1=>(Jbc id r.pls.l w1).bind fun p=>(Jfs Jka p.2).bind fun w2=>(numW 2 w2).bind fun s=>(Jfs Jpb s.2).bind fun w3=>(numW 2 w3).map fun t=>(.thing ⟨n.1,p.1,s.1,t.1⟩,t.2)
def Jfp (r:Room) (ws:Wds):Option (Int × Wds):=if isW Jrx ws then some (-1,ws.tail) else (Jfs atW ws).bind fun w1=>Jbc id r.pls.l w1
def Jhs (r:Room) (ws:Wds):Option (Ln × Wds) :=
 (Jcy ws).bind fun n=>(Jfp r n.2).bind fun p=>(Jfb r.ths.l p.2).map fun c=>(.prop n.1 p.1 c.1,c.2)
def wayW (r:Room) (ws:Wds):Option (Ln × Wds) :=
 (Jbc id r.pls.l ws).bind fun a=>(Jbc id r.pls.l a.2).bind fun b=>(Jfb r.ths.l b.2).map fun c=>(.way a.1 b.1 c.1,c.2)
def Jd6 (ws:Wds):Option (Int × Wds):=if isW Ju7 ws then numW 2 ws.tail else some (-1,ws)
def actW (r:Room) (ws:Wds):Option (Ln × Wds) :=
 (Jcy ws).bind fun n=>(Jfs atW n.2).bind fun w1=>(Jbc id r.pls.l w1).bind fun p=>(Jd6 p.2).bind fun k=>(Jdq r.prs.l Ju3 k.2).bind fun u=>(Jfb r.ths.l u.2).bind fun c=>(Jg1 r.ths.l c.2).bind fun s =>
  (Jdq r.prs.l Jj1 s.2).bind fun x=>(Jdq r.prs.l Jks x.2).map fun y=>(.act n.1 p.1 k.1 u.1 c.1 s.1 x.1 y.1,y.2)
def Jgo (r:Room) (ws:Wds):Option (Ln × Wds) :=
 (Jbq ws).bind fun t=>(litT r.ths.l t.1).bind fun a=>if a.nt then none else (Jfb r.ths.l t.2).map fun c=>(.auto a.t a.s c.1,c.2)
def Jf4 (ws:Wds):Option (Ln × Wds):=(numW 2 ws).map fun n=>(.players n.1,n.2)
def Jrs (r:Room) (ws:Wds):Option (Ln × Wds):=(Jbv r.ths.l ws).map fun c=>(.goal c.1,c.2)
def Ja0 (r:Room) (k:Int) (ws:Wds):Option (Ln × Wds) :=
 if k=0 then (Jcy ws).map fun n=>(.place n.1,n.2) else if k=1 then Jcl r ws else if k=2 then Jhs r ws else if k=3 then wayW r ws else if k=4 then actW r ws else if k=5 then Jgo r ws
 else if k=6 then Jf4 ws else Jrs r ws
def mayK (kd k:Int):Bool:=decide (kd≤k) && (!(decide (6≤kd) && !decide (k=kd+1)) && (decide (k < 7) || decide (kd=6)))
def Jbl (r:Room) (kd:Int) (t:ByteArray):Option (Int × Ln) :=
 (Jbq (Jaf 32 t)).bind fun h=>if mayK kd (Jdp h.1) then (Ja0 r (Jdp h.1) h.2).bind fun x=>if x.2=[] then some (Jdp h.1,x.1) else none else none
def nls {α:Type} (l:List α):Sl α:=⟨.slice none 0 0,l⟩
def addL (r:Room):Ln→Room
 | .place nm=>{ r with pls:=nls (r.pls.l++[nm]) }
 | .thing x=>{ r with ths:=nls (r.ths.l++[x]) }
 | .prop nm pl wh=>{ r with prs:=nls (r.prs.l++[⟨nm,pl,nls wh⟩]) }
 | .way a b wh=>{ r with wys:=nls (r.wys.l++[⟨a,b,nls wh⟩]) }
 | .act nm pl lk us wh se sp br=>{ r with acs:=nls (r.acs.l++[⟨nm,pl,lk,nls us,nls wh,nls se,nls sp,nls br⟩]) }
 | .auto t s wh=>{ r with aus:=nls (r.aus.l++[⟨nls wh,t,s⟩]) }
 | .players n=>{ r with ply:=n }
 | .goal c=>{ r with gl:=nls c }
def room0:Room:=⟨nls [],nls [],nls [],nls [],nls [],nls [],0,nls []⟩
end Go.Proofs.YtkekjhcmephhjaaGreatDoor
namespace Go.Proofs.YtkekjhcmephhjaaGreatDoor
set_option linter.unusedVariables false
set_option linter.unusedSimpArgs false
open Go.RowKit
def agf (P:Program) (f:Field):Option (Nat × Nat) :=
 if f.name == "_" then none else if P.plainKey f.type then
  match P.underlying f.type with
  | some (.int _)=>some (f.offset,0)
  | some .bool=>some (f.offset,1)
  | some .string=>some (f.offset,2)
  | _=>none
 else none
def agl (P:Program):List Field→Option (List (Nat × Nat))
 | []=>some []
 | f::fs=>match agf P f,agl P fs with
  | some a,some r=>some (a::r)
  | _,_=>none
def agq (P:Program) (T:TypeId):Option (List (Nat × Nat)) :=
 match P.underlying T with
 | some (.struct fs)=>if P.stoodInHeld T || P.eqGuardType P.depth T then none else agl P fs.toList
 | _=>none
def cmp1:Nat→Option Value→Option Value→Option Bool
 | 0,some (.int .i64 a),some (.int .i64 b)=>some (decide (a=b))
 | 1,some (.bool a),some (.bool b)=>some (a == b)
 | 2,some (.string a),some (.string b)=>some (seq a b)
 | _,_,_=>none
def cmps (xs ys:List Value):List (Nat × Nat)→Option Bool
 | []=>some true
 | (o,k)::sp=>match cmp1 k xs[o]? ys[o]?,cmps xs ys sp with
  | some a,some r=>some (a && r)
  | _,_=>none
section
variable {P:Program}
theorem Jv6 {w:World} {f:Field} {o k:Nat} {xs ys:List Value} {b:Bool} {d:Nat} (hf:agf P f=some (o,k)) (hb:cmp1 k xs[o]? ys[o]? = some b) :
  f.name ≠ "_" ∧ ∃ x y,(Go.part f.type xs.toArray f.offset).run P w = .ok x w∧(Go.part f.type ys.toArray f.offset).run P w = .ok y w∧(Op.equalIn (d+1) f.type x y).run P w = .ok b w:=by
 unfold agf at hf
 split at hf
 ·
  cases hf
 rename_i hn
 refine ⟨by simpa using hn,?_⟩
 split at hf
 ·
  rename_i hp
  split at hf
  ·
   rename_i k' hu
   cases hf
   unfold cmp1 at hb
   split at hb <;> first | cases hb | skip
   ·
    rename_i a b' _ hx hy
    refine ⟨_,_,run_part_plain w hp (by simpa using hx),run_part_plain w hp (by simpa using hy),?_⟩
    rw [run_equalIn_int w d f.type .i64 k' a b' hu]
    by_cases h:a=b' <;> simp [h]
   all_goals simp_all
  ·
   rename_i hu
   cases hf
   unfold cmp1 at hb
   split at hb <;> first | cases hb | skip
   ·
    simp_all
   ·
    rename_i a b' _ hx hy
    refine ⟨_,_,run_part_plain w hp (by simpa using hx),run_part_plain w hp (by simpa using hy),?_⟩
    exact run_equalIn_bool' w d f.type a b' hu
   all_goals simp_all
  ·
   rename_i hu
   cases hf
   unfold cmp1 at hb
   split at hb <;> first | cases hb | skip
   ·
    simp_all
   ·
    simp_all
   rename_i a b' _ hx hy
   refine ⟨_,_,run_part_plain w hp (by simpa using hx),run_part_plain w hp (by simpa using hy),?_⟩
   exact run_equalIn_string w d f.type a b' hu
  cases hf
 cases hf
theorem Joz {w:World} {xs ys:List Value} {d:Nat}:∀ {fs:List Field} {sp:List (Nat × Nat)} {b:Bool},agl P fs=some sp→cmps xs ys sp=some b→(Op.eqFields (d+1) xs.toArray ys.toArray fs).run P w = .ok b w
 | [],sp,b,h,hb=>by
  simp [agl] at h; subst h
  simp [cmps] at hb; subst hb
  simp [Op.eqFields]
 | f::fs,sp,b,h,hb=>by
  unfold agl at h
  split at h
  ·
   rename_i a r ha hr
   cases h
   obtain ⟨o,k⟩:=a
   unfold cmps at hb
   split at hb
   ·
    rename_i c r' hc hr'
    cases hb
    obtain ⟨hn,x,y,p1,p2,p3⟩:=Jv6 (w:=w) (d:=d) ha hc
    have ih:=Joz (w:=w) (d:=d) hr hr'
    simp only [Op.eqFields,hn,ne_eq,not_false_eq_true,if_true,Sem.run_bind,p1,p2,p3,Result.andThen_ok]
    cases c
    ·
     simp
    simpa using ih
   cases hb
  cases h
variable {l:List Value} {d:Option Tmp} {ty:TypeId} {ps:String} {af:Array Edge} {g:Option (Nat × Bool)} {C:World→Prop}
theorem Jv0 {w:World} {T:TypeId} {sp:List (Nat × Nat)} {xs ys:List Value} {b:Bool} (hA:agq P T=some sp) (hb:cmps xs ys sp=some b) :
  (∀ (op:BinOp) (x y:Operand),(eqGuard op T x y (.agg xs.toArray) (.agg ys.toArray)).run P w = .ok () w)∧(Op.equalIn 10000 T (.agg xs.toArray) (.agg ys.toArray)).run P w = .ok b w:=by
 unfold agq at hA
 split at hA
 ·
  rename_i fs hu
  split at hA
  ·
   cases hA
  rename_i hc
  simp only [Bool.or_eq_true,not_or,Bool.not_eq_true] at hc
  have hf:P.fieldsOf T=fs:=by simp [Program.fieldsOf,hu]
  refine ⟨fun op x y=>run_eqGuard_agg w op T x y _ _ hc.2,?_⟩
  rw [run_equalIn_struct w 9999 T _ _ (by rw [hf]; exact hu) hc.1,hf]
  exact Joz hA hb
 cases hA
theorem Jeg {T T':TypeId} {x y:Operand} {xs ys:List Value} {b:Bool} {sp:List (Nat × Nat)} (hA:agq P T=some sp) (hx:evo l x=some (.agg xs.toArray)) (hy:evo l y=some (.agg ys.toArray)) (hb:cmps xs ys sp=some b) :
  Det P C ⟨d,.binOp .neq T x y T',ty,ps,af,g⟩ l (.bool (!b)):=fun u _=>by
 (replace hx:=Jam hx; replace hy:=Jam hy)
 obtain ⟨h1,h2⟩:=Jv0 (w:=u) hA hb
 simp [execOp,Jan,hx,hy,h1,run_neq_struct,h2]
end
noncomputable def clB (p:Prop):Bool := @decide p (Classical.propDecidable p)
theorem Jb6 {p:Prop}:clB p=true ↔ p:=by unfold clB; simp
theorem Jdb {p:Prop} (h:p):clB p=true:=Jb6.2 h
theorem Jct {p:Prop} (h:¬ p):clB p=false:=by
 cases hq:clB p with
 | false=>rfl
 | true=>exact (h (Jb6.1 hq)).elim
theorem Jvq {p:Prop} [Decidable p]:clB p=decide p:=by
 by_cases h:p
 ·
  rw [Jdb h,decide_eq_true h]
 rw [Jct h,decide_eq_false h]
theorem Jvf {p q:Prop}:clB (p∧q)=(clB p && clB q):=by
 by_cases hp:p
 ·
  by_cases hq:q
  ·
   rw [Jdb ⟨hp,hq⟩,Jdb hp,Jdb hq]; rfl
  rw [Jct (fun h=>hq h.2),Jct hq,Bool.and_false]
 rw [Jct (fun h=>hp h.1),Jct hp,Bool.false_and]
theorem Jd4 {a b:ByteArray}:seq a b=true ↔ a=b:=by
 unfold seq
 rw [beq_iff_eq,ByteArray.toList_eq,ByteArray.toList_eq]
 constructor
 ·
  intro h
  cases a; cases b
  simp at h
  rw [h]
 rintro rfl; rfl
theorem Jx3 (a b:ByteArray):seq a b=clB (a=b):=by
 cases h:seq a b with
 | true=>exact (Jdb (Jd4.1 h)).symm
 | false=>exact (Jct fun e=>by rw [Jd4.2 e] at h; cases h).symm
theorem Jy0 {a b:ByteArray} (h:seq a b=false):a≠b:=fun e=>by rw [Jd4.2 e] at h; cases h
theorem Jcv {α β:Type} [Inhabited α] (f:α→β) {l m:List α} {i:Int} (hi:¬ i < l.length) (hl:l.length=m.length) (h:∀ j:Int,0≤j→j < i→f (nth l j)=f (nth m j)):l.map f=m.map f:=by
 apply List.ext_getElem (by simp [hl])
 intro k h1 h2
 have h3:k < l.length:=by simpa using h1
 have h4:k < m.length:=by omega
 have:=h k (by omega) (by omega)
 simpa [nth,List.getD,h3,h4] using this
theorem Jlc {α:Type} [Inhabited α] {l m:List α} {i:Int} (hi:¬ i < l.length) (hl:l.length=m.length) (h:∀ j:Int,0≤j→j < i→nth l j=nth m j):l=m:=by
 have:=Jcv (fun x=>x) hi hl h
 simpa using this
theorem Juf (x y:Lit):cmps (cLit.cells x) (cLit.cells y) [(0,0),(1,0),(2,1)]=some (decide (x=y)):=by
 cases x; cases y
 simp only [cmps,cmp1,cLit,List.getElem?_cons_zero,List.getElem?_cons_succ,Lit.mk.injEq]
 rename_i a1 a2 a3 b1 b2 b3
 cases a3 <;> cases b3 <;> simp
theorem Jv2 (x y:Put):cmps (cPut.cells x) (cPut.cells y) [(0,0),(1,0)]=some (decide (x=y)):=by
 cases x; cases y
 simp only [cmps,cmp1,cPut,List.getElem?_cons_zero,List.getElem?_cons_succ,Put.mk.injEq]
 simp
theorem Jog (x y:Thing):cmps (cThing.cells x) (cThing.cells y) [(0,2),(1,0),(2,0),(3,0)]=some (clB (x=y)):=by
 have e:clB (x=y)=(seq x.nm y.nm && (decide (x.pl=y.pl) && (decide (x.st=y.st) && (decide (x.sr=y.sr) && true)))):=by
  cases x; cases y
  simp only [Thing.mk.injEq,Jx3, ← Jvq]
  simp only [Jvf,Bool.and_true]
 rw [e]
 rfl
theorem Ju8 {a b:Auto}:cmps [.int .i64 a.t,.int .i64 a.s] [.int .i64 b.t,.int .i64 b.s] [(0,0),(1,0)]=some (decide (a.t=b.t) && decide (a.s=b.s)):=by
 simp [cmps,cmp1]
theorem Jl0 {P:Program} {L:List SA} {w0:World} {l:List Value} {d:Option Tmp} {ty:TypeId} {ps:String} {af:Array Edge} {g:Option (Nat × Bool)} {α:Type} [Inhabited α] {C:Cel α} {T:TypeId} (k j n:Nat) {x:Operand} {s:Sl α} {i:Int} {cs:List Value}
  (hx:evo l x=some (.pointer (some ⟨slb s.v,slo s.v+i.toNat * k+j,none⟩))) (hs:SlT C w0 s) (hk:C.k=k) (h:0≤i∧i < s.l.length) (hc:((C.cells (nth s.l i)).drop j).take n=cs) (hn:cs.length=n) (hT:tk P T=some (true,n)) :
  Det P (St w0.heap.size w0 L) ⟨d,.load T x,ty,ps,af,g⟩ l (.agg cs.toArray):=by
 subst hk
 refine Jfe (m:=i.toNat * C.k+j) (by rw [hx,sla,Nat.add_assoc]) (fun _ hu=>hs.sp.st hu) (fun q y hy=>?_) (by rw [hn]; exact hT)
 rw [← hc,List.getElem?_take] at hy
 split at hy
 ·
  rw [List.getElem?_drop] at hy
  have hj:j+q < C.k:=by have:=(List.getElem?_eq_some_iff.1 hy).1; rwa [C.len] at this
  rw [Nat.add_assoc,Jb8 C h.1 h.2 _ hj]; exact hy
 cases hy
theorem sl_e {α:Type} {a b:Sl α} (h:a.l=b.l):a.e (id:α→α)=b.e id:=by unfold Sl.e; rw [h]
theorem Jq0 {α β:Type} {f:α→β} {a b:Sl α} (h:a.l.map f=b.l.map f):a.e f=b.e f:=by unfold Sl.e; rw [h]
theorem Jya {x y:Pro} (h1:x.nm=y.nm) (h2:x.pl=y.pl) (h3:x.wh.l=y.wh.l):x.e=y.e:=by
 cases x; cases y
 simp only at h1 h2 h3
 subst h1; subst h2
 simp only [Pro.e,sl_e h3]
theorem Jws {x y:Way} (h1:x.a=y.a) (h2:x.b=y.b) (h3:x.wh.l=y.wh.l):x.e=y.e:=by
 cases x; cases y
 simp only at h1 h2 h3
 subst h1; subst h2
 simp only [Way.e,sl_e h3]
theorem Jyk {x y:Auto} (h1:x.t=y.t) (h2:x.s=y.s) (h3:x.wh.l=y.wh.l):x.e=y.e:=by
 cases x; cases y
 simp only at h1 h2 h3
 subst h1; subst h2
 simp only [Auto.e,sl_e h3]
theorem Jz4 {x y:Actn} (h:AlikeA x y):x.e=y.e:=by
 obtain ⟨h1,h2,h3,h4,h5,h6,h7,h8⟩:=h
 cases x; cases y
 simp only at h1 h2 h3 h4 h5 h6 h7 h8
 subst h1; subst h2; subst h3
 simp only [Actn.e,sl_e h4,sl_e h5,sl_e h6,sl_e h7,sl_e h8]
theorem Jx7 {a b:Room} (h1:a.pls.l=b.pls.l) (h2:a.ths.l=b.ths.l) (h3:a.prs.l.map Pro.e=b.prs.l.map Pro.e) (h4:a.wys.l.map Way.e=b.wys.l.map Way.e) (h5:a.acs.l.map Actn.e=b.acs.l.map Actn.e) (h6:a.aus.l.map Auto.e=b.aus.l.map Auto.e) (h7:a.ply=b.ply) (h8:a.gl.l=b.gl.l):a.e=b.e:=by
 unfold Room.e
 rw [sl_e h1,sl_e h2,Jq0 h3,Jq0 h4,Jq0 h5,Jq0 h6,h7,sl_e h8]
theorem bq:(∀ (p:Prop) [Decidable p],(decide p=true)=p)∧(∀ (p:Prop) [Decidable p],(decide p=false)=¬ p)∧(∀ a b:Bool,((a && b)=true)=(a=true∧b=true))∧(∀ a b:Bool,((a || b)=true)=(a=true∨b=true)) ∧
  (∀ a b:Bool,((a && b)=false)=(a=false∨b=false))∧(∀ a b:Bool,((a || b)=false)=(a=false∧b=false))∧(∀ a:Bool,((!a)=true)=(a=false))∧(∀ a:Bool,((!a)=false)=(a=true))∧(∀ (α:Type) (a b:α),(a≠b)=¬ a=b)∧(∀ p:Prop,[Decidable p]→(¬ ¬ p)=p) ∧
  ((!true)=false)∧((!false)=true)∧(∀ (α:Type) [BEq α] [LawfulBEq α] (a b:α),((a != b)=true)=¬ a=b)∧(∀ (α:Type) [BEq α] [LawfulBEq α] (a b:α),((a != b)=false)=(a=b))∧(∀ (α:Type) [BEq α] [LawfulBEq α] (a b:α),((a == b)=true)=(a=b))∧(∀ (α:Type) [BEq α] [LawfulBEq α] (a b:α),((a == b)=false)=¬ a=b):=by
 refine ⟨fun p _=>by simp,fun p _=>by simp,fun a b=>by simp,fun a b=>by simp,fun a b=>by cases a <;> cases b <;> simp,fun a b=>by simp,fun a=>by simp,fun a=>by simp,fun α a b=>by simp,fun p=>by simp [Decidable.not_not],rfl,rfl,fun α _ _ a b=>by simp,fun α _ _ a b=>by simp,fun α _ _ a b=>by simp,fun α _ _ a b=>by simp⟩
inductive Tb (α:Type) where
 | o
 | n (l:Tb α) (k:Nat) (v:α) (r:Tb α)
def Tb.get {α:Type}:Tb α→Nat→Option α
 | .o,_=>none
 | .n l k v r,i=>match Nat.blt i k with
  | true=>l.get i
  | false=>match Nat.beq i k with
   | true=>some v
   | false=>r.get i
def Tb.all {α:Type} (p:Nat→α→Bool):Tb α→Bool
 | .o=>true
 | .n l k v r=>l.all p && p k v && r.all p
theorem Tb.get_all {α:Type} {p:Nat→α→Bool}:∀ {t:Tb α} {i:Nat} {v:α},t.all p=true→t.get i=some v→p i v=true
 | .o,_,_,_,h=>by simp [Tb.get] at h
 | .n l k x r,i,v,ha,h=>by
  simp only [Tb.all,Bool.and_eq_true] at ha
  unfold Tb.get at h
  split at h
  ·
   exact Tb.get_all ha.1.1 h
  split at h
  ·
   rename_i hb
   have:i=k:=Nat.eq_of_beq_eq_true hb
   cases h
   subst this
   exact ha.1.2
  exact Tb.get_all ha.2 h
class Fx (P:Program) where
 ft:Tb (List Nat)
 kt:Tb (Bool × Nat)
 st:Tb (TypeId × Nat × Nat)
 fk:ft.all (fun T l=>l.zipIdx.all fun x=>fo P T x.2 == some x.1)=true
 kk:kt.all (fun T r=>tk P T == some r)=true
 sk:st.all (fun T r=>sl P T == some r)=true
def fof (P:Program) [F:Fx P] (T i:Nat):Option Nat:=match F.ft.get T with
 | some l=>l[i]?
 | none=>none
def tkf (P:Program) [F:Fx P] (T:Nat):Option (Bool × Nat):=F.kt.get T
def slf (P:Program) [F:Fx P] (T:Nat):Option (TypeId × Nat × Nat):=F.st.get T
section
variable {P:Program} [Fx P]
theorem Jto {T i m:Nat} (h:fof P T i=some m):fo P T i=some m:=by
 unfold fof at h
 split at h
 ·
  rename_i l hl
  have h1:=Tb.get_all (Fx.fk (P:=P)) hl
  rw [List.all_eq_true] at h1
  have h2:=h1 (m,i) (by rw [List.mk_mem_zipIdx_iff_getElem?]; exact h)
  simpa using h2
 simp at h
theorem Jcs {T:Nat} {r:Bool × Nat} (h:tkf P T=some r):tk P T=some r:=by
 have:=Tb.get_all (Fx.kk (P:=P)) h
 simpa using this
theorem Jjm {T:Nat} {r:TypeId × Nat × Nat} (h:slf P T=some r):sl P T=some r:=by
 have:=Tb.get_all (Fx.sk (P:=P)) h
 simpa using this
end
def ikq:IntKind→IntKind→Bool
 | .i64,.i64=>true
 | .u8,.u8=>true
 | .i32,.i32=>true
 | _,_=>false
theorem Jwy {a b:IntKind} (h:ikq a b=true):a=b:=by cases a <;> cases b <;> first | rfl | cases h
def cmpf:BinOp→Int→Int→Option Bool
 | .eql,a,b=>some (decide (a=b))
 | .neq,a,b=>some (decide (a≠b))
 | .lss,a,b=>some (decide (a < b))
 | .leq,a,b=>some (decide (a≤b))
 | .gtr,a,b=>some (decide (b < a))
 | .geq,a,b=>some (decide (b≤a))
 | _,_,_=>none
def fv (P:Program) [Fx P] (l:List Value):Op→Option Value
 | .move x=>evo l x
 | .assign x=>evo l x
 | .fieldAddr T x f=>match evo l x with
  | some (.pointer (some ⟨b,o,none⟩))=>match fof P T f with
   | some m=>some (.pointer (some ⟨b,o+m,none⟩))
   | none=>none
  | _=>none
 | .binOp k _ x y _=>match evo l x,evo l y with
  | some (.int i a),some (.int j b)=>match ikq i j with
   | true=>match cmpf k a b with
    | some r=>some (.bool r)
    | none=>none
   | false=>none
  | _,_=>none
 | .unOp .not _ x=>match evo l x with
  | some (.bool a)=>some (.bool (!a))
  | _=>none
 | .extract x i=>match evo l x with
  | some (.tuple ⟨vs⟩)=>vs[i]?
  | _=>none
 | .nilCheck x=>match evo l x with
  | some (.pointer (some a))=>some (.pointer (some a))
  | _=>none
 | _=>none
def runF (P:Program) [Fx P]:Nat→List Oper→List Value→Option (List Oper × List Value)
 | 0,ops,l=>some (ops,l)
 | n+1,⟨some d,op,_,_,_,none⟩::ops,l=>match fv P l op with
  | some v=>match lset l d v with
   | some l'=>runF P n ops l'
   | none=>none
  | none=>none
 | _,_,_=>none
section
variable {P:Program} [Fx P] {C:World→Prop} {l:List Value} {d:Option Tmp} {ty:TypeId} {ps:String} {af:Array Edge} {g:Option (Nat × Bool)}
theorem Jla {op:Op} {v:Value} (h:fv P l op=some v):Det P C ⟨d,op,ty,ps,af,g⟩ l v:=by
 unfold fv at h
 split at h
 ·
  exact Jay h
 ·
  exact Jms h
 ·
  split at h
  ·
   rename_i b o hx
   split at h
   ·
    rename_i m hm
    cases h
    exact Jeh hx (Jto hm)
   cases h
  cases h
 ·
  split at h
  ·
   rename_i i a j b hx hy
   split at h
   ·
    rename_i hk
    have:=Jwy hk
    subst this
    split at h
    ·
     rename_i r hr
     cases h
     unfold cmpf at hr
     split at hr
     ·
      cases hr; exact Jtr hx hy
     ·
      cases hr; exact Jtg hx hy
     ·
      cases hr; exact Jtq hx hy
     ·
      cases hr; exact Jts hx hy
     ·
      cases hr; exact Jtk hx hy
     ·
      cases hr; exact Jty hx hy
     cases hr
    cases h
   cases h
  cases h
 ·
  split at h
  ·
   rename_i a hx
   cases h
   exact Jn2 hx
  cases h
 ·
  split at h
  ·
   rename_i vs hx
   exact Jkm (vs:=vs) hx h
  cases h
 ·
  split at h
  ·
   rename_i a hx
   cases h
   exact Jfo hx
  cases h
 cases h
theorem Jvm {op:Op} {v:Value} (h:fv P l op=some v):calm op=true:=by
 cases op <;> first | rfl | (simp [fv] at h)
end
section
variable {P:Program} [Fx P] {ro:Option Nat} {n0:Nat} {w0:World} {ds:List Deferred} {ops:Array Oper} {Q:Exit→Act→World→Prop} {L:List SA} {C:World→Prop}
theorem Wz:∀ (n:Nat) {rest rest':List Oper} {l l':List Value} (k:WS P ro n0 w0 ds ops Q L rest' l') (h:runF P n rest l=some (rest',l'):=by exact rfl),WS P ro n0 w0 ds ops Q L rest l
 | 0,_,_,_,_,k,h=>by cases h; exact k
 | n+1,rest,rest',l,l',k,h=>by
  unfold runF at h
  split at h
  ·
   cases h; exact k
  ·
   rename_i n' d op ty ps af os l0 hn
   cases hn
   split at h
   ·
    rename_i v hv
    split at h
    ·
     rename_i l1 hl
     exact WS.det (Jvm hv) rfl rfl (Jla hv) hl (Wz n k h)
    cases h
   cases h
  cases h
theorem Dz:∀ (n:Nat) {rest rest':List Oper} {l l':List Value} (k:DS P n0 w0 ds ops Q L rest' l') (h:runF P n rest l=some (rest',l'):=by exact rfl),DS P n0 w0 ds ops Q L rest l
 | 0,_,_,_,_,k,h=>by cases h; exact k
 | n+1,rest,rest',l,l',k,h=>by
  unfold runF at h
  split at h
  ·
   cases h; exact k
  ·
   rename_i n' d op ty ps af os l0 hn
   cases hn
   split at h
   ·
    rename_i v hv
    split at h
    ·
     rename_i l1 hl
     exact DS.det rfl rfl (Jla hv) hl (Dz n k h)
    cases h
   cases h
  cases h
variable {rest rest':List Oper} {l l' l'':List Value} {o:Oper} {d j s:Nat} {v:Value} {b c x want:Bool} {bl bl' bl'':List Bool} {fuel fuel' na:Nat}
theorem Wk (n:Nat) (h:Det P (St n0 w0 L) o l v) (k:WS P ro n0 w0 ds ops Q L rest' l'') (hc:calm o.op=true:=by exact rfl) (hd:o.dst=some d:=by exact rfl) (hg:o.guard=none:=by exact rfl) (hl:lset l d v=some l':=by exact rfl) (hr:runF P n rest l'=some (rest',l''):=by exact rfl):WS P ro n0 w0 ds ops Q L (o::rest) l:=WS.det hc hd hg h hl (Wz n k hr)
theorem Wt (n:Nat) (hg:o.guard=some (j,true)) (hb:yielded ops l.toArray j=some b) (h:b=true→Det P (St n0 w0 L) o l v) (k:WS P ro n0 w0 ds ops Q L rest' l'') (hc:calm o.op=true:=by exact rfl) (hd:o.dst=some d:=by exact rfl) (hl:lset l d (cond b v undef)=some l':=by exact rfl) (hr:runF P n rest l'=some (rest',l''):=by exact rfl):WS P ro n0 w0 ds ops Q L (o::rest) l:=WS.guardT hc hd hg hb h hl (Wz n k hr)
theorem Wf (n:Nat) (hg:o.guard=some (j,false)) (hb:yielded ops l.toArray j=some b) (h:(!b)=true→Det P (St n0 w0 L) o l v) (k:WS P ro n0 w0 ds ops Q L rest' l'') (hc:calm o.op=true:=by exact rfl) (hd:o.dst=some d:=by exact rfl) (hl:lset l d (cond (!b) v undef)=some l':=by exact rfl) (hr:runF P n rest l'=some (rest',l''):=by exact rfl):WS P ro n0 w0 ds ops Q L (o::rest) l:=WS.guardF hc hd hg hb h hl (Wz n k hr)
theorem Wn (n:Nat) (hg:o.guard=some (j,want)) (hs:(ops[j]?).bind (·.dst)=some s) (hv:l[s]? = some (cond c (.bool x) undef)) (h:(c && (x == want))=true→Det P (St n0 w0 L) o l v) (k:WS P ro n0 w0 ds ops Q L rest' l'') (hc:calm o.op=true:=by exact rfl) (hd:o.dst=some d:=by exact rfl) (hl:lset l d (cond (c && (x == want)) v undef)=some l':=by exact rfl) (hr:runF P n rest l'=some (rest',l''):=by exact rfl):WS P ro n0 w0 ds ops Q L (o::rest) l:=WS.guardN hc hd hg hs hv h hl (Wz n k hr)
theorem Dk (n:Nat) (h:Det P (St n0 w0 L) o l v) (k:DS P n0 w0 ds ops Q L rest' l'') (hd:o.dst=some d:=by exact rfl) (hg:o.guard=none:=by exact rfl) (hl:lset l d v=some l':=by exact rfl) (hr:runF P n rest l'=some (rest',l''):=by exact rfl):DS P n0 w0 ds ops Q L (o::rest) l:=DS.det hd hg h hl (Dz n k hr)
theorem Dt (n:Nat) (hg:o.guard=some (j,true)) (hb:yielded ops l.toArray j=some b) (h:b=true→Det P (St n0 w0 L) o l v) (k:DS P n0 w0 ds ops Q L rest' l'') (hd:o.dst=some d:=by exact rfl) (hl:lset l d (cond b v undef)=some l':=by exact rfl) (hr:runF P n rest l'=some (rest',l''):=by exact rfl):DS P n0 w0 ds ops Q L (o::rest) l:=DS.guardT hd hg hb h hl (Dz n k hr)
theorem Df (n:Nat) (hg:o.guard=some (j,false)) (hb:yielded ops l.toArray j=some b) (h:(!b)=true→Det P (St n0 w0 L) o l v) (k:DS P n0 w0 ds ops Q L rest' l'') (hd:o.dst=some d:=by exact rfl) (hl:lset l d (cond (!b) v undef)=some l':=by exact rfl) (hr:runF P n rest l'=some (rest',l''):=by exact rfl):DS P n0 w0 ds ops Q L (o::rest) l:=DS.guardF hd hg hb h hl (Dz n k hr)
theorem Dn (n:Nat) (hg:o.guard=some (j,want)) (hs:(ops[j]?).bind (·.dst)=some s) (hv:l[s]? = some (cond c (.bool x) undef)) (h:(c && (x == want))=true→Det P (St n0 w0 L) o l v) (k:DS P n0 w0 ds ops Q L rest' l'') (hd:o.dst=some d:=by exact rfl) (hl:lset l d (cond (c && (x == want)) v undef)=some l':=by exact rfl) (hr:runF P n rest l'=some (rest',l''):=by exact rfl):DS P n0 w0 ds ops Q L (o::rest) l:=DS.guardN hd hg hs hv h hl (Dz n k hr)
def asOk (ops:Array Oper):List Nat→List Bool→Bool
 | [],_=>true
 | i::is,bl=>Region.free .any ops bl.toArray i && (Region.ready .any ops bl.toArray).contains i && asOk ops is (bl.set i true)
def atOk (ops:Array Oper) (na s:Nat):List Nat→List Bool→Bool
 | [],_=>true
 | i::is,bl=>Jhq ops na i s && !(i == s) && Je9 ops bl.toArray && Region.free .any ops bl.toArray i && (Region.ready .any ops bl.toArray).contains i && atOk ops na s is (bl.set i true)
def runA (P:Program) [Fx P] (ops:Array Oper):List Nat→Nat→List Bool→List Value→Option (Nat × List Bool × List Value)
 | [],f,bl,l=>some (f,bl,l)
 | i::is,f+1,bl,l=>match ops[i]? with
  | some ⟨some d,op,_,_,_,none⟩=>match fv P l op with
   | some v=>match lset l d v with
    | some l'=>match lset bl i true with
     | some bl'=>runA P ops is f bl' l'
     | none=>none
    | none=>none
   | none=>none
  | _=>none
 | _,_,_,_=>none
theorem Az (hcalm:Ja6 ops=true):∀ (is:List Nat) {fuel fuel':Nat} {bl bl':List Bool} {l l':List Value} (hk:asOk ops is bl=true) (k:AS P ro n0 w0 ds ops Q C L fuel' bl' l')
  (h:runA P ops is fuel bl l=some (fuel',bl',l')),AS P ro n0 w0 ds ops Q C L fuel bl l
 | [],_,_,_,_,_,_,_,k,h=>by cases h; exact k
 | i::is,fuel,fuel',bl,bl',l,l',hk,k,h=>by
  unfold runA at h
  split at h
  ·
   rename_i he; cases he
  ·
   rename_i i' is' f bl0 l0 he
   cases he
   simp only [asOk,Bool.and_eq_true] at hk
   split at h
   ·
    rename_i d op ty ps af ho
    split at h
    ·
     rename_i v hv
     split at h
     ·
      rename_i l1 hl
      split at h
      ·
       rename_i bl1 hb
       have hb1:=Jal hb
       exact AS.take i ho hcalm hk.1.1 hk.1.2 rfl rfl (Jla hv) hb hl (Az hcalm is (by rw [← hb1]; exact hk.2) k h)
      cases h
     cases h
    cases h
   cases h
  cases h
theorem Tz (hcalm:Ja6 ops=true) {na s:Nat}:∀ (is:List Nat) {fuel fuel':Nat} {bl bl':List Bool} {l l':List Value} (hk:atOk ops na s is bl=true) (k:AT P ro n0 w0 ds ops Q C s L fuel' bl' l')
  (h:runA P ops is fuel bl l=some (fuel',bl',l')),AT P ro n0 w0 ds ops Q C s L fuel bl l
 | [],_,_,_,_,_,_,_,k,h=>by cases h; exact k
 | i::is,fuel,fuel',bl,bl',l,l',hk,k,h=>by
  unfold runA at h
  split at h
  ·
   rename_i he; cases he
  ·
   rename_i i' is' f bl0 l0 he
   cases he
   simp only [atOk,Bool.and_eq_true] at hk
   split at h
   ·
    rename_i d op ty ps af ho
    split at h
    ·
     rename_i v hv
     split at h
     ·
      rename_i l1 hl
      split at h
      ·
       rename_i bl1 hb
       have hb1:=Jal hb
       exact AT.take i ho hcalm hk.1.1.1.1.1 (by simpa using hk.1.1.1.1.2) hk.1.1.1.2 hk.1.1.2 hk.1.2 rfl rfl (Jla hv) hb hl (Tz hcalm is (by rw [← hb1]; exact hk.2) k h)
      cases h
     cases h
    cases h
   cases h
  cases h
theorem Ar (is:List Nat) (k:AS P ro n0 w0 ds ops Q C L fuel' bl' l') (hcalm:Ja6 ops=true:=by kernel_rfl) (hk:asOk ops is bl=true:=by kernel_rfl) (h:runA P ops is fuel bl l=some (fuel',bl',l'):=by exact rfl):AS P ro n0 w0 ds ops Q C L fuel bl l:=Az hcalm is hk k h
theorem Ak (i:Nat) (is:List Nat) (hi:ops[i]? = some o) (h:Det P C o l v) (k:AS P ro n0 w0 ds ops Q C L fuel' bl'' l'') (hcalm:Ja6 ops=true:=by kernel_rfl) (hk:asOk ops (i::is) bl=true:=by kernel_rfl)
  (hd:o.dst=some d:=by exact rfl) (hg:o.guard=none:=by exact rfl) (hb:lset bl i true=some bl':=by exact rfl) (hl:lset l d v=some l':=by exact rfl) (hr:runA P ops is fuel bl' l'=some (fuel',bl'',l''):=by exact rfl):AS P ro n0 w0 ds ops Q C L (fuel+1) bl l:=by
 simp only [asOk,Bool.and_eq_true] at hk
 exact AS.take i hi hcalm hk.1.1 hk.1.2 hd hg h hb hl (Az hcalm is (by rw [← Jal hb]; exact hk.2) k hr)
theorem At (i:Nat) (is:List Nat) (hi:ops[i]? = some o) (hg:o.guard=some (j,true)) (hw:yielded ops l.toArray j=some b) (h:b=true→Det P C o l v) (k:AS P ro n0 w0 ds ops Q C L fuel' bl'' l'') (hcalm:Ja6 ops=true:=by kernel_rfl) (hk:asOk ops (i::is) bl=true:=by kernel_rfl)
  (hd:o.dst=some d:=by exact rfl) (hb:lset bl i true=some bl':=by exact rfl) (hl:lset l d (cond b v undef)=some l':=by exact rfl) (hr:runA P ops is fuel bl' l'=some (fuel',bl'',l''):=by exact rfl):AS P ro n0 w0 ds ops Q C L (fuel+1) bl l:=by
 simp only [asOk,Bool.and_eq_true] at hk
 exact AS.takeT i hi hcalm hk.1.1 hk.1.2 hd hg hw h hb hl (Az hcalm is (by rw [← Jal hb]; exact hk.2) k hr)
theorem Tr (na:Nat) (is:List Nat) (k:AT P ro n0 w0 ds ops Q C s L fuel' bl' l') (hcalm:Ja6 ops=true:=by kernel_rfl) (hk:atOk ops na s is bl=true:=by kernel_rfl) (h:runA P ops is fuel bl l=some (fuel',bl',l'):=by exact rfl):AT P ro n0 w0 ds ops Q C s L fuel bl l:=Tz hcalm is hk k h
theorem Tk (na i:Nat) (is:List Nat) (hi:ops[i]? = some o) (h:Det P C o l v) (k:AT P ro n0 w0 ds ops Q C s L fuel' bl'' l'') (hcalm:Ja6 ops=true:=by kernel_rfl) (hk:atOk ops na s (i::is) bl=true:=by kernel_rfl)
  (hd:o.dst=some d:=by exact rfl) (hg:o.guard=none:=by exact rfl) (hb:lset bl i true=some bl':=by exact rfl) (hl:lset l d v=some l':=by exact rfl) (hr:runA P ops is fuel bl' l'=some (fuel',bl'',l''):=by exact rfl):AT P ro n0 w0 ds ops Q C s L (fuel+1) bl l:=by
 simp only [atOk,Bool.and_eq_true] at hk
 exact AT.take i hi hcalm hk.1.1.1.1.1 (by simpa using hk.1.1.1.1.2) hk.1.1.1.2 hk.1.1.2 hk.1.2 hd hg h hb hl (Tz hcalm is (by rw [← Jal hb]; exact hk.2) k hr)
theorem Dr {id:Nat} {os:List Oper} (hm:P.follows .mixedOrders=true) (n:Nat) (k:DS P n0 w0 ds os.toArray Q L rest' l') (hr:runF P n os l=some (rest',l'):=by exact rfl) (hB:Region.lexB .any os.toArray=true:=by kernel_rfl) (hcalm:Ja6 os.toArray=true:=by kernel_rfl) :
  CS P ro n0 w0 ds (.region id os.toArray true) Q L l:=CS.draw hm hB hcalm (Dz n k hr)
end
section
variable {P:Program} {ro:Option Nat} {n0:Nat} {w0:World} {ds:List Deferred} {ops:Array Oper} {Q:Exit→Act→World→Prop} {L:List SA} {C:World→Prop} {l:List Value} {o:Oper} {s:Nat} {bl bl':List Bool} {fuel:Nat}
theorem Ao (i:Nat) (hi:ops[i]? = some o) (k:WS P ro n0 w0 ds ops (Exit.then (AH P ro ops (NP ops Q) C fuel bl'.toArray) (NP ops Q)) L [o] l) (hr:Region.ready .any ops bl.toArray=[i]:=by kernel_rfl)
  (hC:∀ u,St n0 w0 L u→C u:=by first | exact fun _ h=>h | exact fun _ h=>h.sub (by repeat first | exact List.Sublist.refl _ | apply List.Sublist.cons_cons | apply List.Sublist.cons)) (hb:lset bl i true=some bl':=by exact rfl):AS P ro n0 w0 ds ops Q C L (fuel+1) bl l:=AS.one hr hi hC hb k
theorem Ae (k:QS n0 w0 ds Q .normal L l) (hr:Region.ready .any ops bl.toArray=[]:=by kernel_rfl)
  (hC:∀ u,St n0 w0 L u→C u:=by first | exact fun _ h=>h | exact fun _ h=>h.sub (by repeat first | exact List.Sublist.refl _ | apply List.Sublist.cons_cons | apply List.Sublist.cons)):AS P ro n0 w0 ds ops Q C L 0 bl l:=AS.done hr hC k
theorem To (i:Nat) (hi:ops[i]? = some o) (k:WS P ro n0 w0 ds ops (Exit.then (AZ P ro ops (NP ops Q) C s fuel bl'.toArray) (NP ops Q)) L [o] l) (hr:Region.ready .any ops bl.toArray=[i]:=by kernel_rfl)
  (hC:bl.toArray.getD s true=false→∀ u,St n0 w0 L u→C u:=by first | (intro h; exact absurd h (by decide)) | exact fun _ _ h=>h | exact fun _ _ h=>h.sub (by repeat first | exact List.Sublist.refl _ | apply List.Sublist.cons_cons | apply List.Sublist.cons)) (hb:lset bl i true=some bl':=by exact rfl):AT P ro n0 w0 ds ops Q C s L (fuel+1) bl l:=AT.one hr hi hC hb k
theorem Te (k:QS n0 w0 ds Q .normal L l) (hr:Region.ready .any ops bl.toArray=[]:=by kernel_rfl)
  (hC:bl.toArray.getD s true=false→∀ u,St n0 w0 L u→C u:=by first | (intro h; exact absurd h (by decide)) | exact fun _ _ h=>h | exact fun _ _ h=>h.sub (by repeat first | exact List.Sublist.refl _ | apply List.Sublist.cons_cons | apply List.Sublist.cons)):AT P ro n0 w0 ds ops Q C s L 0 bl l:=AT.done hr hC k
end
def cuto:Nat→Nat→List Value→Option (List Value)
 | 0,0,_=>some []
 | 0,n+1,v::l=>match cuto 0 n l with
  | some r=>some (v::r)
  | none=>none
 | i+1,n,_::l=>cuto i n l
 | _,_,[]=>none
theorem Jhr:∀ {i n:Nat} {c cs:List Value},cuto i n c=some cs→(c.drop i).take n=cs∧cs.length=n
 | 0,0,c,cs,h=>by simp [cuto] at h; subst h; simp
 | 0,n+1,[],cs,h=>by simp [cuto] at h
 | 0,n+1,v::l,cs,h=>by
  unfold cuto at h
  split at h
  ·
   rename_i r hr
   simp at h
   subst h
   have:=Jhr hr
   simp at this ⊢
   exact this
  simp at h
 | i+1,n,[],cs,h=>by simp [cuto] at h
 | i+1,n,v::l,cs,h=>by
  have:=Jhr (show cuto i n l=some cs from h)
  simpa using this
section
variable {P:Program} {C:World→Prop} {l:List Value} {d:Option Tmp} {ty:TypeId} {ps:String} {af:Array Edge} {g:Option (Nat × Bool)} {v:Value}
theorem op_ {x:Operand} (h:evo l x=some v:=by first | rfl | exact Jkh (by assumption) rfl | exact Jkh (Jy6 (by assumption)) rfl):evo l x=some v:=h
variable {n0:Nat} {w0:World} {L:List SA} {T T' e e':TypeId} {x y z:Operand} {i b o a k q q' m n:Nat} {c cs:List Value} {vv:Value} {xs:List Int} {ii aa bb:Int} {w:World} {ik:IntKind} {ba bc br:Bool}
theorem Fm (h:evo l x=some v:=by exact op_):Det P C ⟨d,.move x,ty,ps,af,g⟩ l v:=Jay h
theorem Fq (hx:evo l x=some (.int ik aa):=by exact op_) (hy:evo l y=some (.int ik bb):=by exact op_):Det P C ⟨d,.binOp .eql T x y T',ty,ps,af,g⟩ l (.bool (decide (aa=bb))):=Jtr hx hy
theorem Fr (hx:evo l x=some (.int ik aa):=by exact op_) (hy:evo l y=some (.int ik bb):=by exact op_):Det P C ⟨d,.binOp .neq T x y T',ty,ps,af,g⟩ l (.bool (decide (aa≠bb))):=Jtg hx hy
theorem Fl (hx:evo l x=some (.int ik aa):=by exact op_) (hy:evo l y=some (.int ik bb):=by exact op_):Det P C ⟨d,.binOp .lss T x y T',ty,ps,af,g⟩ l (.bool (decide (aa < bb))):=Jtq hx hy
theorem Fk (hx:evo l x=some (.int ik aa):=by exact op_) (hy:evo l y=some (.int ik bb):=by exact op_):Det P C ⟨d,.binOp .leq T x y T',ty,ps,af,g⟩ l (.bool (decide (aa≤bb))):=Jts hx hy
theorem Fg (hx:evo l x=some (.int ik aa):=by exact op_) (hy:evo l y=some (.int ik bb):=by exact op_):Det P C ⟨d,.binOp .gtr T x y T',ty,ps,af,g⟩ l (.bool (decide (bb < aa))):=Jtk hx hy
theorem Fh (hx:evo l x=some (.int ik aa):=by exact op_) (hy:evo l y=some (.int ik bb):=by exact op_):Det P C ⟨d,.binOp .geq T x y T',ty,ps,af,g⟩ l (.bool (decide (bb≤aa))):=Jty hx hy
theorem Fn (hx:evo l x=some (.bool ba):=by exact op_):Det P C ⟨d,.unOp .not T x,ty,ps,af,g⟩ l (.bool (!ba)):=Jn2 hx
theorem Fc {aq:Addr} (hx:evo l x=some (.pointer (some aq)):=by exact op_):Det P C ⟨d,.nilCheck x,ty,ps,af,g⟩ l (.pointer (some aq)):=Jfo hx
theorem Pa (hc:evo l x=some (.bool bc):=by exact op_) (hx:evo l y=some (cond bc (.bool br) undef):=by exact rfl) (hy:evo l z=some (.bool false):=by exact rfl):Det P C ⟨d,.pick x y z,ty,ps,af,g⟩ l (.bool (bc && br)):=Jbb hc hx hy
theorem Po (hc:evo l x=some (.bool bc):=by exact op_) (hy:evo l z=some (cond (!bc) (.bool br) undef):=by exact rfl) (hx:evo l y=some (.bool true):=by exact rfl):Det P C ⟨d,.pick x y z,ty,ps,af,g⟩ l (.bool (bc || br)):=Jd3 hc hy hx
theorem Za (hx:evo l x=some (.int .i64 aa):=by exact op_) (hy:evo l y=some (.int .i64 bb):=by exact op_) (h : -9223372036854775808≤aa+bb∧aa+bb≤9223372036854775807:=by (try simp only [bq] at hg); omega):Det P C ⟨d,.binOp .add T x y T',ty,ps,af,g⟩ l (.int .i64 (aa+bb)):=Jhv hx hy h
theorem Zb (hx:evo l x=some (.int .i64 aa):=by exact op_) (hy:evo l y=some (.int .i64 bb):=by exact op_) (h : -9223372036854775808≤aa - bb∧aa - bb≤9223372036854775807:=by (try simp only [bq] at hg); omega):Det P C ⟨d,.binOp .sub T x y T',ty,ps,af,g⟩ l (.int .i64 (aa - bb)):=Jj3 hx hy h
theorem Zc (hx:evo l x=some (.int .i64 aa):=by exact op_) (hy:evo l y=some (.int .i64 bb):=by exact op_) (h : -9223372036854775808≤aa * bb∧aa * bb≤9223372036854775807:=by (try simp only [bq] at hg); omega):Det P C ⟨d,.binOp .mul T x y T',ty,ps,af,g⟩ l (.int .i64 (aa * bb)):=Jv4 hx hy h
theorem Db {pl:List (Nat × Operand)} {pls:List (Nat × Nat)} {zs:List Value} {parts:List (Nat × Value)} (hp:plc P T=some pls) (hz:zv P T=some zs) (hv:evp l pl=some parts:=by exact rfl) (hb:bld pls zs parts=some cs:=by exact rfl)
  (h1:∀ p∈parts,p.2.oneCell'=true:=by first | (simp [Value.oneCell']; done) | ((repeat (refine List.forall_mem_cons.2 ⟨by first | rfl | assumption,?_⟩)); exact fun _ h=>absurd h List.not_mem_nil)):Det P C ⟨d,.build T pl.toArray,ty,ps,af,g⟩ l (.agg cs.toArray):=Jnx hp hz hv hb h1
theorem Cb {f:Operand} {args:List Operand} {ts:Array TypeId} {fn:FuncId} {cap:List Value} {vs:List Value} (hf:evo l f=some (.func (.func fn) #[] cap.toArray)) (hv:evs l args=some vs) (he:Ent P fn)
  (hc:∀ u,St n0 w0 L u→Calls P fn (vs++cap).toArray u (RetB u v)):Det P (St n0 w0 L) ⟨d,.call ⟨.value f,args.toArray,ts⟩,ty,ps,af,g⟩ l v:=Jqd hf hv he hc
end
section
variable {P:Program} [Fx P] {C:World→Prop} {l:List Value} {d:Option Tmp} {ty:TypeId} {ps:String} {af:Array Edge} {g:Option (Nat × Bool)} {v:Value}
variable {n0:Nat} {w0:World} {L:List SA} {T T' e e':TypeId} {x y z:Operand} {i b o a k q q' m n:Nat} {c cs:List Value} {vv:Value} {xs:List Int} {ii aa bb:Int} {w:World} {ik:IntKind} {ba bc br:Bool}
theorem Ff {f:Nat} (hx:evo l x=some (.pointer (some ⟨b,o,none⟩)):=by exact op_) (hf:fof P T f=some m:=by exact rfl):Det P C ⟨d,.fieldAddr T x f,ty,ps,af,g⟩ l (.pointer (some ⟨b,o+m,none⟩)):=Jeh hx (Jto hf)
theorem Ba (j:Nat) (hx:evo l x=some (.pointer (some ⟨b,i,none⟩)):=by exact op_) (hj:L[j]? = some (blk b c e):=by exact rfl) (hv:c[i]? = some v:=by exact rfl) (hT:tkf P T=some (false,k):=by exact rfl):Det P (St n0 w0 L) ⟨d,.load T x,ty,ps,af,g⟩ l v:=Jaa hx hj hv (Jcs hT)
theorem Bb (j:Nat) (hx:evo l x=some (.pointer (some ⟨b,0,none⟩)):=by exact op_) (hj:L[j]? = some (blk b c e):=by exact rfl) (hT:tkf P T=some (true,c.length):=by exact rfl):Det P (St n0 w0 L) ⟨d,.load T x,ty,ps,af,g⟩ l (.agg c.toArray):=Jad hx hj (Jcs hT)
theorem Bc (j:Nat) (hx:evo l x=some (.pointer (some ⟨b,i,none⟩)):=by exact op_) (hj:L[j]? = some (blk b c e):=by exact rfl) (hT:tkf P T=some (true,n):=by exact rfl) (hv:cuto i n c=some cs:=by exact rfl):Det P (St n0 w0 L) ⟨d,.load T x,ty,ps,af,g⟩ l (.agg cs.toArray):=Jae hx hj (Jhr hv).1 (Jhr hv).2 (Jcs hT)
theorem Ga (hx:evo l x=some (.pointer (some ⟨b,i,none⟩)):=by exact op_) (hb:BlkAt w0 b c e:=by assumption) (hv:c[i]? = some v:=by exact rfl) (hT:tkf P T=some (false,k):=by exact rfl):Det P (St w0.heap.size w0 L) ⟨d,.load T x,ty,ps,af,g⟩ l v:=Jah hx hb hv (Jcs hT)
theorem Gb (hx:evo l x=some (.pointer (some ⟨b,0,none⟩)):=by exact op_) (hb:BlkAt w0 b c e:=by assumption) (hT:tkf P T=some (true,n):=by exact rfl) (hn:c.length=n:=by exact rfl):Det P (St w0.heap.size w0 L) ⟨d,.load T x,ty,ps,af,g⟩ l (.agg c.toArray):=Ja2 hx hb hn (Jcs hT)
theorem Ia (hx:evo l x=some (.pointer (some (sla vv ii.toNat))):=by exact op_) (hs:SlI w0 vv xs:=by assumption) (h:0≤ii∧ii < xs.length:=by (try simp only [bq] at hg); omega) (hT:tkf P T=some (false,q):=by exact rfl):Det P (St w0.heap.size w0 L) ⟨d,.load T x,ty,ps,af,g⟩ l (.int .i64 (nth xs ii)):=Je4 hx hs h (Jcs hT)
theorem Ib (j:Nat) (hx:evo l x=some (.pointer (some (sla vv ii.toNat))):=by exact op_) (hj:L[j]? = some (oints e vv xs):=by exact rfl) (h:0≤ii∧ii < xs.length:=by (try simp only [bq] at hg); omega) (hT:tkf P T=some (false,q):=by exact rfl):Det P (St n0 w0 L) ⟨d,.load T x,ty,ps,af,g⟩ l (.int .i64 (nth xs ii)):=Jsx hx hj h (Jcs hT)
theorem Xa (hx:evo l x=some vv:=by exact op_) (hy:evo l y=some (.int .i64 ii):=by exact op_) (hs:SlI w vv xs:=by assumption) (h0:0≤ii:=by (try simp only [bq] at hg); omega) (h1:ii < xs.length:=by (try simp only [bq] at hg); omega) (hT:slf P T=some (e,1,q):=by exact rfl):Det P C ⟨d,.indexAddr T x y,ty,ps,af,g⟩ l (.pointer (some (sla vv ii.toNat))):=Jrt (Jjm hT) hx hy hs h0 h1
theorem Xb (j:Nat) (hx:evo l x=some vv:=by exact op_) (hy:evo l y=some (.int .i64 ii):=by exact op_) (hj:L[j]? = some (oints e' vv xs):=by exact rfl) (h0:0≤ii:=by (try simp only [bq] at hg); omega) (h1:ii < xs.length:=by (try simp only [bq] at hg); omega) (hT:slf P T=some (e,1,q):=by exact rfl):Det P (St n0 w0 L) ⟨d,.indexAddr T x y,ty,ps,af,g⟩ l (.pointer (some (sla vv ii.toNat))):=Jp0 (Jjm hT) hx hy hj h0 h1
theorem Na (hx:evo l x=some vv:=by exact op_) (hs:SlI w vv xs:=by assumption) (hT:slf P T=some (e,a,q):=by exact rfl):Det P C ⟨d,.call ⟨.builtin .len, #[x], #[T]⟩,ty,ps,af,g⟩ l (.int .i64 xs.length):=Jft (Jjm hT) hx hs
section
variable {α:Type} {K:Cel α} {s:Sl α}
theorem Nc (hx:evo l x=some s.v:=by exact op_) (hs:SlT K w s:=by assumption) (hT:slf P T=some (e,a,q):=by exact rfl):Det P C ⟨d,.call ⟨.builtin .len, #[x], #[T]⟩,ty,ps,af,g⟩ l (.int .i64 s.l.length):=Jsz (Jjm hT) hx hs
theorem Xc (hx:evo l x=some s.v:=by exact op_) (hy:evo l y=some (.int .i64 ii):=by exact op_) (hs:SlT K w s:=by assumption) (hT:slf P T=some (e,k,q):=by exact rfl) (hk:K.k=k:=by exact rfl) (h0:0≤ii:=by (try simp only [bq] at hg); omega) (h1:ii < s.l.length:=by (try simp only [bq] at hg); omega):Det P C ⟨d,.indexAddr T x y,ty,ps,af,g⟩ l (.pointer (some (sla s.v (ii.toNat * k)))):=Jdn (Jjm hT) hx hy hs hk h0 h1
theorem Uc (k j:Nat) (hx:evo l x=some (.pointer (some ⟨slb s.v,slo s.v+ii.toNat * k+j,none⟩)):=by exact op_) (hs:SlT K w0 s:=by assumption) (ih:Inhabited α:=by infer_instance) (hk:K.k=k:=by exact rfl) (h:0≤ii∧ii < s.l.length:=by (try simp only [bq] at hg); omega) (hj:j < k:=by decide) (hc:(K.cells (nth s.l ii))[j]? = some v:=by exact rfl) (hT:tkf P T=some (false,q):=by exact rfl):Det P (St w0.heap.size w0 L) ⟨d,.load T x,ty,ps,af,g⟩ l v:=Jre k j hx hs hk h hj hc (Jcs hT)
theorem Ub (hx:evo l x=some (.pointer (some (sla s.v (ii.toNat * 1)))):=by exact op_) (hs:SlT K w0 s:=by assumption) (ih:Inhabited α:=by infer_instance) (hk:K.k=1:=by exact rfl) (h:0≤ii∧ii < s.l.length:=by (try simp only [bq] at hg); omega) (hc:(K.cells (nth s.l ii))[0]? = some v:=by exact rfl) (hT:tkf P T=some (false,q):=by exact rfl):Det P (St w0.heap.size w0 L) ⟨d,.load T x,ty,ps,af,g⟩ l v:=Jrv hx hs hk h hc (Jcs hT)
theorem Ua (hx:evo l x=some (.pointer (some (sla s.v (ii.toNat * k)))):=by exact op_) (hs:SlT K w0 s:=by assumption) (ih:Inhabited α:=by infer_instance) (hk:K.k=k:=by exact rfl) (h:0≤ii∧ii < s.l.length:=by (try simp only [bq] at hg); omega) (hc:K.cells (nth s.l ii)=cs:=by exact rfl) (hT:tkf P T=some (true,k):=by exact rfl):Det P (St w0.heap.size w0 L) ⟨d,.load T x,ty,ps,af,g⟩ l (.agg cs.toArray):=Jvh hx hs hk h hc (Jcs hT)
variable [Inhabited α]
theorem Vb (jj:Nat) (hj:L[jj]? = some (roT K s)) (hx:evo l x=some (.pointer (some (sla s.v (ii.toNat * 1)))):=by exact op_) (hk:K.k=1:=by exact rfl) (h:0≤ii∧ii < s.l.length:=by (try simp only [bq] at hg); omega) (hc:(K.cells (nth s.l ii))[0]? = some v:=by exact rfl) (hT:tkf P T=some (false,q):=by exact rfl):Det P (St n0 w0 L) ⟨d,.load T x,ty,ps,af,g⟩ l v:=Jlf hj hx rfl hk h hc (Jcs hT)
end
end
section
variable {P:Program} [Fx P] {ro:Option Nat} {n0:Nat} {w0:World} {ds:List Deferred} {ops:Array Oper} {Q:Exit→Act→World→Prop} {L L':List SA} {l l'':List Value} {T ty e:TypeId} {x y:Operand} {ps:String} {af:Array Edge} {b i q d:Nat} {bq_:Bool} {c c' vs:List Value} {v:Value} {rest rest':List Oper}
theorem Ws (n j:Nat) (k:WS P ro n0 w0 ds ops Q L' rest' l'') (hx:evo l x=some (.pointer (some ⟨b,i,none⟩)):=by exact rfl) (hj:L[j]? = some (blk b c e):=by exact rfl) (hi:i < c.length:=by first | decide | omega | (simp; done) | (simp; omega) | exact Nat.le_of_ble_eq_true rfl)
  (hy:evo l y=some v:=by exact rfl) (h1:v.oneCell'=true:=by first | rfl | assumption) (hT:tkf P T=some (bq_,1):=by exact rfl) (hc:lset c i v=some c':=by first | exact rfl | exact Jab _ _ _) (hL:lset L j (blk b c' e)=some L':=by exact rfl) (hr:runF P n rest l=some (rest',l''):=by exact rfl) :
  WS P ro n0 w0 ds ops Q L (⟨none,.store T x y,ty,ps,af,none⟩::rest) l:=WS.store hx hj hi hy h1 (Jcs hT) hc hL (Wz n k hr)
theorem Wv (n j:Nat) (k:WS P ro n0 w0 ds ops Q L' rest' l'') (hx:evo l x=some (.pointer (some ⟨b,0,none⟩)):=by exact rfl) (hj:L[j]? = some (blk b c e):=by exact rfl) (hy:evo l y=some (.agg vs.toArray):=by exact rfl) (hn:vs.length=c.length:=by exact rfl)
  (h1:∀ v∈vs,v.oneCell'=true:=by first | (simp [Value.oneCell']; done) | ((repeat (refine List.forall_mem_cons.2 ⟨by first | rfl | assumption,?_⟩)); exact fun _ h=>absurd h List.not_mem_nil) | exact Cel.one _ w _ (by first | assumption | exact trivial))
  (hT:tkf P T=some (true,q):=by exact rfl) (hnn:vs.length=q:=by exact rfl) (hL:lset L j (blk b vs e)=some L':=by exact rfl) (hr:runF P n rest l=some (rest',l''):=by exact rfl) :
  WS P ro n0 w0 ds ops Q L (⟨none,.store T x y,ty,ps,af,none⟩::rest) l:=WS.storeW hx hj hy hn h1 (Jcs hT) hnn hL (Wz n k hr)
variable {ll:Nat→List Value} {rr:Nat→List Oper} {lz:Nat→List Value}
theorem Wb (n:Nat) (hx:evo l x=some v) (hc:v.cells=c.toArray) (hl:∀ b,lset l d (.pointer (some ⟨b,0,none⟩))=some (ll b)) (hr:∀ b,runF P n rest (ll b)=some (rr b,lz b))
  (k:∀ b,n0≤b→WS P ro n0 w0 ds ops Q (blk b c T::L) (rr b) (lz b)):WS P ro n0 w0 ds ops Q L (⟨some d,.box T x,ty,ps,af,none⟩::rest) l:=WS.box hx hc hl fun b hb=>Wz n (k b hb) (hr b)
theorem Wl (n:Nat) (hz:zv P T=some c) (hl:∀ b,lset l d (.pointer (some ⟨b,0,none⟩))=some (ll b)) (hr:∀ b,runF P n rest (ll b)=some (rr b,lz b))
  (k:∀ b,n0≤b→WS P ro n0 w0 ds ops Q (blk b c T::L) (rr b) (lz b)):WS P ro n0 w0 ds ops Q L (⟨some d,.alloc T,ty,ps,af,none⟩::rest) l:=WS.alloc hz hl fun b hb=>Wz n (k b hb) (hr b)
theorem Nz (n:Nat) {id:Nat} {os:List Oper} {z:Code} (k:WS P ro n0 w0 ds os.toArray (Exit.then (z.wpIn (FW ro) 0 P Q) Q) L rest' l'') (hr:runF P n os l=some (rest',l''):=by exact rfl):CS P ro n0 w0 ds (.seq (.region id os.toArray false) z) Q L l:=CS.seq (CS.region (Wz n k hr))
theorem Ny (n:Nat) {id:Nat} {os:List Oper} (k:WS P ro n0 w0 ds os.toArray Q L rest' l'') (hr:runF P n os l=some (rest',l''):=by exact rfl):CS P ro n0 w0 ds (.region id os.toArray false) Q L l:=CS.region (Wz n k hr)
end
section
variable {P:Program} {ro:Option Nat} {n0:Nat} {w0:World} {ds:List Deferred} {ops:Array Oper} {Q:Exit→Act→World→Prop} {L:List SA} {C:World→Prop} {l:List Value} {o:Oper} {b:Bool} {rest:List Oper}
theorem Fy_ (h:False):Det P C o l undef:=h.elim
theorem Fz_ (h:False):Det P C o l (.bool false):=h.elim
theorem Fy (h:b=false) (k:b=true):Det P C o l undef:=Bool.noConfusion (h.symm.trans k)
theorem Fz (h:b=false) (k:b=true):Det P C o l (.bool false):=Bool.noConfusion (h.symm.trans k)
theorem eg_ {x:Operand} {v:Value} (hb:b=true) (h:evo l x=some (cond b v undef)):evo l x=some v:=Jkh hb h
theorem en_:evs l []=some []:=rfl
theorem ec_ {x:Operand} {xs:List Operand} {v:Value} {vs:List Value} (h:evo l x=some v) (h2:evs l xs=some vs):evs l (x::xs)=some (v::vs):=Jsw h h2
theorem Ck (k:QS n0 w0 ds Q .normal L l):CS P ro n0 w0 ds .skip Q L l:=CS.skip k
theorem Cr (k:QS n0 w0 ds Q .ret L l):CS P ro n0 w0 ds .ret Q L l:=CS.ret k
theorem Cv {id:Nat} (k:QS n0 w0 ds Q (.exit id) L l):CS P ro n0 w0 ds (.exit id) Q L l:=CS.leave k
theorem Cs {x y:Code} (k:CS P ro n0 w0 ds x (Exit.then (y.wpIn (FW ro) 0 P Q) Q) L l):CS P ro n0 w0 ds (.seq x y) Q L l:=CS.seq k
theorem Ce {id:Nat} {c:Code} (k:CS P ro n0 w0 ds c (Exit.inBlock id Q) L l):CS P ro n0 w0 ds (.block id c) Q L l:=CS.block k
theorem Qc {y:Code} {Q':Exit→Act→World→Prop} (k:CS P ro n0 w0 ds y Q' L l):QS n0 w0 ds (Exit.then (y.wpIn (FW ro) 0 P Q') Q) .normal L l:=k
theorem Qr {K:Act→World→Prop} (k:QS n0 w0 ds Q .ret L l):QS n0 w0 ds (Exit.then K Q) .ret L l:=k
theorem Qe {K:Act→World→Prop} {i:Nat} (k:QS n0 w0 ds Q (.exit i) L l):QS n0 w0 ds (Exit.then K Q) (.exit i) L l:=k
theorem Qb {id:Nat} (k:QS n0 w0 ds Q .normal L l):QS n0 w0 ds (Exit.inBlock id Q) .normal L l:=k
theorem Qs {id:Nat} (k:QS n0 w0 ds Q .ret L l):QS n0 w0 ds (Exit.inBlock id Q) .ret L l:=k
theorem Qx {id:Nat} (k:QS n0 w0 ds Q .normal L l):QS n0 w0 ds (Exit.inBlock id Q) (.exit id) L l:=QS.block_exit k
theorem Wd (k:QS n0 w0 ds Q .normal L l):WS P ro n0 w0 ds ops Q L [] l:=WS.done k
theorem Dd (k:QS n0 w0 ds Q .normal L l):DS P n0 w0 ds ops Q L [] l:=k
theorem Qa {bl:List Bool} {fuel:Nat} (k:AS P ro n0 w0 ds ops Q C L fuel bl l):QS n0 w0 ds (Exit.then (AH P ro ops (NP ops Q) C fuel bl.toArray) (NP ops Q)) .normal L l:=QS.then_AS k
theorem Qt {bl:List Bool} {fuel s:Nat} (k:AT P ro n0 w0 ds ops Q C s L fuel bl l):QS n0 w0 ds (Exit.then (AZ P ro ops (NP ops Q) C s fuel bl.toArray) (NP ops Q)) .normal L l:=QS.then_AT k
theorem Wc {β:Type} {f:Operand} {args:List Operand} {ts:Array TypeId} {fn:FuncId} {cap:List Value} {vs:List Value} {v:β→Value} {A:β→SA} {p:β→Prop} {i:Nat} {l':β→List Value} {ty:TypeId} {ps:String} {af:Array Edge}
  (hf:evo l f=some (.func (.func fn) #[] cap.toArray)) (hv:evs l args=some vs) (he:Ent P fn)
  (hc:∀ u,St n0 w0 L u→Calls P fn (vs++cap).toArray u (fun e u'=>∃ x,p x∧RetF u (v x) (A x) e u'))
  (hl:∀ x,lset l i (v x)=some (l' x)) (k:∀ x,p x→WS P ro n0 w0 ds ops Q (A x::L) rest (l' x)) :
  WS P ro n0 w0 ds ops Q L (⟨some i,.call ⟨.value f,args.toArray,ts⟩,ty,ps,af,none⟩::rest) l:=WS.callF hf hv he hc hl k
end
end Go.Proofs.YtkekjhcmephhjaaGreatDoor
namespace Go.Proofs.YtkekjhcmephhjaaGreatDoor
set_option linter.unusedVariables false
set_option linter.unusedSimpArgs false
open Go.RowKit Go.Proofs
def cU8:Cel Int:=⟨1,fun x=>[.int .u8 x],fun _ _=>True,fun _=>rfl,fun _ _ _ _ _=>trivial,fun _ _ _ v hv=>by simp at hv; subst hv; rfl⟩
def byts (t:ByteArray):List Int:=(bl t).map fun b=>(b.toNat:Int)
theorem Jf2 (t:ByteArray):(byts t).length=t.size:=by simp [byts]
theorem Jrw {t:ByteArray} {i:Int} (h0:0≤i) (h1:i < t.size):nth (byts t) i=byt t i:=by
 have h2:i.toNat < (bl t).length:=by rw [Jbw]; omega
 have e:=Jdu (t:=t) (i:=i.toNat) (by omega)
 rw [show ((i.toNat:Nat):Int)=i by omega] at e
 rw [e]
 simp only [byts,nth,List.getD,List.getElem?_map,List.getElem?_eq_getElem h2,Option.map_some,Option.getD_some]
def RetL (w:World) (xs:List ByteArray):Ending→World→Prop:=fun e w'=>∃ v:Value,(∃ u0,SlT cStr u0 ⟨v,xs⟩)∧RetF w v (roT cStr ⟨v,xs⟩) e w'
theorem Jss (xs:List ByteArray):Ja9 cStr xs=xs.map Value.string:=by
 unfold Ja9
 induction xs with
 | nil=>rfl
 | cons x xs ih=>rw [List.map_cons,List.flatten_cons,ih]; rfl
theorem Ji0 {u:World} {b:Nat} {xs:List ByteArray} {e:TypeId} (hb:u.heap[b]? = some (.cells (xs.map Value.string).toArray e (0,0))) (h:xs.length≤9223372036854775807) :
  SlT cStr u ⟨.slice (some ⟨b,0,none⟩) xs.length xs.length,xs⟩:=by
 refine ⟨⟨by rw [Jbu],some ⟨b,0,none⟩,xs.length,rfl,⟨Nat.le_refl _,h⟩,.inr ⟨b,0,rfl,fun m x hx=>?_⟩⟩,fun _ _=>trivial⟩
 simp only at hx
 rw [Jss] at hx
 rw [Nat.zero_add,Jb2 hb m]
 exact hx
theorem Jmu {w:World} {xs:List ByteArray} {e:TypeId} (h:xs.length≤9223372036854775807) :
  RetL w xs (.returned (.slice (some ⟨w.heap.size,0,none⟩) xs.length xs.length)) (w.alloc (.cells (xs.map Value.string).toArray e)):=by
 have h0:(w.alloc (.cells (xs.map Value.string).toArray e)).heap[w.heap.size]? = some (.cells (xs.map Value.string).toArray e (0,0)):=World.alloc_heap_new w _
 refine ⟨_,⟨_,Ji0 h0 h⟩,rfl,(Below.refl _ w).alloc (Nat.le_refl _) _,fun k=>k=w.heap.size,⟨fun u' hk=>Ji0 (hk _ rfl _ h0) h,fun k hk=>?_⟩,fun k hk=>by omega⟩
 subst hk
 exact (Array.getElem?_eq_some_iff.1 h0).1
theorem Jz9 {w0 u:World} {L:List SA} {e:TypeId} {j:Nat} {v:Value} {xs:List ByteArray} (hj:L[j]? = some (oT cStr e v xs)) (hu:St w0.heap.size w0 L u):RetL w0 xs (.returned v) u :=
 ⟨v,⟨u,Jcp hu hj (fun _ _=>trivial)⟩,retR (p:=fun u=>SlT cStr u ⟨v,xs⟩) (fun S u hs=>⟨Star.osl hj hs,fun _ _=>trivial⟩) u hu⟩
section
variable {P:Program} {ro:Option Nat} {n0:Nat} {w0:World} {ds:List Deferred} {ops:Array Oper} {Q:Exit→Act→World→Prop} {L:List SA} {rest:List Oper} {l:List Value} {d:Option Tmp} {ty:TypeId} {ps:String} {af:Array Edge} {g:Option (Nat × Bool)} {C:World→Prop}
theorem Jkl {T T':TypeId} {x:Operand} (hT:P.underlying T=some (.interface (P.methodsAt T))) (hx:evo l x=some .nilIface):Det P C ⟨d,.binOp .eql T x (.const .nilIface) T',ty,ps,af,g⟩ l (.bool true):=fun u _=>by
 replace hx:=Jam hx
 have h:=run_equal_nil_nil u T hT
 have hy:ev l (.const .nilIface) = .nilIface:=rfl
 simp [execOp,Jan,hx,hy,eqGuard,binOp,h]
theorem Jqv {T T':TypeId} {x y:Operand} {a b:Int} (hx:evo l x=some (.int .u8 a)) (hy:evo l y=some (.int .u8 b)) (h:0≤a - b∧a - b≤255) :
  Det P C ⟨d,.binOp .sub T x y T',ty,ps,af,g⟩ l (.int .u8 (a - b)):=fun u _=>by
 (replace hx:=Jam hx; replace hy:=Jam hy)
 simp [execOp,Jan,hx,hy,eqGuard,binOp,Op.intArith,IntWalk.u8_in _ h]
theorem Jmy {T T':TypeId} {x:Operand} {a:Int} (hT:P.underlying T=some (.int .u8)) (hT':P.underlying T'=some (.int .i64)) (hx:evo l x=some (.int .u8 a)) (h:0≤a∧a≤255) :
  Det P C ⟨d,.convert T T' x,ty,ps,af,g⟩ l (.int .i64 a):=fun u _=>by
 (replace hx:=Jam hx)
 simp [execOp,Jan,hx,convert,run_underlying hT,run_underlying hT',Conv.intToInt,IntWalk.i64_in a (by omega)]
theorem Jiu {u:World} {b:Nat} {t:ByteArray} {w:World} {e:TypeId} (hb:∀ j,j < t.size→u.cell? ⟨b,j,none⟩=some (.int .u8 (t.data.toList.getD j 0).toNat)) (h:t.size≤maxLen) :
  SlT cU8 u ⟨.slice (some ⟨b,0,none⟩) t.size (grownCap w t.size 0 e),byts t⟩:=by
 refine ⟨⟨by rw [Jbu],some ⟨b,0,none⟩,grownCap w t.size 0 e,by simp only [Jf2],⟨by simp only [Jf2]; exact grownCap_ge .., ?_⟩,.inr ⟨b,0,rfl,fun m x hx=>?_⟩⟩,fun _ _=>trivial⟩
 ·
  have:=grownCap_le_maxLen w t.size 0 e h
  unfold maxLen at this
  omega
 simp only at hx
 have hm:=(List.getElem?_eq_some_iff.1 hx).1
 rw [Jbu,Jf2,show cU8.k=1 from rfl,Nat.mul_one] at hm
 have h2:=Jb8 cU8 (l:=byts t) (i:=(m:Int)) (by omega) (by rw [Jf2]; omega) 0 (by decide)
 rw [show cU8.k=1 from rfl,Nat.mul_one,Nat.add_zero,show ((m:Int)).toNat=m by omega,hx] at h2
 rw [Nat.zero_add,hb m hm,h2]
 have e1:nth (byts t) (m:Int)=((t.data.toList.getD m 0).toNat:Int):=by
  rw [Jrw (by omega) (by omega),Jdu hm]
  congr 2
  rw [List.getD,List.getElem?_eq_getElem (by rw [Jbw]; exact hm)]; rfl
 rw [e1]; rfl
theorem WS.bytes {T T' e:TypeId} {i:Nat} {x:Operand} {t:ByteArray} (hT:P.underlying T=some .string) (hT':P.underlying T'=some (.slice e)) (he:P.underlying e=some (.int .u8)) (hx:evo l x=some (.string t)) (h:t.size≤maxLen)
  {l':Value→List Value} (hl:∀ v,lset l i v=some (l' v)) (k:∀ v,(∃ u0,SlT cU8 u0 ⟨v,byts t⟩)→WS P ro n0 w0 ds ops Q (roT cU8 ⟨v,byts t⟩::L) rest (l' v)) :
  WS P ro n0 w0 ds ops Q L (⟨some i,.convert T T' x,ty,ps,af,none⟩::rest) l:=by
 refine WS.world rfl rfl fun u hu=>?_
 replace hx:=Jam hx
 refine ⟨.slice (some ⟨u.heap.size,0,none⟩) t.size (grownCap u t.size 0 e),Lib.bytesWorld u e t,?_,?_⟩
 ·
  have h1:(convert T T' (.string t)).run P u=_:=Lib.run_convert_string_bytes u T T' e t hT hT' he
  simp [execOp,hx,h1]
 show wpListIn (FW ro) 0 P ops Q rest ((Act.mk l.toArray ds).put (some i) _) _
 rw [Jaw,Jal (hl _)]
 have hc:∀ j,j < t.size→(Lib.bytesWorld u e t).cell? ⟨u.heap.size,j,none⟩=some (.int .u8 (t.data.toList.getD j 0).toNat):=Lib.bytesWorld_cell u e t
 have hat:=Lib.bytesWorld_at_new u e t
 refine k _ ⟨_,Jiu hc h⟩ _ (hu.cons (T:=fun k=>k=u.heap.size) (Lib.bytesWorld_below u e t) ⟨fun u' hk=>Jiu (fun j hj=>?_) h,fun k hk=>?_⟩ fun k hk=>by omega)
 ·
  rw [← hc j hj]
  have h3:=hk _ rfl _ hat
  simp [World.cell?,h3,hat]
 subst hk
 exact (Array.getElem?_eq_some_iff.1 hat).1
end
end Go.Proofs.YtkekjhcmephhjaaGreatDoor
namespace Go.Proofs.YtkekjhcmephhjaaGreatDoor
set_option linter.unusedVariables false
set_option linter.unusedSimpArgs false
open Go.RowKit
structure LockD where
 w:Int
 s:Int
 deriving Inhabited,DecidableEq
structure NoteD where
 nm:ByteArray
 pl:Int
 lk:Int
 wh:Sl Lit
 cl:Clue
 gv:Value
 deriving Inhabited
structure NoteP where
 nm:ByteArray
 pl:Int
 lk:Int
 wh:List Lit
 cl:Clue
 deriving Inhabited
def NoteD.p (n:NoteD):NoteP:=⟨n.nm,n.pl,n.lk,n.wh.l,n.cl⟩
structure Game where
 rm:Room
 lks:Sl LockD
 cds:Sl (Sl Int)
 nts:Sl NoteD
 tr:Int
 deriving Inhabited
structure GP where
 rm:Room
 lks:List LockD
 cds:List (List Int)
 nts:List NoteP
 tr:Int
 deriving Inhabited
def Game.p (g:Game):GP:=⟨g.rm.e,g.lks.l,g.cds.l.map Sl.l,g.nts.l.map NoteD.p,g.tr⟩
structure Pos where
 st:Stt
 rd:Sl Bool
 deriving Inhabited
def Jz5:Cel LockD:=⟨2,fun a=>[.int .i64 a.w,.int .i64 a.s],fun _ _=>True,fun _=>rfl,fun _ _ _ _ _=>trivial,fun _ _ _ v hv=>by simp at hv; rcases hv with rfl | rfl <;> rfl⟩
theorem SlI.one1 {w:World} {v:Value} {xs:List Int} (h:SlI w v xs):v.oneCell'=true:=by
 obtain ⟨p,cap,rfl⟩:=h.shape; rfl
def Jzv:Cel NoteD:=⟨11,fun a=>[.string a.nm,.int .i64 a.pl,.int .i64 a.lk,a.wh.v,.int .i64 a.cl.k,.int .i64 a.cl.a,.int .i64 a.cl.b,.int .i64 a.cl.n,.int .i64 a.cl.m,a.gv,.bool a.cl.nt],
 fun w a=>SlT cLit w a.wh∧SlI w a.gv a.cl.g,fun _=>rfl,fun _ _ _ h hb=>⟨h.1.ext hb,h.2.ext hb⟩,fun _ _ h v hv=>by
 simp at hv; rcases hv with rfl | rfl | rfl | rfl | rfl | rfl | rfl | rfl | rfl | rfl | rfl
 ·
  rfl
 ·
  rfl
 ·
  rfl
 ·
  exact Sl.one h.1
 ·
  rfl
 ·
  rfl
 ·
  rfl
 ·
  rfl
 ·
  rfl
 ·
  exact h.2.one1
 rfl⟩
structure GameOk (w:World) (g:Game):Prop where
 rm:RoomOk w g.rm
 lks:SlT Jz5 w g.lks
 cds:SlT (cSl cInt) w g.cds
 nts:SlT Jzv w g.nts
theorem GameOk.ext {w u:World} {g:Game} (h:GameOk w g) (hb:Below w.heap.size w u):GameOk u g:=⟨h.rm.ext hb,h.lks.ext hb,h.cds.ext hb,h.nts.ext hb⟩
theorem GameOk.st {w u:World} {L:List SA} {g:Game} (h:GameOk w g) (hu:St w.heap.size w L u):GameOk u g:=h.ext hu.below
structure PosOk (w:World) (p:Pos):Prop where
 st:SttOk w p.st
 rd:SlT Jz1 w p.rd
theorem PosOk.ext {w u:World} {p:Pos} (h:PosOk w p) (hb:Below w.heap.size w u):PosOk u p:=⟨h.st.ext hb,h.rd.ext hb⟩
abbrev PX:=P3 × List Bool
def Pos.x (p:Pos):PX:=(p.st.x,p.rd.l)
def Jza (c:Clue):Bool:=decide (c.k=0) && (decide (c.a=0) && (decide (c.b=0) && (decide (c.n=0) && (decide (c.m=0) && (decide ((c.g.length:Int)=0) && !c.nt)))))
def Jns (x:P3) (n:NoteP):Bool:=x.2.2.any (fun p=>decide (p=n.pl)) && Jdo x.1 n.wh
def Joh (G:GP) (x:P3) (rd:List Bool):List Bool:=(Jhx rd.length).map fun i=>nth rd i || Jns x (nth G.nts i)
def Jyu (G:Game) (n:NoteD):Bool:=if n.lk = -1 then Jza n.cl else decide (Juz (nth G.lks.l n.lk).w (nth G.lks.l n.lk).s n.cl=0) && Jqf n.cl (nth G.cds.l n.lk).l
def ntG (G:Game) (i:Int):Bool:=newB NoteD.nm G.nts.l i && (Jbe (nth G.nts.l i).nm && (placeB G.rm (nth G.nts.l i).pl && ((decide (-1≤(nth G.nts.l i).lk) && decide ((nth G.nts.l i).lk≤(G.lks.l.length:Int) - 1)) && Jyu G (nth G.nts.l i))))
theorem Jnp {G:Game} {n:NoteD} (h:¬ n.lk = -1):Jyu G n=(decide (Juz (nth G.lks.l n.lk).w (nth G.lks.l n.lk).s n.cl=0) && Jqf n.cl (nth G.cds.l n.lk).l):=if_neg h
end Go.Proofs.YtkekjhcmephhjaaGreatDoor
namespace Go.Proofs.YtkekjhcmephhjaaGreatDoor
set_option linter.unusedVariables false
set_option linter.unusedSimpArgs false
open Go.RowKit Go.MapKept
structure MapI (es:Array MapEntry) (f:Int→Int):Prop where
 num:∀ e∈es.toList,∃ k,e.key = .int .i64 k∧e.val = .int .i64 (f k)
 non:∀ k,(∀ e∈es.toList,e.key ≠ .int .i64 k)→f k=0
 dis:es.toList.Pairwise fun a b=>a.key≠b.key
theorem Jhk {α:Type} (f:α→α):∀ (l:List α) (j:Nat) (e:α),l[j]? = some e→l.modify j f=l.set j (f e)
 | [],_,_,h=>by simp at h
 | a::l,0,e,h=>by simp at h; subst h; rfl
 | a::l,j+1,e,h=>by
  rw [List.modify_succ_cons,List.set_cons_succ,Jhk f l j e (by simpa using h)]
def updI (f:Int→Int) (k v:Int):Int→Int:=fun j=>if j=k then v else f j
theorem MapI.nil:MapI #[] fun _=>0:=⟨by simp,fun _ _=>rfl,by simp⟩
theorem MapI.new {es:Array MapEntry} {f:Int→Int} (h:MapI es f) {k:Int} (hk:∀ x∈es.toList,x.key ≠ .int .i64 k) (v:Int) (c:Nat):MapI (es.push ⟨.int .i64 k,.int .i64 v,c⟩) (updI f k v):=by
 refine ⟨fun e he=>?_,fun j hj=>?_,?_⟩
 ·
  rw [Array.toList_push,List.mem_append,List.mem_singleton] at he
  rcases he with he | rfl
  ·
   obtain ⟨q,h1,h2⟩:=h.num e he
   refine ⟨q,h1,?_⟩
   have:q≠k:=fun hq=>hk e he (by rw [h1,hq])
   rw [h2,updI,if_neg this]
  exact ⟨k,rfl,by simp [updI]⟩
 ·
  have h1:j≠k:=fun hq=>hj ⟨.int .i64 k,.int .i64 v,c⟩ (by simp) (by rw [hq])
  rw [updI,if_neg h1]
  exact h.non j fun e he=>hj e (by simp [Array.toList_push]; exact .inl (by simpa using he))
 rw [Array.toList_push,List.pairwise_append]
 exact ⟨h.dis,List.pairwise_singleton _ _,fun a ha b hb=>by rw [List.mem_singleton] at hb; subst hb; exact hk a ha⟩
theorem MapI.at {es:Array MapEntry} {f:Int→Int} (h:MapI es f) {j:Nat} {e:MapEntry} {k:Int} (hj:es.toList[j]? = some e) (hk:e.key = .int .i64 k):e.val = .int .i64 (f k):=by
 obtain ⟨q,h1,h2⟩:=h.num e (List.mem_of_getElem? hj)
 rw [hk] at h1
 rw [h2]; injection h1 with _ h3; rw [h3]
theorem MapI.apart {es:Array MapEntry} {f:Int→Int} (h:MapI es f) {i j:Nat} {a b:MapEntry} (hi:es.toList[i]? = some a) (hj:es.toList[j]? = some b) (hk:a.key=b.key):i=j:=by
 obtain ⟨hi1,hi2⟩:=List.getElem?_eq_some_iff.1 hi
 obtain ⟨hj1,hj2⟩:=List.getElem?_eq_some_iff.1 hj
 have hp:=List.pairwise_iff_getElem.1 h.dis
 rcases Nat.lt_trichotomy i j with h1 | h1 | h1
 ·
  exact (hp i j hi1 hj1 h1 (by rw [hi2,hj2]; exact hk)).elim
 ·
  exact h1
 exact (hp j i hj1 hi1 h1 (by rw [hi2,hj2]; exact hk.symm)).elim
theorem MapI.old {es:Array MapEntry} {f:Int→Int} (h:MapI es f) {j:Nat} {e:MapEntry} {k:Int} (hj:es.toList[j]? = some e) (hk:e.key = .int .i64 k) (v:Int) :
  MapI (es.modify j fun e'=>{ e' with key:=.int .i64 k,val:=.int .i64 v }) (updI f k v):=by
 have hl:(es.modify j fun e'=>{ e' with key:=.int .i64 k,val:=.int .i64 v }).toList=es.toList.set j { e with key:=.int .i64 k,val:=.int .i64 v }:=by
  rw [Array.toList_modify,Jhk _ _ _ _ hj]
 have hjl:=(List.getElem?_eq_some_iff.1 hj).1
 refine ⟨fun x hx=>?_,fun q hq=>?_,?_⟩
 ·
  rw [hl] at hx
  obtain ⟨i,hi⟩:=List.getElem?_of_mem hx
  by_cases hij:i=j
  ·
   subst hij
   rw [List.getElem?_set_self hjl] at hi
   cases hi
   exact ⟨k,rfl,by simp [updI]⟩
  rw [List.getElem?_set_ne (Ne.symm hij)] at hi
  obtain ⟨q,h1,h2⟩:=h.num x (List.mem_of_getElem? hi)
  refine ⟨q,h1,?_⟩
  have:q≠k:=fun hq=>hij (h.apart hi hj (by rw [h1,hk,hq]))
  rw [h2,updI,if_neg this]
 ·
  rw [hl] at hq
  have h1:q≠k:=fun h0=>hq _ (List.mem_of_getElem? (List.getElem?_set_self hjl)) (by simp [h0])
  rw [updI,if_neg h1]
  refine h.non q fun x hx hxk=>?_
  obtain ⟨i,hi⟩:=List.getElem?_of_mem hx
  by_cases hij:i=j
  ·
   subst hij
   rw [hj] at hi; cases hi
   rw [hk] at hxk; injection hxk with _ h3; exact h1 h3.symm
  exact hq x (List.mem_of_getElem? (by rw [List.getElem?_set_ne (Ne.symm hij)]; exact hi)) hxk
 rw [hl,List.pairwise_iff_getElem]
 intro a b ha hb hab
 have hp:=List.pairwise_iff_getElem.1 h.dis
 have e1:∀ i (hi:i < (es.toList.set j { e with key:=.int .i64 k,val:=.int .i64 v }).length),((es.toList.set j { e with key:=.int .i64 k,val:=.int .i64 v })[i]).key=(es.toList[i]'(by simpa using hi)).key:=fun i hi=>by
  rw [List.getElem_set]
  split
  ·
   rename_i hji; subst hji
   have:=(List.getElem?_eq_some_iff.1 hj).2
   rw [this,hk]
  rfl
 rw [e1,e1]
 exact hp a b (by simpa using ha) (by simpa using hb) hab
theorem MapI.drop {es:Array MapEntry} {f:Int→Int} (h:MapI es f) {j:Nat} {e:MapEntry} {k:Int} (hj:es.toList[j]? = some e) (hk:e.key = .int .i64 k):MapI (es.eraseIdxIfInBounds j) (updI f k 0):=by
 have hjl:j < es.toList.length:=(List.getElem?_eq_some_iff.1 hj).1
 have hjs:j < es.size:=by simpa using hjl
 have hl:(es.eraseIdxIfInBounds j).toList=es.toList.eraseIdx j:=by
  unfold Array.eraseIdxIfInBounds
  rw [dif_pos hjs]; simp
 have hne:∀ x∈es.toList.eraseIdx j,x.key ≠ .int .i64 k:=fun x hx hxk=>by
  obtain ⟨i,hij,hi⟩:=List.mem_eraseIdx_iff_getElem?.1 hx
  exact hij (h.apart hi hj (by rw [hxk,hk]))
 refine ⟨fun x hx=>?_,fun q hq=>?_,by rw [hl]; exact h.dis.sublist (List.eraseIdx_sublist _ _)⟩
 ·
  rw [hl] at hx
  obtain ⟨q,h1,h2⟩:=h.num x ((List.eraseIdx_sublist _ _).subset hx)
  refine ⟨q,h1,?_⟩
  have:q≠k:=fun hq=>hne x hx (by rw [h1,hq])
  rw [h2,updI,if_neg this]
 rw [hl] at hq
 by_cases h1:q=k
 ·
  simp [updI,h1]
 rw [updI,if_neg h1]
 refine h.non q fun x hx hxk=>?_
 obtain ⟨i,hi⟩:=List.getElem?_of_mem hx
 by_cases hij:i=j
 ·
  subst hij
  rw [hj] at hi; cases hi
  rw [hk] at hxk; injection hxk with _ h3; exact h1 h3.symm
 exact hq x (List.mem_eraseIdx_iff_getElem?.2 ⟨i,hij,hi⟩) hxk
end Go.Proofs.YtkekjhcmephhjaaGreatDoor
namespace Go.Proofs.YtkekjhcmephhjaaGreatDoor
set_option linter.unusedVariables false
set_option linter.unusedSimpArgs false
open Go.RowKit
def putL:Nat→List Value→List Value→Option (List Value)
 | 0,[],z=>some z
 | 0,c::cs,_::z=>match putL 0 cs z with
  | some r=>some (c::r)
  | none=>none
 | o+1,cs,x::z=>match putL o cs z with
  | some r=>some (x::r)
  | none=>none
 | _,_,[]=>none
theorem Jgl:∀ {o:Nat} {cs z r:List Value},putL o cs z=some r→o+cs.length≤z.length∧r=z.take o++(cs++z.drop (o+cs.length))
 | 0,[],z,r,h=>by simp [putL] at h; subst h; simp
 | 0,c::cs,[],r,h=>by simp [putL] at h
 | 0,c::cs,y::z,r,h=>by
  unfold putL at h
  split at h
  ·
   rename_i r' hr
   simp at h
   subst h
   have:=Jgl hr
   simp at this ⊢
   obtain ⟨h1,h2⟩:=this
   exact ⟨by omega,by rw [h2]⟩
  simp at h
 | o+1,cs,[],r,h=>by cases cs <;> simp [putL] at h
 | o+1,cs,x::z,r,h=>by
  have h':(match putL o cs z with | some r=>some (x::r) | none=>none)=some r:=by cases cs <;> exact h
  split at h'
  ·
   rename_i r' hr
   simp at h'
   subst h'
   have:=Jgl hr
   obtain ⟨h1,h2⟩:=this
   refine ⟨by simp; omega,?_⟩
   rw [show o+1+cs.length=o+cs.length+1 by omega]
   simp [h2]
  simp at h'
def bldG (pls:List (Nat × Nat)):List Value→List (Nat × List Value)→Option (List Value)
 | z,[]=>some z
 | z,(i,cs)::r=>match pls[i]? with
  | some (o,n)=>match Nat.beq cs.length n with
   | true=>match putL o cs z with
    | some z'=>bldG pls z' r
    | none=>none
   | false=>none
  | none=>none
inductive CellsOf:List (Nat × Value)→List (Nat × List Value)→Prop
 | nil:CellsOf [] []
 | agg {i:Nat} {c:List Value} {r:List (Nat × Value)} {s:List (Nat × List Value)} (h:CellsOf r s):CellsOf ((i,.agg c.toArray)::r) ((i,c)::s)
 | one {i:Nat} {v:Value} {r:List (Nat × Value)} {s:List (Nat × List Value)} (h1:v.oneCell'=true) (h:CellsOf r s):CellsOf ((i,v)::r) ((i,[v])::s)
theorem Jph {v:Value} (h:v.oneCell'=true):v.cells = #[v]:=by cases v <;> simp_all [Value.cells,Value.oneCell']
theorem Jo5 (pls:List (Nat × Nat)):∀ {ps:List (Nat × Value)} {pcs:List (Nat × List Value)} {z cs:List Value},CellsOf ps pcs→bldG pls z pcs=some cs→Instr.fill (pls.toArray[·]?) z.toArray ps=some cs.toArray:=by
 have step:∀ {i:Nat} {v:Value} {c:List Value} {ps:List (Nat × Value)} {pcs:List (Nat × List Value)} {z cs:List Value},v.cells=c.toArray →
   (∀ {z cs:List Value},bldG pls z pcs=some cs→Instr.fill (pls.toArray[·]?) z.toArray ps=some cs.toArray)→bldG pls z ((i,c)::pcs)=some cs→Instr.fill (pls.toArray[·]?) z.toArray ((i,v)::ps)=some cs.toArray:=by
  intro i v c ps pcs z cs hv ih h
  unfold bldG at h
  split at h
  ·
   rename_i o n ho
   split at h
   ·
    rename_i hn
    have hn':c.length=n:=Nat.eq_of_beq_eq_true hn
    split at h
    ·
     rename_i z' hz
     obtain ⟨h1,h2⟩:=Jgl hz
     have h3:=ih h
     have ho':pls.toArray[i]? = some (o,n):=by simpa using ho
     simp only [Instr.fill,ho',hv]
     rw [if_neg (by simp [hn']; omega)]
     have h4:=Jkz c ((z.drop o).take c.length) (z.take o) (z.drop (o+c.length)) o 0 (by simp; omega) (by simp; omega)
     have h5:z.take o++((z.drop o).take c.length++z.drop (o+c.length))=z:=by
      rw [← List.drop_drop,List.take_append_drop,List.take_append_drop]
     rw [h5] at h4
     have h6:(c.toArray.zipIdx.foldl (fun (cs:Array Value) (x:Value × Nat)=>cs.setIfInBounds (o+x.2) x.1) z.toArray)=z'.toArray:=by
      rw [h2, ← h4]
      simp [← Array.foldl_toList]
     show Instr.fill _ (Array.foldl (fun cs (x:Value × Nat)=>cs.setIfInBounds (o+x.2) x.1) z.toArray c.toArray.zipIdx) ps=_
     rw [h6]
     exact h3
    simp at h
   simp at h
  simp at h
 intro ps pcs z cs hc
 induction hc generalizing z cs with
 | nil=>intro h; simp [bldG] at h; subst h; simp [Instr.fill]
 | agg hc ih=>exact fun h=>step rfl ih h
 | one h1 hc ih=>exact fun h=>step (by rw [Jph h1]) ih h
section
variable {P:Program} {ro:Option Nat} {n0:Nat} {w0:World} {ds:List Deferred} {ops:Array Oper} {Q:Exit→Act→World→Prop} {L:List SA}
 {rest:List Oper} {l:List Value} {d:Option Tmp} {ty:TypeId} {ps:String} {af:Array Edge} {g:Option (Nat × Bool)} {C:World→Prop}
theorem Jg9 {T:TypeId} {pl:List (Nat × Operand)} {pls:List (Nat × Nat)} {z cs:List Value} {parts:List (Nat × Value)} {pcs:List (Nat × List Value)} (hp:plc P T=some pls) (hz:zv P T=some z) (hv:evp l pl=some parts) (hc:CellsOf parts pcs)
  (hf:bldG pls z pcs=some cs):Det P C ⟨d,.build T pl.toArray,ty,ps,af,g⟩ l (.agg cs.toArray):=Jg7 hp hz hv (Jo5 pls hc hf)
end
structure GoodG (G:Game):Prop where
 ck:checkE G.rm=0
 nl:G.lks.l.length≤8
 nn:G.nts.l.length≤16
 lk:∀ j:Int,0≤j→j < G.lks.l.length→Jkf (nth G.lks.l j).w (nth G.lks.l j).s=true
 cl:G.cds.l.length=G.lks.l.length
 cd:∀ j:Int,0≤j→j < G.lks.l.length→Jz8 (nth G.lks.l j).w (nth G.lks.l j).s (nth G.cds.l j).l=0
 al:∀ j:Int,0≤j→j < G.rm.acs.l.length→(nth G.rm.acs.l j).lk < G.lks.l.length
 nt:∀ j:Int,0≤j→j < G.nts.l.length→ntG G j=true
 wh:∀ j:Int,0≤j→j < G.nts.l.length→Jgc G.rm.ths.l (nth G.nts.l j).wh.l=true
 tr:1≤G.tr∧G.tr≤100
theorem GoodG.ready {G:Game} (h:GoodG G):Ready G.rm:=Je0 h.ck
theorem GoodG.cond {G:Game} (h:GoodG G) {j:Int} (h0:0≤j) (h1:j < G.nts.l.length):Jen G.rm.ths.l.length (nth G.nts.l j).wh.l:=Je7 (h.wh j h0 h1)
theorem PosOk.nil (w:World):PosOk w ⟨⟨⟨.slice none 0 0,[]⟩,⟨.slice none 0 0,[]⟩,⟨.slice none 0 0,[]⟩⟩,⟨.slice none 0 0,[]⟩⟩:=⟨⟨SlT.nil _ _,SlT.nil _ _,SlT.nil _ _⟩,SlT.nil _ _⟩
structure ReadTo (G:GP) (x:P3) (rd:List Bool) (i:Int) (s:List Bool):Prop where
 len:s.length=rd.length
 lo:∀ j:Int,0≤j→j < i→nth s j=(nth rd j || Jns x (nth G.nts j))
 hi:∀ j:Int,i≤j→0≤j→nth s j=nth rd j
theorem ReadTo.zero {G:GP} {x:P3} {rd:List Bool}:ReadTo G x rd 0 rd:=⟨rfl,fun j a b=>by omega,fun j a b=>rfl⟩
theorem Jq8 {n:Nat} {i:Int} (h0:0≤i) (h1:i < n):nth (Jhx n) i=i:=by
 have h2:i.toNat < n:=by omega
 simp [Jhx,nth,List.getD,h2]; omega
theorem Jrf {α β:Type} [Inhabited α] [Inhabited β] (f:α→β) {l:List α} {i:Int} (h0:0≤i) (h1:i < l.length):nth (l.map f) i=f (nth l i):=by
 have h2:i.toNat < l.length:=by omega
 simp [nth,List.getD,h2]
theorem Jqx {G:GP} {x:P3} {rd:List Bool} {i:Int} (h0:0≤i) (h1:i < rd.length):nth (Joh G x rd) i=(nth rd i || Jns x (nth G.nts i)):=by
 unfold Joh
 have h2:i < ((Jhx rd.length).length:Int):=by simp [Jhx]; omega
 rw [Jrf _ h0 h2,Jq8 h0 h1]
theorem Jol {G:GP} {x:P3} {rd:List Bool}:(Joh G x rd).length=rd.length:=by simp [Joh,Jhx]
theorem ReadTo.done {G:GP} {x:P3} {rd s:List Bool} {i:Int} (h:ReadTo G x rd i s) (hi:rd.length≤i):s=Joh G x rd:=by
 refine Jru (by rw [h.len,Jol]) fun j h0 h1=>?_
 rw [h.len] at h1
 rw [h.lo j h0 (by omega),Jqx h0 h1]
theorem ReadTo.next {G:GP} {x:P3} {rd s s':List Bool} {i:Int} (h:ReadTo G x rd i s) (h0:0≤i) (h1:i < rd.length) (hs:s'=if Jns x (nth G.nts i)=true then s.set i.toNat true else s):ReadTo G x rd (i+1) s':=by
 subst hs
 have hl:=h.len
 by_cases hc:Jns x (nth G.nts i)=true
 ·
  rw [if_pos hc]
  refine ⟨by simp [hl],fun j a b=>?_,fun j a b=>?_⟩
  ·
   by_cases e:j=i
   ·
    subst e; rw [Jm8 h0 (by omega),hc]; simp
   rw [Jhb h0 a e]; exact h.lo j a (by omega)
  rw [Jhb h0 b (by omega)]; exact h.hi j (by omega) b
 rw [if_neg hc]
 refine ⟨hl,fun j a b=>?_,fun j a b=>h.hi j (by omega) b⟩
 by_cases e:j=i
 ·
  subst e; have hc':Jns x (nth G.nts j)=false:=by simpa using hc
  rw [h.hi j (Int.le_refl _) a,hc']; simp
 exact h.lo j a (by omega)
theorem GoodG.says {G:Game} (hV:GoodG G) {k:Int} (h0:0≤k) (h1:k < G.nts.l.length) (hl:0≤(nth G.nts.l k).lk) :
  Jgz (nth G.lks.l (nth G.nts.l k).lk).w (nth G.lks.l (nth G.nts.l k).lk).s (nth G.nts.l k).cl=true∧Jqf (nth G.nts.l k).cl (nth G.cds.l (nth G.nts.l k).lk).l=true:=by
 have h:=hV.nt k h0 h1
 unfold ntG at h
 simp only [Bool.and_eq_true,decide_eq_true_eq] at h
 obtain ⟨_,_,_,h3,h4⟩:=h
 rw [Jnp (by omega)] at h4
 simp only [Bool.and_eq_true,decide_eq_true_eq] at h4
 refine ⟨?_,h4.2⟩
 have h5:=h4.1
 unfold Juz at h5
 rw [if_pos (hV.lk _ hl (by omega))] at h5
 split at h5
 ·
  assumption
 cases h5
end Go.Proofs.YtkekjhcmephhjaaGreatDoor
namespace Go.Proofs.YtkekjhcmephhjaaGreatDoor
set_option linter.unusedVariables false
set_option linter.unusedSimpArgs false
open Go.RowKit Go.Proofs
theorem Ji9 {a b:List Pro} (h:a.map Pro.nm=b.map Pro.nm):∀ ws:Wds,Jbp a ws=Jbp b ws
 | []=>rfl
 | t::r=>by
  have hi:idxN Pro.nm a t=idxN Pro.nm b t:=by
   unfold idxN
   rw [Jfv Pro.nm (fun x=>seq (Pro.nm x) t) (fun y=>seq y t) (fun _=>rfl),Jfv Pro.nm (fun x=>seq (Pro.nm x) t) (fun y=>seq y t) (fun _=>rfl),h]
  rw [Jbp,Jbp,hi,Ji9 h r]
theorem Jrm {a b:List Pro} (h:a.map Pro.nm=b.map Pro.nm) (t:ByteArray) (ws:Wds):Jdq a t ws=Jdq b t ws:=by
 unfold Jdq
 rw [Ji9 h]
theorem Jsv {r q:Room} (h:r.e=q.e) (k:Int) (ws:Wds):Ja0 r k ws=Ja0 q k ws:=by
 have hA:=Jdr h
 have hl:∀ t w,Jdq r.prs.l t w=Jdq q.prs.l t w:=fun t w=>Jrm hA.nms t w
 unfold Ja0 Jcl Jhs Jfp wayW actW Jgo Jrs
 simp only [hA.pls,hA.ths,hl]
theorem Jfw {r q:Room} (h:r.e=q.e) (kd:Int) (t:ByteArray):Jbl r kd t=Jbl q kd t:=by
 unfold Jbl
 simp only [Jsv h]
theorem Jpo {r q:Room} (h:r.e=q.e) (x:Ln):(addL r x).e=(addL q x).e:=by
 have h1:r.pls.l.map id=q.pls.l.map id:=congrArg (fun z:Room=>z.pls.l) h
 have h2:r.ths.l.map id=q.ths.l.map id:=congrArg (fun z:Room=>z.ths.l) h
 have h3:r.prs.l.map Pro.e=q.prs.l.map Pro.e:=congrArg (fun z:Room=>z.prs.l) h
 have h4:r.wys.l.map Way.e=q.wys.l.map Way.e:=congrArg (fun z:Room=>z.wys.l) h
 have h5:r.acs.l.map Actn.e=q.acs.l.map Actn.e:=congrArg (fun z:Room=>z.acs.l) h
 have h6:r.aus.l.map Auto.e=q.aus.l.map Auto.e:=congrArg (fun z:Room=>z.aus.l) h
 have h7:r.ply=q.ply:=(congrArg Room.ply h:r.e.ply=q.e.ply)
 have h8:r.gl.l.map id=q.gl.l.map id:=congrArg (fun z:Room=>z.gl.l) h
 cases x <;> simp [addL,Room.e,Sl.e,nls,List.map_append,h1,h2,h3,h4,h5,h6,h7,h8] <;> simp_all
structure RdJ (n:Nat) (r:Room):Prop where
 pls:r.pls.l.length≤n
 ths:r.ths.l.length≤n
 prs:r.prs.l.length≤n
 wys:r.wys.l.length≤n
 acs:r.acs.l.length≤n
 aus:r.aus.l.length≤n
 nm:NmB r
theorem RdJ.en {n:Nat} {r q:Room} (h:r.e=q.e) (hj:RdJ n q):RdJ n r:=by
 have hA:=Jdr h
 have hn:=hA.nms
 have ha:=hA.anms
 refine ⟨by rw [hA.pls]; exact hj.pls,by rw [hA.ths]; exact hj.ths,by rw [hA.lprs]; exact hj.prs,by rw [hA.lwys]; exact hj.wys,by rw [hA.lacs]; exact hj.acs,by rw [hA.laus]; exact hj.aus,?_⟩
 refine ⟨by rw [hA.pls]; exact hj.nm.pl,by rw [hA.ths]; exact hj.nm.th,fun x hx=>?_,fun x hx=>?_⟩
 ·
  have:x.nm∈q.prs.l.map Pro.nm:=hn ▸ List.mem_map_of_mem hx
  obtain ⟨y,hy,e⟩:=List.mem_map.1 this
  rw [← e]; exact hj.nm.pr y hy
 have:x.nm∈q.acs.l.map Actn.nm:=ha ▸ List.mem_map_of_mem hx
 obtain ⟨y,hy,e⟩:=List.mem_map.1 this
 rw [← e]; exact hj.nm.ac y hy
def lnNm:Ln→Option ByteArray
 | .place nm=>some nm
 | .thing x=>some x.nm
 | .prop nm _ _=>some nm
 | .act nm _ _ _ _ _ _ _=>some nm
 | _=>none
theorem RdJ.add {n:Nat} {r:Room} (hj:RdJ n r) (x:Ln) (hx:∀ nm,lnNm x=some nm→nm.size≤70000):RdJ (n+1) (addL r x):=by
 obtain ⟨h1,h2,h3,h4,h5,h6,⟨n1,n2,n3,n4⟩⟩:=hj
 cases x with
 | place nm=>exact ⟨by simp [addL,nls]; omega,by simp [addL]; omega,by simp [addL]; omega,by simp [addL]; omega,by simp [addL]; omega,by simp [addL]; omega,⟨fun y hy=>by
   rcases List.mem_append.1 hy with hy | hy
   ·
    exact n1 y hy
   rw [List.mem_singleton] at hy; subst hy; exact hx _ rfl,n2,n3,n4⟩⟩
 | thing z=>exact ⟨by simp [addL]; omega,by simp [addL,nls]; omega,by simp [addL]; omega,by simp [addL]; omega,by simp [addL]; omega,by simp [addL]; omega,⟨n1,fun y hy=>by
   rcases List.mem_append.1 hy with hy | hy
   ·
    exact n2 y hy
   rw [List.mem_singleton] at hy; subst hy; exact hx _ rfl,n3,n4⟩⟩
 | prop nm pl wh=>exact ⟨by simp [addL]; omega,by simp [addL]; omega,by simp [addL,nls]; omega,by simp [addL]; omega,by simp [addL]; omega,by simp [addL]; omega,⟨n1,n2,fun y hy=>by
   rcases List.mem_append.1 hy with hy | hy
   ·
    exact n3 y hy
   rw [List.mem_singleton] at hy; subst hy; exact hx _ rfl,n4⟩⟩
 | way a b wh=>exact ⟨by simp [addL]; omega,by simp [addL]; omega,by simp [addL]; omega,by simp [addL,nls]; omega,by simp [addL]; omega,by simp [addL]; omega,⟨n1,n2,n3,n4⟩⟩
 | act nm pl lk us wh se sp br=>exact ⟨by simp [addL]; omega,by simp [addL]; omega,by simp [addL]; omega,by simp [addL]; omega,by simp [addL,nls]; omega,by simp [addL]; omega,⟨n1,n2,n3,fun y hy=>by
   rcases List.mem_append.1 hy with hy | hy
   ·
    exact n4 y hy
   rw [List.mem_singleton] at hy; subst hy; exact ⟨hx _ rfl,trivial⟩⟩⟩
 | auto a b wh=>exact ⟨by simp [addL]; omega,by simp [addL]; omega,by simp [addL]; omega,by simp [addL]; omega,by simp [addL]; omega,by simp [addL,nls]; omega,⟨n1,n2,n3,n4⟩⟩
 | players m=>exact ⟨by simp [addL]; omega,by simp [addL]; omega,by simp [addL]; omega,by simp [addL]; omega,by simp [addL]; omega,by simp [addL]; omega,⟨n1,n2,n3,n4⟩⟩
 | goal c=>exact ⟨by simp [addL]; omega,by simp [addL]; omega,by simp [addL]; omega,by simp [addL]; omega,by simp [addL]; omega,by simp [addL]; omega,⟨n1,n2,n3,n4⟩⟩
theorem RdJ.zero:RdJ 0 room0:=⟨Nat.le_refl _,Nat.le_refl _,Nat.le_refl _,Nat.le_refl _,Nat.le_refl _,Nat.le_refl _,⟨fun _ h=>(by cases h),fun _ h=>(by cases h),fun _ h=>(by cases h),fun _ h=>(by cases h)⟩⟩
theorem Jd9 {ws r:Wds} {t:ByteArray} (h:Jcy ws=some (t,r)):t∈ws:=by
 cases ws with
 | nil=>cases h
 | cons a l =>
  simp only [Jcy,Jbq,Option.bind_some] at h
  split at h
  ·
   cases h; exact List.mem_cons_self
  cases h
theorem Jr1 {r:Room} {k:Int} {ws ws':Wds} {x:Ln} (h:Ja0 r k ws=some (x,ws')) (nm:ByteArray) (hx:lnNm x=some nm):nm∈ws:=by
 unfold Ja0 at h
 split at h
 ·
  obtain ⟨⟨a,b⟩,h1,h2⟩:=Option.map_eq_some_iff.1 h; cases h2; cases hx; exact Jd9 h1
 split at h
 ·
  simp only [Jcl,Option.bind_eq_some_iff,Option.map_eq_some_iff] at h
  obtain ⟨a,h1,_,_,_,_,_,_,_,_,_,_,_,_,h2⟩:=h
  cases h2; cases hx; exact Jd9 h1
 split at h
 ·
  simp only [Jhs,Option.bind_eq_some_iff,Option.map_eq_some_iff] at h
  obtain ⟨a,h1,_,_,_,_,h2⟩:=h
  cases h2; cases hx; exact Jd9 h1
 split at h
 ·
  simp only [wayW,Option.bind_eq_some_iff,Option.map_eq_some_iff] at h
  obtain ⟨_,_,_,_,_,_,h2⟩:=h
  cases h2; cases hx
 split at h
 ·
  simp only [actW,Option.bind_eq_some_iff,Option.map_eq_some_iff] at h
  obtain ⟨a,h1,_,_,_,_,_,_,_,_,_,_,_,_,_,_,_,_,h2⟩:=h
  cases h2; cases hx; exact Jd9 h1
 split at h
 ·
  simp only [Jgo,Option.bind_eq_some_iff] at h
  obtain ⟨_,_,_,_,h2⟩:=h
  split at h2
  ·
   cases h2
  obtain ⟨_,_,h3⟩:=Option.map_eq_some_iff.1 h2
  cases h3; cases hx
 split at h
 ·
  obtain ⟨_,_,h2⟩:=Option.map_eq_some_iff.1 h; cases h2; cases hx
 obtain ⟨_,_,h2⟩:=Option.map_eq_some_iff.1 h; cases h2; cases hx
theorem Jmi {r:Room} {kd k:Int} {t:ByteArray} {x:Ln} (h:Jbl r kd t=some (k,x)) (nm:ByteArray) (hx:lnNm x=some nm):nm.size≤t.size:=by
 unfold Jbl at h
 obtain ⟨⟨a,ws⟩,h1,h2⟩:=Option.bind_eq_some_iff.1 h
 simp only at h2
 split at h2
 ·
  obtain ⟨⟨y,z⟩,h3,h4⟩:=Option.bind_eq_some_iff.1 h2
  split at h4
  ·
   cases h4
   have hm:=Jr1 h3 nm hx
   cases hs:Jaf 32 t with
   | nil=>rw [hs] at h1; cases h1
   | cons b l =>
    rw [hs] at h1; cases h1
    exact Jdc (c:=32) (by rw [hs]; exact List.mem_cons_of_mem _ hm)
  cases h4
 cases h2
theorem Jhw {r:Room} {kd k:Int} {t:ByteArray} {x:Ln} (h:Jbl r kd t=some (k,x)):kd≤k∧k≤7:=by
 unfold Jbl at h
 obtain ⟨⟨a,ws⟩,h1,h2⟩:=Option.bind_eq_some_iff.1 h
 simp only at h2
 split at h2
 ·
  rename_i hm
  obtain ⟨⟨y,z⟩,h3,h4⟩:=Option.bind_eq_some_iff.1 h2
  split at h4
  ·
   cases h4
   have h8:Jdp a < 8:=by
    unfold Jdp idxN idxF
    split
    ·
     rename_i i hi
     rw [List.findIdx?_eq_some_iff_getElem] at hi
     obtain ⟨h5,_⟩:=hi
     have:kindsL.length=8:=rfl
     omega
    decide
   simp only [mayK,Bool.and_eq_true,decide_eq_true_eq] at hm
   omega
  cases h4
 cases h2
def finP (r:Room) (kd i:Int):Room × Int × Int:=if kd < 7 then (room0,i+1,4) else if checkE r≠0 then (room0,0,checkE r) else (r,0,0)
def Jc7:Room→Int→Int→List ByteArray→Room × Int × Int
 | r,kd,i,[]=>finP r kd i
 | r,kd,i,t::ts=>match ts with
  | []=>if seq t ⟨#[]⟩ then finP r kd i else (room0,i+1,4)
  | _=>match Jbl r kd t with
   | some (k,x)=>Jc7 (addL r x) k (i+1) ts
   | none=>(room0,i+1,4)
def Jgg (t:ByteArray):Room × Int × Int:=Jc7 room0 0 0 (Jaf 10 t)
theorem Jd5 {r:Room} {kd i:Int} {t:ByteArray}:Jc7 r kd i [t]=if seq t ⟨#[]⟩ then finP r kd i else (room0,i+1,4):=by unfold Jc7; rfl
theorem Ji4 {r:Room} {kd i k:Int} {t:ByteArray} {ts:List ByteArray} {x:Ln} (h0:0 < ts.length) (h:Jbl r kd t=some (k,x)):Jc7 r kd i (t::ts)=Jc7 (addL r x) k (i+1) ts:=by
 cases ts with
 | nil=>simp at h0
 | cons a b=>rw [Jc7] <;> simp [h]
theorem Jjh {r:Room} {kd i:Int} {t:ByteArray} {ts:List ByteArray} (h0:0 < ts.length) (h:Jbl r kd t=none):Jc7 r kd i (t::ts)=(room0,i+1,4):=by
 cases ts with
 | nil=>simp at h0
 | cons a b=>rw [Jc7] <;> simp [h]
theorem Jt2 {s:List UInt8} {c:UInt8}:((Lib.cut s [c]).2.2=true∧c ∉ (Lib.cut s [c]).1∧s=(Lib.cut s [c]).1++c::(Lib.cut s [c]).2.1)∨((Lib.cut s [c]).2.2=false∧c ∉ s):=by
 unfold Lib.cut
 rw [Lib.index_one]
 by_cases h:(0:Int)≤Lib.indexByte s c
 ·
  left
  rw [if_pos h]
  obtain ⟨o,ho⟩:∃ o:Nat,Lib.indexByte s c=o:=⟨(Lib.indexByte s c).toNat,by omega⟩
  obtain ⟨h1,h2⟩:=Lib.indexByte_some ho
  rw [ho]
  simp only [Int.toNat_natCast,List.length_singleton]
  refine ⟨trivial,fun hm=>?_,?_⟩
  ·
   obtain ⟨k,hk,e⟩:=List.mem_iff_getElem.1 hm
   rw [List.getElem_take] at e
   have hk2:k < o:=by simp at hk; omega
   exact h2 k hk2 (by rw [← e]; exact List.getElem?_eq_getElem _)
  have hlt:=(List.getElem?_eq_some_iff.1 h1).1
  have e:s[o]=c:=(List.getElem?_eq_some_iff.1 h1).2
  conv=>lhs; rw [← List.take_append_drop o s,List.drop_eq_getElem_cons hlt,e]
 right
 rw [if_neg h]
 refine ⟨rfl,fun hm=>?_⟩
 obtain ⟨k,hk,e⟩:=List.mem_iff_getElem.1 hm
 have h1:Lib.indexByte s c = -1:=by have:=Lib.indexByte_ge s c; omega
 exact Lib.indexByte_none h1 k (by rw [← e]; exact List.getElem?_eq_getElem _)
theorem Jdl {t:ByteArray} {c:UInt8} (h:(Lib.cut (bl t) [c]).2.2=true):Jaf c t=ba (Lib.cut (bl t) [c]).1::Jaf c (ba (Lib.cut (bl t) [c]).2.1)∧(ba (Lib.cut (bl t) [c]).1).size≤t.size∧(ba (Lib.cut (bl t) [c]).2.1).size < t.size:=by
 rcases Jt2 (s:=bl t) (c:=c) with ⟨_,h2,h3⟩ | ⟨h1,_⟩
 ·
  have hl:(bl t).length=(Lib.cut (bl t) [c]).1.length+((Lib.cut (bl t) [c]).2.1.length+1):=by
   conv=>lhs; rw [h3]
   simp
  rw [Jbw] at hl
  refine ⟨?_,by show (Lib.cut (bl t) [c]).1.toArray.size≤_; simp; omega,by show (Lib.cut (bl t) [c]).2.1.toArray.size < _; simp; omega⟩
  unfold Jaf
  conv=>lhs; rw [h3,Je3 h2]
  rfl
 rw [h1] at h; cases h
theorem Jij {t:ByteArray} {c:UInt8} (h:(Lib.cut (bl t) [c]).2.2=false):Jaf c t=[t]:=by
 rcases Jt2 (s:=bl t) (c:=c) with ⟨h1,_⟩ | ⟨_,h1⟩
 ·
  rw [h1] at h; cases h
 unfold Jaf; rw [Jdx h1]; rfl
theorem Jm1 (c:UInt8):Jaf c ⟨#[]⟩=[⟨#[]⟩]:=rfl
structure Rel {γ:Type} (b:Bool) (spec:Option (γ × Wds)) (v:γ) (ws:Wds) (b':Bool):Prop where
 bt:b=true→b'=true
 ok:b=false→b'=false→spec=some (v,ws)
 no:b=false→b'=true→spec=none
theorem Rel.same {γ:Type} {b:Bool} {spec:Option (γ × Wds)} {v:γ} {ws:Wds} (h:spec=some (v,ws)):Rel b spec v ws b:=⟨fun h=>h,fun _ _=>h,fun h1 h2=>by rw [h1] at h2; cases h2⟩
theorem Rel.bad {γ:Type} {b:Bool} {spec:Option (γ × Wds)} {v:γ} {ws:Wds} (h:b=false→spec=none):Rel b spec v ws true:=⟨fun _=>rfl,fun _ h2=>Bool.noConfusion h2,fun h1 _=>h h1⟩
theorem Rel.bind {γ δ:Type} {b b1 b2:Bool} {s1:Option (γ × Wds)} {v1:γ} {w1 w2:Wds} {f:γ × Wds→Option (δ × Wds)} {v2:δ} (h1:Rel b s1 v1 w1 b1) (h2:Rel b1 (f (v1,w1)) v2 w2 b2):Rel b (s1.bind f) v2 w2 b2:=by
 refine ⟨fun h=>h2.bt (h1.bt h),fun h h'=>?_,fun h h'=>?_⟩
 ·
  cases hb:b1 with
  | true=>have:=h2.bt hb; rw [h'] at this; cases this
  | false=>rw [h1.ok h hb]; exact h2.ok hb h'
 cases hb:b1 with
 | true=>rw [h1.no h hb]; rfl
 | false=>rw [h1.ok h hb]; exact h2.no hb h'
theorem Rel.map {γ δ:Type} {b b1:Bool} {s1:Option (γ × Wds)} {v1:γ} {w1:Wds} (f:γ→δ) (h1:Rel b s1 v1 w1 b1):Rel b (s1.map fun x=>(f x.1,x.2)) (f v1) w1 b1:=by
 refine ⟨h1.bt,fun h h'=>?_,fun h h'=>?_⟩
 ·
  rw [h1.ok h h']; rfl
 rw [h1.no h h']; rfl
theorem Rel.eq {γ:Type} {b b':Bool} {s s':Option (γ × Wds)} {v:γ} {w:Wds} (h:Rel b s v w b') (e:s'=s):Rel b s' v w b':=e ▸ h
theorem Rel.ask {γ:Type} {b b1:Bool} {s1:Option (γ × Wds)} {v1:γ} {w1:Wds} {p:γ × Wds→Prop} [DecidablePred p] (h1:Rel b s1 v1 w1 b1) (hp:p (v1,w1)):Rel b (s1.bind fun x=>if p x then some x else none) v1 w1 b1 :=
 h1.bind (Rel.same (by rw [if_pos hp]))
theorem Rel.fail {γ:Type} {b b1:Bool} {s1:Option (γ × Wds)} {v1 v2:γ} {w1 w2:Wds} {p:γ × Wds→Prop} [DecidablePred p] (h1:Rel b s1 v1 w1 b1) (hp:¬ p (v1,w1)):Rel b (s1.bind fun x=>if p x then some x else none) v2 w2 true :=
 h1.bind (Rel.bad fun _=>if_neg hp)
def litW (ths:List Thing) (nt:Bool) (ws:Wds):Option (Lit × Wds):=(Jbq ws).bind fun x=>(litT ths x.1).bind fun a=>if a.nt && !nt then none else some (a,x.2)
def Jhy (bad:Bool) (ws:Wds):Bool := !bad && (decide ((0:Int) < ws.length) && !resB (nth ws 0))
def Jix (t:ByteArray) (ws:Wds):Option (Unit × Wds):=(Jfs t ws).map fun w=>((),w)
structure LoopI {α:Type} (b1:Bool) (F:Wds→Option (List α × Wds)) (w1:Wds) (acc:List α) (ws:Wds) (bad:Bool):Prop where
 bt:b1=true→bad=true
 ok:b1=false→bad=false→F w1=(F ws).map fun x=>(acc++x.1,x.2)
 no:b1=false→bad=true→F w1=none
 sf:ws <:+ w1
 ln:bad=false→acc.length+ws.length=w1.length
 lm:acc.length≤w1.length
theorem LoopI.start {α:Type} (b1:Bool) (F:Wds→Option (List α × Wds)) (w1:Wds):LoopI b1 F w1 [] w1 b1 :=
 ⟨fun h=>h,fun _ _=>by cases F w1 <;> simp,fun h1 h2=>Bool.noConfusion (h1.symm.trans h2),List.suffix_refl _,fun _=>by simp,by simp⟩
theorem LoopI.step {α:Type} {b1 bad b2:Bool} {F:Wds→Option (List α × Wds)} {w1 ws w2:Wds} {acc:List α} {a:α} (h:LoopI b1 F w1 acc ws bad) (hbad:bad=false) (hpos:0 < ws.length) (sf2:w2 <:+ ws)
  (hok:b2=false→F ws=((F w2).map fun x=>(a::x.1,x.2))∧ws.length=w2.length+1) (hno:b2=true→F ws=none):LoopI b1 F w1 (acc++[a]) w2 b2:=by
 have hb1:b1=false:=by
  cases h1:b1 with
  | false=>rfl
  | true=>rw [h.bt h1] at hbad; cases hbad
 have hl:=h.ln hbad
 refine ⟨fun h1=>Bool.noConfusion (hb1.symm.trans h1),fun _ h2=>?_,fun _ h2=>?_,sf2.trans h.sf,fun h2=>?_,?_⟩
 ·
  rw [h.ok hb1 hbad,(hok h2).1]; cases F w2 <;> simp
 ·
  rw [h.ok hb1 hbad,hno h2]; rfl
 ·
  have:=(hok h2).2; simp; omega
 simp; omega
theorem LoopI.fin {α:Type} {b1 bad:Bool} {F:Wds→Option (List α × Wds)} {w1 ws:Wds} {acc:List α} (h:LoopI b1 F w1 acc ws bad) (hs:bad=false→F ws=some ([],ws)):Rel b1 (F w1) acc ws bad :=
 ⟨h.bt,fun h1 h2=>by rw [h.ok h1 h2,hs h2]; simp,h.no⟩
theorem Jcn {γ:Type} {b b1:Bool} {v v0:γ} {w w0:Wds} (h:Rel b (some (v0,w0)) v w b1) (hb:b=false):b1=false∧v0=v∧w0=w:=by
 cases h1:b1 with
 | true=>cases h.no hb h1
 | false=>have:=h.ok hb h1; simp only [Option.some.injEq,Prod.mk.injEq] at this; exact ⟨rfl,this.1,this.2⟩
def Jdt {α:Type} (F:Wds→Option (List α × Wds)) (t:ByteArray) (ws:Wds):Option (List α × Wds):=if isW t ws then (F ws.tail).bind fun x=>if x.1=[] then none else some x else some ([],ws)
theorem Jgn {α:Type} {F:Wds→Option (List α × Wds)} {b b1:Bool} {t:ByteArray} {ws w1:Wds} (h:Rel b (some (isW t ws,if isW t ws then ws.tail else ws)) false w1 b1):Rel b (Jdt F t ws) [] w1 b1:=by
 refine ⟨h.bt,fun h1 h2=>?_,fun h1 h2=>?_⟩
 ·
  obtain ⟨_,h3,h4⟩:=Jcn h h1
  rw [Jdt,if_neg (by rw [h3]; decide)]
  rw [if_neg (by rw [h3]; decide)] at h4
  rw [h4]
 rw [(Jcn h h1).1] at h2; cases h2
theorem Jig {α:Type} {F:Wds→Option (List α × Wds)} {b b1 b2:Bool} {t:ByteArray} {ws w1 w2:Wds} {c:List α} (h:Rel b (some (isW t ws,if isW t ws then ws.tail else ws)) true w1 b1) (h2:Rel b1 (F w1) c w2 b2) (hc:c≠[]):Rel b (Jdt F t ws) c w2 b2:=by
 refine ⟨fun h1=>h2.bt (h.bt h1),fun h1 h3=>?_,fun h1 h3=>?_⟩
 ·
  obtain ⟨h4,h5,h6⟩:=Jcn h h1
  rw [if_pos h5] at h6
  rw [Jdt,if_pos h5,h6,h2.ok h4 h3]
  exact if_neg hc
 obtain ⟨h4,h5,h6⟩:=Jcn h h1
 rw [if_pos h5] at h6
 rw [Jdt,if_pos h5,h6,h2.no h4 h3]; rfl
theorem Jh7 {α:Type} {F:Wds→Option (List α × Wds)} {b b1 b2:Bool} {t:ByteArray} {ws w1 w2:Wds} {c:List α} (h:Rel b (some (isW t ws,if isW t ws then ws.tail else ws)) true w1 b1) (h2:Rel b1 (F w1) c w2 b2) (hc:c=[]):Rel b (Jdt F t ws) c w2 true:=by
 refine Rel.bad fun h1=>?_
 obtain ⟨h4,h5,h6⟩:=Jcn h h1
 rw [if_pos h5] at h6
 rw [Jdt,if_pos h5,h6]
 cases hb:b2 with
 | false=>rw [h2.ok h4 hb]; exact if_pos hc
 | true=>rw [h2.no h4 hb]; rfl
theorem Jc4 {bad:Bool} {ws:Wds} (h:Jhy bad ws=true):bad=false∧0 < ws.length∧resB (nth ws 0)=false:=by
 simp only [Jhy,Bool.and_eq_true,Bool.not_eq_true',decide_eq_true_eq] at h
 exact ⟨h.1,by omega,h.2.2⟩
theorem Jh6 {bad:Bool} {ws:Wds} (h:Jhy bad ws=false) (hb:bad=false):(0:Int) < ws.length→resB (nth ws 0)=true:=fun h0=>by
 cases hr:resB (nth ws 0) with
 | true=>rfl
 | false =>
  rw [Jhy,hb,hr,show decide ((0:Int) < ws.length)=true from decide_eq_true h0] at h
  cases h
theorem Jri {α:Type} {F:Wds→Option (List α × Wds)} {b b1 b2:Bool} {t:ByteArray} {ws w1 w2:Wds} {c:List α} (h:Rel b (some (isW t ws,if isW t ws then ws.tail else ws)) true w1 b1) (h2:Rel b1 (F w1) c w2 b2):Rel b (Jdt F t ws) c w2 (b2 || decide ((c.length:Int)=0)):=by
 cases c with
 | nil =>
  have:(b2 || decide ((([]:List α).length:Int)=0))=true:=by simp
  rw [this]; exact Jh7 h h2 rfl
 | cons a c =>
  have:(b2 || decide (((a::c).length:Int)=0))=b2:=by
   rw [show decide (((a::c).length:Int)=0)=false from decide_eq_false (by simp only [List.length_cons]; omega)]; simp
  rw [this]; exact Jig h h2 (by simp)
def Jfr (ths:List Thing) (ws:Wds):Option (List Put × Wds):=(Jbv ths ws).bind fun x=>(Jc8 x.1).map fun p=>(p,x.2)
theorem Jpd (ths:List Thing) (ws:Wds):Jg1 ths ws=Jdt (Jfr ths) ⟨#[115,101,116,115]⟩ ws:=by
 unfold Jg1 Jdt Jfr
 split
 ·
  cases Jbv ths ws.tail with
  | none=>rfl
  | some x =>
   simp only [Option.bind_some]
   cases Jc8 x.1 <;> rfl
 rfl
theorem Rel.line {γ:Type} {b':Bool} {s:Option (γ × Wds)} {v:γ} {w:Wds} (h:Rel false s v w b'):(b'=false→s=some (v,w))∧(b'=true→s=none):=⟨fun h1=>h.ok rfl h1,fun h1=>h.no rfl h1⟩
theorem Rel.bindM {δ:Type} {b b1 b2:Bool} {t:ByteArray} {ws w1 w2:Wds} {f:Wds→Option (δ × Wds)} {v2:δ} (h1:Rel b (Jix t ws) () w1 b1) (h2:Rel b1 (f w1) v2 w2 b2):Rel b ((Jfs t ws).bind f) v2 w2 b2:=by
 have e:(Jfs t ws).bind f=(Jix t ws).bind fun x=>f x.2:=by unfold Jix; cases Jfs t ws <;> rfl
 rw [e]
 exact h1.bind h2
theorem Jwu {δ:Type} {b b1 b2:Bool} {t:ByteArray} {ws w1 w2:Wds} {f:Wds→Option (δ × Wds)} {y:Option (δ × Wds)} {v:δ} (h:Rel b (some (isW t ws,if isW t ws then ws.tail else ws)) true w1 b1) (h2:Rel b1 (f w1) v w2 b2):Rel b (if isW t ws then f ws.tail else y) v w2 b2:=by
 refine ⟨fun h1=>h2.bt (h.bt h1),fun h1 h3=>?_,fun h1 h3=>?_⟩
 ·
  obtain ⟨h4,h5,h6⟩:=Jcn h h1
  rw [if_pos h5] at h6
  rw [if_pos h5,h6]; exact h2.ok h4 h3
 obtain ⟨h4,h5,h6⟩:=Jcn h h1
 rw [if_pos h5] at h6
 rw [if_pos h5,h6]; exact h2.no h4 h3
theorem Jwq {δ:Type} {b b1 b2:Bool} {t:ByteArray} {ws w1 w2:Wds} {f:Wds→Option (δ × Wds)} {y:Option (δ × Wds)} {v:δ} (h:Rel b (some (isW t ws,if isW t ws then ws.tail else ws)) false w1 b1) (h2:Rel b1 (f w1) v w2 b2):Rel b (if isW t ws then y else f ws) v w2 b2:=by
 have hn:b=false→b1=false∧isW t ws=false∧ws=w1:=fun h1=>by
  obtain ⟨h4,h5,h6⟩:=Jcn h h1
  rw [if_neg (by rw [h5]; decide)] at h6
  exact ⟨h4,h5,h6⟩
 refine ⟨fun h1=>h2.bt (h.bt h1),fun h1 h3=>?_,fun h1 h3=>?_⟩
 ·
  obtain ⟨h4,h5,h6⟩:=hn h1
  rw [if_neg (by rw [h5]; decide),h6]; exact h2.ok h4 h3
 obtain ⟨h4,h5,h6⟩:=hn h1
 rw [if_neg (by rw [h5]; decide),h6]; exact h2.no h4 h3
theorem Jvd (r:Room) (ws:Wds):Jgo r ws=(litW r.ths.l false ws).bind fun x=>(Jfb r.ths.l x.2).map fun c=>(.auto x.1.t x.1.s c.1,c.2):=by
 unfold Jgo litW
 cases Jbq ws with
 | none=>rfl
 | some x =>
  simp only [Option.bind_some]
  cases litT r.ths.l x.1 with
  | none=>rfl
  | some a =>
   simp only [Option.bind_some]
   cases a.nt <;> rfl
end Go.Proofs.YtkekjhcmephhjaaGreatDoor
namespace Go.Proofs.YtkekjhcmephhjaaGreatDoor
set_option linter.unusedVariables false
set_option linter.unusedSimpArgs false
open Go.RowKit
def nil0 {α:Type}:Sl α:=⟨.slice none 0 0,[]⟩
def of0 {α:Type} (l:List α):Sl α:=⟨.slice none 0 0,l⟩
def Jo6:ByteArray:=⟨#[104,97,108,108]⟩
def Jiq:ByteArray:=⟨#[118,97,117,108,116]⟩
def tBox:ByteArray:=⟨#[98,111,120]⟩
def Jpj:ByteArray:=⟨#[100,111,111,114]⟩
def tKey:ByteArray:=⟨#[107,101,121]⟩
def Jjz:ByteArray:=⟨#[111,112,101,110]⟩
def Jj5:ByteArray:=⟨#[116,117,114,110]⟩
def exR:Room:=⟨of0 [Jo6,Jiq],of0 [⟨tBox,0,2,0⟩,⟨Jpj,0,2,0⟩],of0 [⟨tKey,0,of0 [⟨0,1,false⟩]⟩],of0 [⟨0,1,of0 [⟨1,1,false⟩]⟩],
 of0 [⟨Jjz,0,0,nil0,nil0,of0 [⟨0,1⟩],nil0,nil0⟩,⟨Jj5,0, -1,of0 [0],nil0,of0 [⟨1,1⟩],of0 [0],nil0⟩],nil0,1,nil0⟩
theorem Jl3 (a b:ByteArray):seq a b=(a.data.toList == b.data.toList):=by
 unfold seq
 rw [ByteArray.toList_eq,ByteArray.toList_eq]
theorem Jyh:Near exR:=by
 refine ⟨by decide,by decide,by decide,by decide,by decide,by decide,by decide,?_,?_,?_,?_,?_,?_⟩ <;> decide
theorem Jv1:Jbe Jo6=true∧Jbe Jiq=true∧Jbe tBox=true∧Jbe Jpj=true∧Jbe tKey=true∧Jbe Jjz=true∧Jbe Jj5=true:=by
 simp only [Jbe,Jas,wordL,List.any_cons,List.any_nil,Jl3]
 decide
theorem Jj4:checkE exR=0:=by
 obtain ⟨h1,h2,h3,h4,h5,h6,h7⟩:=Jv1
 simp only [Jo6,Jiq,tBox,Jpj,tKey,Jjz,Jj5] at h1 h2 h3 h4 h5 h6 h7
 simp only [checkE,Jez,Jgi,Jec,Jep,Jd7,Jea,exR,of0,nil0,List.length_cons,List.length_nil,Jbi,plO,thO,prO,wyO,acO,auO,actB,act2,newB]
 simp [manyB,nth,h1,h2,h3,h4,h5,h6,h7,Jl3,Jo6,Jiq,tBox,Jpj,tKey,Jjz,Jj5,thB,placeB,whO,Jgc,putB,glO,or0,act3,act4,act5,ascB,allI,IntKind.wrap,IntKind.bits,IntKind.signed]
theorem Jur:BeginV exR=(0,([0,0],[0],[0])):=by
 unfold BeginV SettleV stL
 rw [Jj4]
 decide
theorem Jw8:StepV exR ([0,0],[0],[0]) ⟨0,4,0⟩=(0,([1,0],[0],[0])):=by
 unfold StepV stL
 rw [Jj4]
 decide
theorem Juv:LegalV exR ([1,0],[0],[0])=(0,[⟨0,2,0⟩,⟨0,4,0⟩]):=by
 unfold LegalV stL
 rw [Jj4]
 decide
end Go.Proofs.YtkekjhcmephhjaaGreatDoor
namespace Go.Proofs.YtkekjhcmephhjaaGreatDoor
set_option linter.unusedVariables false
set_option linter.unusedSimpArgs false
open Go.ChangeShapes Go.WideShapes Go.ChangeAt Go.RowKit Go.Deep Go.Joins
section
variable {H:Type} {enc:TypeId × Value→H} {P:Program} {w:World} {base:Nat}
theorem Jem (hl:laidOutB P=true) {W W':World} {sp:Nat→Bool}:∀ {ts:List TypeId} {vs:List Value} {ds:List (DataW H)} {ps:List MemPlace},(∀ t∈ts,P.readableRec t=true∧t < P.types.size) →
  DataW.TrodAll enc P W base (fun _=>true) true ts vs ds ps→(∀ p∈ps,W.sameAt W' p)→(∀ p∈ps,sp p.block=true)→DataW.TrodAll enc P W' base sp true ts vs ds ps
 | [],[],[],ps,_,h,_,_=>h
 | t::ts,v::vs,d::ds,ps,hr,⟨p,q,h1,h2,e⟩,hs,hsp=>by
  subst e
  exact ⟨p,q,WideElems.Trod_stays hl (hr t (by simp)).1 (hr t (by simp)).2 h1 (fun x hx=>hs x (by simp [hx])) (fun x hx=>hsp x (by simp [hx])),
   Jem hl (fun t ht=>hr t (by simp [ht])) h2 (fun x hx=>hs x (by simp [hx])) (fun x hx=>hsp x (by simp [hx])),rfl⟩
 | [],[],_::_,_,_,h,_,_=>h.elim
 | [],_::_,_,_,_,h,_,_=>h.elim
 | _::_,[],_,_,_,h,_,_=>h.elim
 | _::_,_::_,[],_,_,h,_,_=>h.elim
theorem Jq4 {f:Func} {s:ChangeSpec} {apart fresh handsOn again:Bool} {W W':World} {args:Array Value} {ds:List (DataW H)} {gs:List (DataW H)} {before:List MemPlace} {tb:TypeId}
  (hl:laidOutB P=true) (hr0:(f.params.toList.all fun t=>P.readableRec t && decide (t < P.types.size))=true) (hrt:f.resultTypes = #[tb]) (htb:P.underlying tb=some .bool)
  (hW:DataW.Whole enc P f.params.toList s.vars apart W args.toList ds gs before) (hv:s.vars=[]) (hb:Below W.heap.size W W')
  (hres:(s.fn H (ds++gs)).results=[.lit (.bool true)]) (hargs:(s.fn H (ds++gs)).args=ds) (hvars:(s.fn H (ds++gs)).vars=[]):s.post enc P f apart fresh handsOn again W args (.bool true) W':=by
 have hr:∀ t∈f.params.toList,P.readableRec t=true∧t < P.types.size:=fun t ht=>by
  have:=List.all_eq_true.1 hr0 t ht
  simpa using this
 have hlt:∀ p∈before,p.block < W.heap.size:=fun p hp=>hW.lt p hp
 have hW0:=hW
 obtain ⟨p,q,hA,hV,rfl,hfz,hnd⟩:=hW
 rw [hv] at hV
 obtain ⟨rfl,rfl⟩:=trodVars_none hV
 have hone:∀ (b:Nat) (sp:Nat→Bool) (hd:Bool),DataW.TrodAll enc P W' b sp hd [tb] [.bool true] [.lit (.bool true)] []:=fun b sp hd =>
  trodAll_mk1 ⟨1,by simp [DataW.trod,Value.cells,htb]⟩
 have hall:∀ sp:Nat→Bool,(∀ x∈p,sp x.block=true)→DataW.TrodAll enc P W' 0 sp true f.params.toList args.toList ds p:=fun sp hsp =>
  Jem hl hr hA (fun x hx=>hb.same (hlt x (by simp [hx]))) hsp
 refine ⟨ds,[],p++[],[],p,[],hW0,?_,?_,?_,hb.frame _,fun _=>⟨?_,.lit (.bool true)::ds,[],[]++p++[],?_,?_⟩⟩
 ·
  rw [hres,hrt]; exact hone _ _ _
 ·
  rw [hargs]; exact hall _ (fun x hx=>by simpa using hlt x (by simp [hx]))
 ·
  rw [hvars,hv]; rfl
 ·
  rw [hrt]
  intro j t r h1 h2
  have hj:j=0:=by
   have:=(Array.getElem?_eq_some_iff.1 h1).1
   simpa using this
  subst hj
  simp at h1
  simp [Value.resultList] at h2
  subst h1; subst h2
  simp [Value.okWide,htb,Cell.okWide,Cell.ok]
 ·
  rw [hrt,hv]
  refine ⟨[]++p,[],trodAll_append (hall _ (fun _ _=>rfl)) (hone _ _ _),rfl,rfl,?_,?_⟩
  ·
   intro b off hx
   rw [hb.frozen (p:=⟨b,off,none⟩) (hlt (.cell b off) (by simpa using hx))]
   exact hfz b off (by simpa using hx)
  intro ha
  have:=hnd ha
  simpa using this
 intro x hx _
 simpa using hx
end
section
variable {H:Type} {enc:TypeId × Value→H} {P:Program} {w:World} {base:Nat} {held:Bool}
def Rd (enc:TypeId × Value→H) (P:Program) (w:World) (base:Nat) (held:Bool) (t:TypeId) {α:Type} (C:Cel α):Prop :=
 ∀ (fuel:Nat) (cs:List Value) (x:DataW H × List MemPlace),DataW.trod enc P w base (fun _=>true) held fuel t cs=some x→∃ a,cs=C.cells a∧C.ok w a
theorem Jtx {t:TypeId} (ht:P.underlying t=some .string):Rd enc P w base held t cStr:=fun _ _ _ h=>let ⟨n,e,_⟩:=DataW.trod_string ht h; ⟨n,e,trivial⟩
theorem Jlo {α:Type} [Inhabited α] {C:Cel α} {t s:TypeId} (ht:P.underlying t=some (.slice s)) (hC:P.cellsOf s=C.k) (h0:0 < C.k) (hr:Rd enc P w base held s C):Rd enc P w base held t (cSl C):=by
 intro fuel cs x h
 rcases open_slice ht h with ⟨h1,_⟩ | ⟨a,len,cap,m,n,D,Pl,h1,_,hl,hm,hmm,_,hcell⟩
 ·
  subst h1
  exact ⟨⟨.slice none 0 0,[]⟩,rfl,SlT.nil C w⟩
 subst h1
 simp at hmm
 have hm':cap≤9223372036854775807:=hm
 rw [hC] at hcell
 obtain ⟨f,hf⟩:=choose_lt (α:=α) (n:=len) (p:=fun i c=>w.cells? base (a.add (i * C.k)) C.k=some (C.cells c)∧C.ok w c) (fun i hi=>by
  obtain ⟨cs',k1,k2⟩:=hcell i (by omega)
  obtain ⟨c,rfl,k3⟩:=hr _ _ _ k2
  exact ⟨c,k1,k3⟩)
 have hlen:((List.range len).map f).length=len:=by simp
 refine ⟨⟨.slice (some a) len cap,(List.range len).map f⟩,rfl,⟨⟨?_,some a,cap,by simp,⟨by simpa using hl,hm'⟩,?_⟩,?_⟩⟩
 ·
  rw [Jbu]
 ·
  rcases Nat.eq_zero_or_pos len with hz | hz
  ·
   left; simpa using hz
  right
  obtain ⟨b,o,s'⟩:=a
  have hs:s'=none:=by
   have:=(World.cells?_some (hf 0 hz).1).2.2 0 h0
   rw [List.getElem?_eq_getElem (by rw [C.len]; exact h0)] at this
   simpa [Addr.add] using World.cell?_spot this
  subst hs
  refine ⟨b,o,rfl,fun k y hy=>?_⟩
  have hk:k < len * C.k:=by
   have h1:=(List.getElem?_eq_some_iff.1 hy).1
   simp only [Jbu,hlen] at h1
   exact h1
  obtain ⟨q,hq⟩:∃ q,q=k / C.k:=⟨_,rfl⟩
  obtain ⟨r,hrr⟩:∃ r,r=k % C.k:=⟨_,rfl⟩
  have hql:q < len:=by rw [hq]; exact (Nat.div_lt_iff_lt_mul h0).2 hk
  have hr:r < C.k:=by rw [hrr]; exact Nat.mod_lt _ h0
  have e:k=q * C.k+r:=by rw [hq,hrr,Nat.mul_comm]; exact (Nat.div_add_mod k C.k).symm
  clear hq hrr
  subst e
  have hat:=Jb8 C (l:=(List.range len).map f) (i:=(q:Int)) (by omega) (by rw [hlen]; omega) r hr
  rw [show ((q:Int)).toNat=q by omega] at hat
  simp only at hy
  rw [hat] at hy
  have hn:nth ((List.range len).map f) (q:Int)=f q:=by
   simp [nth,List.getD,hql]
  rw [hn] at hy
  have:=(World.cells?_some (hf _ hql).1).2.2 r hr
  rw [hy] at this
  rw [Jbt,Jbt] at this
  simpa [Nat.add_assoc] using this
 intro c hc
 obtain ⟨i,hi,rfl⟩:=List.mem_map.1 hc
 exact (hf i (List.mem_range.1 hi)).2
theorem Jir {t s:TypeId} {fuel:Nat} {v:Value} {x:DataW H × List MemPlace} (ht:P.underlying t=some (.slice s)) (hs:P.underlying s=some .string) (hc:P.cellsOf s=1)
  (h:DataW.trod enc P w base (fun _=>true) held fuel t [v]=some x) {l:List ByteArray} {sp:List (DataW H)} (hx:x.1 = .slice (l.map fun a=>.lit (.string a.data.toList)) sp):SlT cStr w ⟨v,l⟩:=by
 rcases open_slice ht h with ⟨_,h1⟩ | ⟨a,len,cap,m,n,D,Pl,h1,_,hl,hm,hmm,h2,hcell⟩
 ·
  rw [h1] at hx; cases hx
 rw [h2] at hx
 simp only [DataW.slice.injEq] at hx
 have hd:=hx.1
 have hlen:len=l.length:=by simpa using congrArg List.length hd
 simp at h1 hmm
 subst h1
 have hm':cap≤9223372036854775807:=hm
 rw [hc] at hcell
 have hat:∀ i (hi:i < l.length),w.cell? (a.add i)=some (.string l[i]):=fun i hi=>by
  obtain ⟨cs',k1,k2⟩:=hcell i (by omega)
  obtain ⟨b,rfl,e,_⟩:=DataW.trod_string hs k2
  have e1:=congrArg (fun q=>q[i]?) hd
  simp only [List.getElem?_map,List.getElem?_eq_getElem hi,Option.map_some] at e1
  rw [List.getElem?_range (by omega)] at e1
  simp only [Option.map_some,Option.some.injEq] at e1
  have e2:=(Prod.mk.inj e).1
  rw [e2] at e1
  simp only [DataW.lit.injEq,Lit.string.injEq] at e1
  have e3:b=l[i]:=by
   cases b; cases hb:l[i]
   rw [hb] at e1
   simp at e1
   rw [e1]
  have:=(World.cells?_some k1).2.2 0 (by decide)
  rw [Nat.mul_one] at this
  rw [← e3]
  simpa [Addr.add] using this
 refine ⟨⟨by simp [Jbu,cStr],some a,cap,by rw [← hlen],⟨by simp only; omega,hm'⟩,?_⟩,fun _ _=>trivial⟩
 rcases Nat.eq_zero_or_pos l.length with hz | hz
 ·
  left; exact hz
 right
 obtain ⟨b,o,s'⟩:=a
 have hs':s'=none:=by simpa [Addr.add] using World.cell?_spot (hat 0 hz)
 subst hs'
 refine ⟨b,o,rfl,fun k y hy=>?_⟩
 have hk:k < l.length:=by
  have h1:=(List.getElem?_eq_some_iff.1 hy).1
  rw [Jbu] at h1
  simpa [cStr] using h1
 have e:=Jb8 cStr (l:=l) (i:=(k:Int)) (by omega) (by omega) 0 (by decide)
 rw [show cStr.k=1 from rfl,Nat.mul_one,Nat.add_zero,show ((k:Int)).toNat=k by omega] at e
 simp only at hy
 rw [e] at hy
 have hn:nth l (k:Int)=l[k]:=by simp [nth,List.getD,hk]
 rw [hn] at hy
 have h3:=hat k hk
 rw [Jbt] at h3
 rw [h3]
 simpa [cStr] using hy
end
end Go.Proofs.YtkekjhcmephhjaaGreatDoor
namespace Go.Proofs.YtkekjhcmephhjaaGreatDoor
set_option linter.unusedVariables false
set_option linter.unusedSimpArgs false
open Go.RowKit Go.Proofs
theorem Jht {H:Type} {enc:TypeId × Value→H} {a:Assume} {C:Checked} {os:Os} {f:FuncId} {fn:Func} {s:ChangeSpec} {conds:List PathCond} {apart fresh handsOn again:Bool} {X:World→Array Value→Prop}
  (hX:∀ (w w':World) (args:Array Value),w.heap=w'.heap→X w args→X w' args)
  (own:ownKnob C.prog.godebug=none) (started:os.Started) (noInit:C.prog.inits.idxOf? f=none) (hfn:C.prog.funcs[f]? = some fn)
  (witness:∃ (w:World) (tape:Tape) (i:Input),w.os=os∧(w.forCall tape i).Shaped C.prog∧i.vars=[]∧Input.okWide C.prog (w.forCall tape i) .any w.heap.size f i ∧
   ((s.pre enc C.prog fn conds apart (w.forCall tape i).memory i.args∧X (w.forCall tape i).memory i.args)∧sizedMet enc C.prog fn (OpenSpec.ofChange s) apart (w.forCall tape i).memory i.args)∧a.holds C.prog (lone (Frame.enter C.prog f i.args .normal) [] (w.forCall tape i)))
  (contract:∀ (W:World) (base:Nat) (args:Array Value) (ds gs:List (DataW H)) (before:List MemPlace),W.ShapedOpen C.prog →
   (∀ (j:Nat) t v,fn.params[j]? = some t→args[j]? = some v→Value.okWide C.prog W .any base t v) →
   DataW.Whole enc C.prog fn.params.toList s.vars apart W args.toList ds gs before →
   X W args →
   Calls C.prog f args W fun e W'=>∃ v,e = .returned v∧s.post enc C.prog fn apart fresh handsOn again W args v W') :
  ReturnsInHanded a C os f .any (fun w args=>(s.pre enc C.prog fn conds apart w args∧X w args)∧sizedMet enc C.prog fn (OpenSpec.ofChange s) apart w args) (s.post enc C.prog fn apart fresh handsOn again):=by
 refine returnsInHanded_of_calls own started noInit witness fun w tape i _ hsh _ hok hpre _=>?_
 obtain ⟨_,_,_,fn',hfn',_,_,_,_,hval⟩:=hok
 obtain rfl:fn'=fn:=Option.some.inj (hfn'.symm.trans hfn)
 obtain ⟨⟨⟨ds,gs,before,hw,_⟩,hx⟩,_⟩:=hpre
 refine (contract (w.forCall tape i) w.heap.size i.args ds gs before hsh hval (DataW.Whole.of_heap (w':=w.forCall tape i) (by rfl) hw) (hX _ _ _ (by rfl) hx)).mono fun e W' ⟨v,he,hp⟩=>?_
 subst he
 exact ChangeSpec.post_blind hp
end Go.Proofs.YtkekjhcmephhjaaGreatDoor
