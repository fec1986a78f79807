/- Merged texts of this proof (walks and plain laws), printed by a program of the prover. -/
import Derived.Test.YtdpbapffdmahnaaGreatDoorZa
import Derived.Laws.StructEq
import Derived.ChangeKeysEq
import Derived.Lib.ItoaLen
import Derived.Lib.Join
import Derived.Lib.SplitLaws
import Derived.Lib.SlTrimSet
import Derived.Lib.Atoi
import Derived.Lib.AtoiErrMem
import Derived.Lib.SlicesS
import Derived.WideLaws
import Derived.ProofKit
import Derived.Deep.Slices
import Derived.Lib.SmallJoins
import Derived.MakeChecks
import Derived.ChangeVars
import Derived.LaidMore
import Derived.Lay
import Derived.LaidOnce
import Derived.SevenTiedAt
import Derived.Handed
import Derived.OpenShut
import Derived.Shelf.Vars
namespace Go.Proofs.YtdpbapffdmahnaaGreatDoor
set_option linter.unusedVariables false
set_option linter.unusedSimpArgs false
open Go.RowKit
structure Cel (α:Type) where
 k:Nat
 cells:α→List Value
 ok:World→α→Prop
 len:∀ a,(cells a).length=k
 ext:∀ (w u:World) (a:α),ok w a→Below w.heap.size w u→ok u a
 one:∀ (w:World) (a:α),ok w a→∀ v∈cells a,v.oneCell'=true
structure Sl (α:Type) where
 v:Value
 l:List α
instance {α:Type}:Inhabited (Sl α):=⟨⟨.slice none 0 0,[]⟩⟩
section
variable {α:Type} (C:Cel α)
def Jba (l:List α):List Value:=(l.map C.cells).flatten
theorem Jdy (l:List α):(Jba C l).length=l.length * C.k:=by
 unfold Jba
 rw [Jgo C.k _ (by intro x hx; obtain ⟨a,_,rfl⟩:=List.mem_map.1 hx; exact C.len a),List.length_map]
theorem Jik (l m:List α):Jba C (l++m)=Jba C l++Jba C m:=by simp [Jba]
theorem Jh8 (a:α):Jba C [a]=C.cells a:=by simp [Jba]
theorem Jgr [Inhabited α] {l:List α} {i:Int} (h0:0≤i) (h1:i < l.length) (j:Nat) (hj:j < C.k):(Jba C l)[i.toNat * C.k+j]? = (C.cells (nth l i))[j]?:=by
 have hc:i.toNat < l.length:=by omega
 unfold Jba
 rw [Jgk C.k _ (by intro x hx; obtain ⟨a,_,rfl⟩:=List.mem_map.1 hx; exact C.len a) _ _ hj]
 simp [nth,List.getD,hc]
theorem Jhk {l:List α} (h:∀ a∈l,∀ v∈C.cells a,v.oneCell'=true):∀ v∈Jba C l,v.oneCell'=true:=fun v hv=>by
 unfold Jba at hv
 rw [List.mem_flatten] at hv
 obtain ⟨x,hx,hv⟩:=hv
 obtain ⟨a,ha,rfl⟩:=List.mem_map.1 hx
 exact h a ha v hv
structure SlT (w:World) (s:Sl α):Prop where
 sp:SlC w s.v s.l.length C.k (Jba C s.l)
 el:∀ a∈s.l,C.ok w a
end
theorem Jhh {α:Type} (C:Cel α) (l:List α) (n:Nat):Jba C (l.take n)=(Jba C l).take (n * C.k):=by
 induction l generalizing n with
 | nil=>simp [Jba]
 | cons a l ih =>
  cases n with
  | zero=>simp [Jba]
  | succ n =>
   have h:=C.len a
   have:=ih n
   simp only [Jba,List.map_cons,List.flatten_cons,List.take_succ_cons] at this ⊢
   rw [this,List.take_append,h,Nat.succ_mul,List.take_of_length_le (l:=C.cells a) (by omega)]
   congr 2; omega
theorem Jhf {α:Type} (C:Cel α) (l:List α) (n:Nat):Jba C (l.drop n)=(Jba C l).drop (n * C.k):=by
 induction l generalizing n with
 | nil=>simp [Jba]
 | cons a l ih =>
  cases n with
  | zero=>simp [Jba]
  | succ n =>
   have h:=C.len a
   have:=ih n
   simp only [Jba,List.map_cons,List.flatten_cons,List.drop_succ_cons] at this ⊢
   rw [this,List.drop_append,h,Nat.succ_mul,List.drop_of_length_le (l:=C.cells a) (by omega),List.nil_append]
   congr 1; omega
section
variable {α:Type} {C:Cel α} {w u:World} {s:Sl α}
theorem SlT.ext (h:SlT C w s) (hb:Below w.heap.size w u):SlT C u s:=⟨h.sp.ext hb,fun a ha=>C.ext _ _ a (h.el a ha) hb⟩
theorem SlT.st {w0:World} {L:List SA} (h:SlT C w0 s) (hu:St w0.heap.size w0 L u):SlT C u s:=h.ext hu.below
theorem SlT.le (h:SlT C w s):s.l.length≤9223372036854775807:=h.sp.le
theorem SlT.one (h:SlT C w s):∀ v∈Jba C s.l,v.oneCell'=true:=Jhk C fun a ha=>C.one w a (h.el a ha)
theorem SlT.at [Inhabited α] (h:SlT C w s) {i:Int} (h0:0≤i) (h1:i < s.l.length):C.ok w (nth s.l i):=h.el _ (Jbe h0 h1)
def Sl.cut {α:Type} (k:Nat) (s:Sl α) (lo hi:Nat):Sl α:=⟨sub2 k s.v lo hi,(s.l.drop lo).take (hi - lo)⟩
theorem SlT.cut (h:SlT C w s) {lo hi:Nat} (h0:lo≤hi) (h1:hi≤s.l.length):SlT C w (s.cut C.k lo hi):=by
 have h2:=h.sp.sub2 h0 h1
 refine ⟨?_,fun a ha=>h.el a (List.mem_of_mem_drop (List.mem_of_mem_take ha))⟩
 unfold Sl.cut
 simp only
 rw [Jhh,Jhf]
 rwa [show ((s.l.drop lo).take (hi - lo)).length=hi - lo by simp; omega]
theorem SlT.nil (C:Cel α) (w:World):SlT C w ⟨.slice none 0 0,[]⟩:=⟨⟨by simp [Jba],none,0,rfl,⟨Nat.le_refl 0,by decide⟩,.inl rfl⟩,fun a ha=>by cases ha⟩
end
def cSl {α:Type} (C:Cel α):Cel (Sl α) where
 k:=1
 cells s:=[s.v]
 ok:=SlT C
 len _:=rfl
 ext _ _ _ h hb:=h.ext hb
 one w s h v hv:=by
  simp at hv
  subst hv
  obtain ⟨_,p,cap,e,_⟩:=h.sp
  rw [e]; rfl
def cInt:Cel Int:=⟨1,fun x=>[.int .i64 x],fun _ _=>True,fun _=>rfl,fun _ _ _ _ _=>trivial,fun _ _ _ v hv=>by simp at hv; subst hv; rfl⟩
def cStr:Cel ByteArray:=⟨1,fun x=>[.string x],fun _ _=>True,fun _=>rfl,fun _ _ _ _ _=>trivial,fun _ _ _ v hv=>by simp at hv; subst hv; rfl⟩
theorem Jia (xs:List Int):Jba cInt xs=xs.map (Value.int .i64):=by
 unfold Jba
 induction xs with
 | nil=>rfl
 | cons x xs ih=>rw [List.map_cons,List.flatten_cons,ih]; rfl
theorem SlT.ints {w:World} {s:Sl Int} (h:SlT cInt w s):SlI w s.v s.l:=by
 have:=h.sp
 rw [Jia] at this
 exact this
section
variable {P:Program} {ro:Option Nat} {n0:Nat} {w0:World} {ds:List Deferred} {ops:Array Oper} {Q:Exit→Act→World→Prop} {L:List SA}
 {rest:List Oper} {l:List Value} {d:Option Tmp} {ty:TypeId} {ps:String} {af:Array Edge} {g:Option (Nat × Bool)} {D:World→Prop}
 {α:Type} {C:Cel α}
theorem Jji {T e:TypeId} {by_ k:Nat} {x y:Operand} {v:Value} {i:Int} {w:World} {s:Sl α} (hT:sl P T=some (e,k,by_)) (hx:evo l x=some v) (hy:evo l y=some (.int .i64 i))
  (hv:s.v=v) (hk:C.k=k) (hs:SlT C w s) (h0:0≤i) (h1:i < s.l.length):Det P D ⟨d,.indexAddr T x y,ty,ps,af,g⟩ l (.pointer (some (sla v (i.toNat * k)))):=by
 subst hv
 exact Jbv hT hx hy hs.sp h0 h1
theorem Jj3 {T e:TypeId} {by_ k:Nat} {x y:Operand} {i:Int} {w:World} {s:Sl α} (hT:sl P T=some (e,k,by_)) (hx:evo l x=some s.v) (hy:evo l y=some (.int .i64 i))
  (hs:SlT C w s) (hk:C.k=k) (h0:0≤i) (h1:i < s.l.length):Det P D ⟨d,.indexAddr T x y,ty,ps,af,g⟩ l (.pointer (some (sla s.v (i.toNat * k)))):=Jji hT hx hy rfl hk hs h0 h1
theorem Jki {T e:TypeId} {a b:Nat} {x:Operand} {w:World} {s:Sl α} (hT:sl P T=some (e,a,b)) (hx:evo l x=some s.v) (hs:SlT C w s) :
  Det P D ⟨d,.call ⟨.builtin .len, #[x], #[T]⟩,ty,ps,af,g⟩ l (.int .i64 s.l.length):=Jbz hT hx hs.sp
variable [Inhabited α]
end
section
variable {n0:Nat} {w0:World} {L:List SA} {α:Type}
def roT (C:Cel α) (s:Sl α):SA:=roS fun u=>SlT C u s
theorem Jjs {P:Program} {l:List Value} {d:Option Tmp} {ty:TypeId} {ps:String} {af:Array Edge} {g:Option (Nat × Bool)} [Inhabited α] {C:Cel α} {T:TypeId} {k z j jj:Nat} {x:Operand} {v y:Value} {s:Sl α} {i:Int}
  (hj':L[jj]? = some (roT C s)) (hx:evo l x=some (.pointer (some (sla v (i.toNat * k+j))))) (hv:s.v=v) (hk:C.k=k) (h:0≤i∧i < s.l.length) (hj:j < k)
  (hc:(C.cells (nth s.l i))[j]? = some y) (hT:tk P T=some (false,z)):Det P (St n0 w0 L) ⟨d,.load T x,ty,ps,af,g⟩ l y:=by
 subst hv; subst hk
 exact Jcu hx (fun _ hu=>(St.ro hj' hu).sp) (by rw [Jgr C h.1 h.2 j hj]; exact hc) hT
theorem Jjz {P:Program} {l:List Value} {d:Option Tmp} {ty:TypeId} {ps:String} {af:Array Edge} {g:Option (Nat × Bool)} [Inhabited α] {C:Cel α} {T:TypeId} {z jj:Nat} {x:Operand} {v y:Value} {s:Sl α} {i:Int}
  (hj':L[jj]? = some (roT C s)) (hx:evo l x=some (.pointer (some (sla v (i.toNat * 1))))) (hv:s.v=v) (hk:C.k=1) (h:0≤i∧i < s.l.length)
  (hc:(C.cells (nth s.l i))[0]? = some y) (hT:tk P T=some (false,z)):Det P (St n0 w0 L) ⟨d,.load T x,ty,ps,af,g⟩ l y:=Jjs (j:=0) hj' hx hv hk h (by decide) hc hT
end
def seq (a b:ByteArray):Bool:=a.toList == b.toList
theorem Ji9 (a:ByteArray):seq a a=true:=by simp [seq]
def byt (s:ByteArray) (i:Int):Int:=match s[i.toNat]? with | some b=>b.toNat | none=>0
section
variable {P:Program} {l:List Value} {d:Option Tmp} {ty:TypeId} {ps:String} {af:Array Edge} {g:Option (Nat × Bool)} {C:World→Prop}
theorem Jb7 {T T':TypeId} {x y:Operand} {a b:ByteArray} (hx:evo l x=some (.string a)) (hy:evo l y=some (.string b)) :
  Det P C ⟨d,.binOp .eql T x y T',ty,ps,af,g⟩ l (.bool (seq a b)):=fun u _=>by
 (replace hx:=Jaj hx; replace hy:=Jaj hy)
 simp [execOp,Jaf,hx,hy,eqGuard,binOp,Op.stringOp,seq]
theorem Jir {T T':TypeId} {x y:Operand} {a b:ByteArray} (hx:evo l x=some (.string a)) (hy:evo l y=some (.string b)) :
  Det P C ⟨d,.binOp .neq T x y T',ty,ps,af,g⟩ l (.bool (!seq a b)):=fun u _=>by
 (replace hx:=Jaj hx; replace hy:=Jaj hy)
 simp [execOp,Jaf,hx,hy,eqGuard,binOp,Op.stringOp,seq]
theorem Jav {T:TypeId} {x:Operand} {a:ByteArray} (hT:P.underlying T=some .string) (hx:evo l x=some (.string a)) :
  Det P C ⟨d,.call ⟨.builtin .len, #[x], #[T]⟩,ty,ps,af,g⟩ l (.int .i64 a.size):=fun u _=>by
 (replace hx:=Jaj hx)
 simp [execOp,Jaf,hx,resolve,invoke,builtin,Builtin.len_,run_underlying hT,goInt]
theorem Ja4 {T:TypeId} {x y:Operand} {a:ByteArray} {i:Int} (hT:P.underlying T=some .string) (hx:evo l x=some (.string a)) (hy:evo l y=some (.int .i64 i)) (h0:0≤i) (h1:i < a.size) :
  Det P C ⟨d,.index T x y,ty,ps,af,g⟩ l (.int .u8 (byt a i)):=fun u _=>by
 (replace hx:=Jaj hx; replace hy:=Jaj hy)
 have hi:i.toNat < a.size:=by omega
 simp [execOp,Jaf,hx,hy,Instr.index,asIntOf,run_underlying hT,h0,byt,hi]
end
structure Lit where
 t:Int
 s:Int
 nt:Bool
 deriving Inhabited,DecidableEq
structure Put where
 t:Int
 s:Int
 deriving Inhabited,DecidableEq
structure Thing where
 nm:ByteArray
 pl:Int
 st:Int
 sr:Int
 deriving Inhabited
structure Pro where
 nm:ByteArray
 pl:Int
 wh:Sl Lit
 deriving Inhabited
structure Way where
 a:Int
 b:Int
 wh:Sl Lit
 deriving Inhabited
structure Actn where
 nm:ByteArray
 pl:Int
 lk:Int
 us:Sl Int
 wh:Sl Lit
 se:Sl Put
 sp:Sl Int
 br:Sl Int
 deriving Inhabited
structure Auto where
 wh:Sl Lit
 t:Int
 s:Int
 deriving Inhabited
structure Room where
 pls:Sl ByteArray
 ths:Sl Thing
 prs:Sl Pro
 wys:Sl Way
 acs:Sl Actn
 aus:Sl Auto
 ply:Int
 gl:Sl Lit
 deriving Inhabited
structure Stt where
 ths:Sl Int
 prs:Sl Int
 pls:Sl Int
 deriving Inhabited
theorem Sl.one {α:Type} {C:Cel α} {w:World} {s:Sl α} (h:SlT C w s):s.v.oneCell'=true:=(cSl C).one w s h s.v (by simp [cSl])
def cLit:Cel Lit:=⟨3,fun a=>[.int .i64 a.t,.int .i64 a.s,.bool a.nt],fun _ _=>True,fun _=>rfl,fun _ _ _ _ _=>trivial,fun _ _ _ v hv=>by simp at hv; rcases hv with rfl | rfl | rfl <;> rfl⟩
def cPut:Cel Put:=⟨2,fun a=>[.int .i64 a.t,.int .i64 a.s],fun _ _=>True,fun _=>rfl,fun _ _ _ _ _=>trivial,fun _ _ _ v hv=>by simp at hv; rcases hv with rfl | rfl <;> rfl⟩
def Jmu:Cel Thing:=⟨4,fun a=>[.string a.nm,.int .i64 a.pl,.int .i64 a.st,.int .i64 a.sr],fun _ _=>True,fun _=>rfl,fun _ _ _ _ _=>trivial,fun _ _ _ v hv=>by simp at hv; rcases hv with rfl | rfl | rfl | rfl <;> rfl⟩
def cPro:Cel Pro:=⟨3,fun a=>[.string a.nm,.int .i64 a.pl,a.wh.v],fun w a=>SlT cLit w a.wh,fun _=>rfl,fun _ _ _ h hb=>h.ext hb,fun _ _ h v hv=>by
 simp at hv; rcases hv with rfl | rfl | rfl
 ·
  rfl
 ·
  rfl
 exact Sl.one h⟩
def cWay:Cel Way:=⟨3,fun a=>[.int .i64 a.a,.int .i64 a.b,a.wh.v],fun w a=>SlT cLit w a.wh,fun _=>rfl,fun _ _ _ h hb=>h.ext hb,fun _ _ h v hv=>by
 simp at hv; rcases hv with rfl | rfl | rfl
 ·
  rfl
 ·
  rfl
 exact Sl.one h⟩
def Job:Cel Auto:=⟨3,fun a=>[a.wh.v,.int .i64 a.t,.int .i64 a.s],fun w a=>SlT cLit w a.wh,fun _=>rfl,fun _ _ _ h hb=>h.ext hb,fun _ _ h v hv=>by
 simp at hv; rcases hv with rfl | rfl | rfl
 ·
  exact Sl.one h
 ·
  rfl
 rfl⟩
structure ActOk (w:World) (a:Actn):Prop where
 us:SlT cInt w a.us
 wh:SlT cLit w a.wh
 se:SlT cPut w a.se
 sp:SlT cInt w a.sp
 br:SlT cInt w a.br
def cAct:Cel Actn:=⟨8,fun a=>[.string a.nm,.int .i64 a.pl,.int .i64 a.lk,a.us.v,a.wh.v,a.se.v,a.sp.v,a.br.v],ActOk,fun _=>rfl,fun _ _ _ h hb=>⟨h.us.ext hb,h.wh.ext hb,h.se.ext hb,h.sp.ext hb,h.br.ext hb⟩,fun _ _ h v hv=>by
 simp at hv; rcases hv with rfl | rfl | rfl | rfl | rfl | rfl | rfl | rfl
 ·
  rfl
 ·
  rfl
 ·
  rfl
 ·
  exact Sl.one h.us
 ·
  exact Sl.one h.wh
 ·
  exact Sl.one h.se
 ·
  exact Sl.one h.sp
 exact Sl.one h.br⟩
structure RoomOk (w:World) (r:Room):Prop where
 pls:SlT cStr w r.pls
 ths:SlT Jmu w r.ths
 prs:SlT cPro w r.prs
 wys:SlT cWay w r.wys
 acs:SlT cAct w r.acs
 aus:SlT Job w r.aus
 gl:SlT cLit w r.gl
theorem RoomOk.ext {w u:World} {r:Room} (h:RoomOk w r) (hb:Below w.heap.size w u):RoomOk u r:=⟨h.pls.ext hb,h.ths.ext hb,h.prs.ext hb,h.wys.ext hb,h.acs.ext hb,h.aus.ext hb,h.gl.ext hb⟩
theorem RoomOk.st {w u:World} {L:List SA} {r:Room} (h:RoomOk w r) (hu:St w.heap.size w L u):RoomOk u r:=h.ext hu.below
def Room.cells (r:Room):List Value:=[r.pls.v,r.ths.v,r.prs.v,r.wys.v,r.acs.v,r.aus.v,.int .i64 r.ply,r.gl.v]
structure SttOk (w:World) (s:Stt):Prop where
 ths:SlT cInt w s.ths
 prs:SlT cInt w s.prs
 pls:SlT cInt w s.pls
theorem SttOk.ext {w u:World} {r:Stt} (h:SttOk w r) (hb:Below w.heap.size w u):SttOk u r:=⟨h.ths.ext hb,h.prs.ext hb,h.pls.ext hb⟩
theorem SttOk.st {w u:World} {L:List SA} {r:Stt} (h:SttOk w r) (hu:St w.heap.size w L u):SttOk u r:=h.ext hu.below
def Stt.cells (s:Stt):List Value:=[s.ths.v,s.prs.v,s.pls.v]
def Sl.e {α β:Type} (f:α→β) (s:Sl α):Sl β:=⟨.slice none 0 0,s.l.map f⟩
def Pro.e (p:Pro):Pro:={ p with wh:=p.wh.e id }
def Way.e (p:Way):Way:={ p with wh:=p.wh.e id }
def Auto.e (p:Auto):Auto:={ p with wh:=p.wh.e id }
def Actn.e (p:Actn):Actn:={ p with us:=p.us.e id,wh:=p.wh.e id,se:=p.se.e id,sp:=p.sp.e id,br:=p.br.e id }
def Room.e (r:Room):Room:=⟨r.pls.e id,r.ths.e id,r.prs.e Pro.e,r.wys.e Way.e,r.acs.e Actn.e,r.aus.e Auto.e,r.ply,r.gl.e id⟩
def Stt.e (s:Stt):Stt:=⟨s.ths.e id,s.prs.e id,s.pls.e id⟩
def putB (ths:List Thing) (a b:Int):Bool:=(decide (0≤a) && decide (a≤ths.length - 1)) && (decide (0≤b) && decide (b≤IntKind.i64.wrap ((nth ths a).st - 1)))
structure Fill (k:Nat) (s n i m:Int) (xs:List Int):Prop where
 lo : -1≤i
 hi:i < k
 pos:0≤m∧m≤n
 ex:∃ T,xs=List.replicate (i+1).toNat 0++T∧digs k s n=digs (i+1).toNat s m++T
section
variable {k:Nat} {s n i m:Int} {xs:List Int}
theorem Fill.start {w:Int} (hk:(k:Int)=w) (hw:0≤w) (hn:0≤n):Fill k s n (w - 1) n (List.replicate w.toNat 0):=by
 subst hk
 refine ⟨by omega,by omega,⟨hn,Int.le_refl _⟩,[],?_,?_⟩ <;> simp
theorem Fill.len (h:Fill k s n i m xs):xs.length=k:=by
 obtain ⟨T,h1,h2⟩:=h.ex
 have:=congrArg List.length h2
 simp [Jbw] at this
 rw [h1]; simp; omega
theorem Fill.step (h:Fill k s n i m xs) (h0:0≤i) (hs:2≤s):Fill k s n (i - 1) (m / s) (xs.set i.toNat (m % s)):=by
 obtain ⟨T,h1,h2⟩:=h.ex
 have e:(i+1).toNat=i.toNat+1:=by omega
 have e2:(i - 1+1).toNat=i.toNat:=by omega
 have hp:=h.pos
 refine ⟨by omega,by have:=h.hi; omega,⟨Int.ediv_nonneg hp.1 (by omega),Int.le_trans (Int.ediv_le_self s hp.1) hp.2⟩,m % s::T,?_,?_⟩
 ·
  rw [h1,e,e2,List.replicate_succ',List.append_assoc]
  exact Jgj (by simp)
 rw [h2,e,e2,digs]; simp
theorem Fill.end_ (h:Fill k s n i m xs) (hi:i < 0):xs=digs k s n:=by
 obtain ⟨T,h1,h2⟩:=h.ex
 have e:(i+1).toNat=0:=by have:=h.lo; omega
 rw [h1,h2,e]; simp [digs]
theorem Fill.bd (h:Fill k s n i m xs) (h0:0≤i):0≤i∧i < xs.length:=by
 have:=h.len
 have:=h.hi
 omega
end
def comN (y x:List Int):Int:=Jbg y x 10 - Ja1 y x
def Jon (L:List (List Int)) (x:List Int) (r c:Int):Int:=((L.filter fun y=>decide (Ja1 y x=r) && decide (comN y x=c)).length:Int)
def maxL:List Int→Int
 | []=>0
 | a::l=>max a (maxL l)
def cA (L:List (List Int)) (x y:List Int):Int:=Jon L x (Ja1 y x) (comN y x)
def wN (L:List (List Int)) (x:List Int):Int:=maxL (L.map (cA L x))
def Jdb (L:List (List Int)):Nat→Nat
 | 0=>0
 | i+1=>if i=0 then 0 else if wN L (nth L i) < wN L (nth L (Jdb L i)) then i else Jdb L i
theorem Jg0 (L:List (List Int)):∀ i,0 < i→Jdb L i < i
 | 0,h=>by omega
 | i+1,_=>by
  simp only [Jdb]
  split
  ·
   omega
  split
  ·
   omega
  have:=Jg0 L i (by omega); omega
structure NextI (L:List (List Int)) (gs:List Value) (i:Int) (v:Value) (m:Int):Prop where
 lo:i=0→v = .slice none 0 0∧m=0
 hi:0 < i→v=nth gs (Jdb L i.toNat)∧m=wN L (nth L (Jdb L i.toNat))
def nilB:Value→Bool
 | .slice none _ _=>true
 | _=>false
theorem Jid {u:World} {v:Value} {xs:List Int} (h:SlI u v xs) (h0:0 < xs.length):nilB v=false∧∃ p n c,v = .slice p n c:=by
 obtain ⟨_,p,cap,rfl,_,h2⟩:=h
 rcases h2 with h2 | ⟨b,o,rfl,_⟩
 ·
  omega
 exact ⟨rfl,_,_,_,rfl⟩
section
variable {L:List (List Int)} {gs:List Value} {i m:Int} {v:Value}
theorem NextI.start:NextI L gs 0 (.slice none 0 0) 0:=⟨fun _=>⟨rfl,rfl⟩,fun h=>by omega⟩
theorem NextI.nil {u:World} {lv:Value} (h:NextI L gs i v m) (hs:SlL u lv L gs) (h0:0≤i) (h1:i≤L.length) (hp:∀ j:Int,0≤j→j < L.length→0 < (nth L j).length):nilB v=decide (i=0)∧∃ p n c,v = .slice p n c:=by
 by_cases hi:i=0
 ·
  obtain ⟨rfl,_⟩:=h.lo hi
  exact ⟨by simp [hi,nilB],_,_,_,rfl⟩
 obtain ⟨rfl,_⟩:=h.hi (by omega)
 have hb:=Jg0 L i.toNat (by omega)
 have:=Jid (hs.el (Jdb L i.toNat) (by omega) (by omega)) (hp _ (by omega) (by omega))
 exact ⟨by rw [this.1]; simp [hi],this.2⟩
theorem NextI.take (h:NextI L gs i v m) (h0:0≤i) (hc:nilB v=true∨wN L (nth L i) < m) (hn:nilB v=decide (i=0)):NextI L gs (i+1) (nth gs i) (wN L (nth L i)):=by
 have e:(i+1).toNat=i.toNat+1:=by omega
 have e2:((i.toNat:Nat):Int)=i:=by omega
 refine ⟨fun h=>by omega,fun _=>?_⟩
 have:Jdb L (i+1).toNat=i.toNat:=by
  rw [e,Jdb]
  by_cases hi:i.toNat=0
  ·
   rw [if_pos hi,hi]
  rw [if_neg hi,if_pos]
  have h2:=(h.hi (by omega)).2
  rw [hn] at hc
  rcases hc with hc | hc
  ·
   simp at hc; omega
  rw [e2, ← h2]; exact hc
 rw [this,e2]
 exact ⟨rfl,rfl⟩
theorem NextI.leave (h:NextI L gs i v m) (h0:0≤i) (hc:nilB v=false∧¬ wN L (nth L i) < m) (hn:nilB v=decide (i=0)):NextI L gs (i+1) v m:=by
 have e:(i+1).toNat=i.toNat+1:=by omega
 have e2:((i.toNat:Nat):Int)=i:=by omega
 have hi:¬ i.toNat=0:=by rw [hn] at hc; simp at hc; omega
 refine ⟨fun h=>by omega,fun _=>?_⟩
 have h2:=h.hi (by omega)
 have:Jdb L (i+1).toNat=Jdb L i.toNat:=by
  rw [e,Jdb,if_neg hi,if_neg]
  rw [e2, ← h2.2]; exact hc.2
 rw [this]
 exact h2
end
end Go.Proofs.YtdpbapffdmahnaaGreatDoor
namespace Go.Proofs.YtdpbapffdmahnaaGreatDoor
set_option linter.unusedVariables false
set_option linter.unusedSimpArgs false
open Go.RowKit Go.Proofs
section
variable {P:Program} {ro:Option Nat} {n0:Nat} {w0:World} {ds:List Deferred} {ops:Array Oper} {Q:Exit→Act→World→Prop} {L:List SA}
 {rest:List Oper} {l:List Value} {d:Option Tmp} {ty:TypeId} {ps:String} {af:Array Edge} {g:Option (Nat × Bool)} {C:World→Prop} {u:World}
theorem St.setRow {b j:Nat} {c c':List Value} {e:TypeId} (h:St n0 w0 L u) (hj:L[j]? = some (Go.Proofs.YtdpbapffdmahnaaGreatDoor.blk b c e)):St n0 w0 (L.set j (Go.Proofs.YtdpbapffdmahnaaGreatDoor.blk b c' e)) (u.setRow b c'.toArray):=by
 obtain ⟨S,hS,⟨hS1,hb⟩,hupd⟩:=h.upd hj
 refine hupd _ _ (fun k=>k=b) ⟨rfl,rfl,rfl,by simp,fun k hk=>setRow_other u b k _ (fun e=>by have:=hS b ((hS1 b).2 rfl); omega)⟩ (fun k hk o' hcell=>?_) ⟨fun k=>Iff.rfl,?_⟩ (fun k hk=>by subst hk; exact ⟨hS _ ((hS1 _).2 rfl),.inl ((hS1 _).2 rfl)⟩)
 ·
  rw [setRow_other u b k _ (fun e=>hk.2.2 ((hS1 k).2 e))]; exact hcell
 exact setRow_heap u b c.toArray c'.toArray e _ hb
theorem ClS.one {w:World} {v:Value} {cs:List Clue} {gs:List Value} (h:ClS w v cs gs):∀ g∈gs,g.oneCell'=true:=by
 intro g hg
 obtain ⟨i,h0,h1,rfl⟩:=Jgd hg
 obtain ⟨_,p,cap,h2,_⟩:=h.el i h0 (by have:=h.len; omega)
 rw [h2]; rfl
end
def Jdp {α:Type} [Inhabited α] (cs:List α) (ns:List Nat):List α:=ns.map fun k=>cs.getD k default
section
variable {α:Type} [Inhabited α] {cs:List α} {ns ms:List Nat}
theorem Jfq:(Jdp cs ns).length=ns.length:=by simp [Jdp]
end
theorem ClS.pick {u:World} {v v':Value} {cs:List Clue} {gs:List Value} (h:ClS u v cs gs) {ns:List Nat} (hn:∀ k∈ns,k < cs.length) (hs:SlC u v' (Jdp cs ns).length 7 (Jc8 (Jdp cs ns) (Jdp gs ns))):ClS u v' (Jdp cs ns) (Jdp gs ns):=by
 refine ⟨hs,by simp [Jfq],fun i h0 h1=>?_⟩
 rw [Jfq] at h1
 have hlt:i.toNat < ns.length:=by omega
 have hk:=hn _ (List.getElem_mem hlt)
 have e1:nth (Jdp cs ns) i=nth cs ((ns[i.toNat]:Nat):Int):=by simp [nth,List.getD,Jdp,hlt]
 have e2:nth (Jdp gs ns) i=nth gs ((ns[i.toNat]:Nat):Int):=by simp [nth,List.getD,Jdp,hlt]
 rw [e1,e2]
 exact h.el _ (by omega) (by omega)
section
variable {P:Program} {ro:Option Nat} {n0:Nat} {w0:World} {ds:List Deferred} {ops:Array Oper} {Q:Exit→Act→World→Prop} {L:List SA}
 {rest:List Oper} {l:List Value} {d:Option Tmp} {ty:TypeId} {ps:String} {af:Array Edge} {g:Option (Nat × Bool)} {C:World→Prop}
theorem Jg9 {x:Operand} {v:Value} {c b:Bool} (hg:c=true) (h:evo l x=some (cond (c && (b == true)) v undef)):evo l x=some (cond b v undef):=by subst hg; cases b <;> exact h
theorem SlI.none (u:World):SlI u (.slice none 0 0) []:=⟨by simp,Option.none,0,rfl,by simp,Or.inl rfl⟩
end
end Go.Proofs.YtdpbapffdmahnaaGreatDoor
namespace Go.Proofs.YtdpbapffdmahnaaGreatDoor
set_option linter.unusedVariables false
set_option linter.unusedSimpArgs false
open Go.RowKit
def placeB (r:Room) (n:Int):Bool:=decide (0≤n) && decide (n≤r.pls.l.length - 1)
def thB (r:Room) (x:Thing):Bool:=placeB r x.pl && ((decide (2≤x.st) && decide (x.st≤6)) && (decide (0≤x.sr) && decide (x.sr≤x.st - 1)))
def upd (vs:Nat→Value) (i:Nat) (v:Value):Nat→Value:=fun j=>if j=i then v else vs j
theorem Jg2 {vs:Nat→Value} {i:Nat} {v:Value}:upd vs i v i=v:=by simp [upd]
theorem Jhy {vs:Nat→Value} {i j:Nat} {v:Value} (h:j≠i):upd vs i v j=vs j:=by simp [upd,h]
def Jhq {α:Type} (l:List α) (d:Nat→Nat) (f:Nat→α):List Nat→Option (List α)
 | []=>some l
 | i::is=>match Jhq l d f is with
  | some r=>lset r (d i) (f i)
  | none=>none
theorem Jc6 {α:Type} {l:List α} {d:Nat→Nat} {f:Nat→α}:∀ {is:List Nat} {r:List α},Jhq l d f is=some r→is.Nodup→(∀ i∈is,∀ k∈is,d i=d k→i=k) →
  r.length=l.length∧(∀ k,(∀ i∈is,d i≠k)→r[k]? = l[k]?)∧∀ i∈is,d i < l.length→r[d i]? = some (f i)
 | [],r,h,_,_=>by simp [Jhq] at h; subst h; exact ⟨rfl,fun _ _=>rfl,fun i hi=>by simp at hi⟩
 | i::is,r,h,hn,hd=>by
  unfold Jhq at h
  split at h
  ·
   rename_i r1 h1
   have h2:=Jal h
   subst h2
   rw [List.nodup_cons] at hn
   obtain ⟨e1,e2,e3⟩:=Jc6 h1 hn.2 fun a ha b hb e=>hd a (List.mem_cons_of_mem _ ha) b (List.mem_cons_of_mem _ hb) e
   refine ⟨by simpa using e1,fun k hk=>?_,fun j hj hlt=>?_⟩
   ·
    rw [List.getElem?_set_ne (hk i List.mem_cons_self)]
    exact e2 k fun a ha=>hk a (List.mem_cons_of_mem _ ha)
   by_cases hji:j=i
   ·
    subst hji
    rw [List.getElem?_set_self (by omega)]
   rcases List.mem_cons.1 hj with hj' | hj'
   ·
    exact (hji hj').elim
   rw [List.getElem?_set_ne (fun e=>hji (hd i List.mem_cons_self j hj e).symm)]
   exact e3 j hj' hlt
  cases h
def live (is:List Nat) (R:Nat→Value→List SA) (vs:Nat→Value) (p:Nat→Bool):List SA:=is.flatMap fun j=>if p j=true then R j (vs j) else []
theorem Jbf {is:List Nat} {R:Nat→Value→List SA} {vs vs':Nat→Value} {p p':Nat→Bool} (h:∀ j∈is,p j=p' j∧(p j=true→vs j=vs' j)):live is R vs p=live is R vs' p':=by
 induction is with
 | nil=>rfl
 | cons a is ih =>
  have h1:=h a List.mem_cons_self
  have h2:=ih fun j hj=>h j (List.mem_cons_of_mem _ hj)
  simp only [live,List.flatMap_cons] at h2 ⊢
  rw [h2, ← h1.1]
  congr 1
  split
  ·
   rename_i hp; rw [h1.2 hp]
  rfl
theorem Jeh (is:List Nat) (R:Nat→Value→List SA) (vs:Nat→Value) (p q:Nat→Bool):(live is R vs p).Perm (live is R vs (fun j=>p j && q j)++live is R vs (fun j=>p j && !q j)):=by
 induction is with
 | nil=>exact List.Perm.refl _
 | cons a is ih =>
  simp only [live,List.flatMap_cons] at ih ⊢
  by_cases hp:p a=true
  ·
   by_cases hq:q a=true
   ·
    simpa [hp,hq,List.append_assoc] using List.Perm.append_left (R a (vs a)) ih
   simp only [hp,hq,if_true,Bool.and_false,Bool.false_eq_true,if_false,List.nil_append,Bool.true_and,Bool.not_false]
   refine (List.Perm.append_left _ ih).trans ?_
   rw [← List.append_assoc, ← List.append_assoc]
   exact List.Perm.append_right _ List.perm_append_comm
  simpa [hp] using ih
theorem Jey {R:Nat→Value→List SA} {vs:Nat→Value}:∀ {is:List Nat},live is R vs (fun _=>false)=[]
 | []=>rfl
 | a::is=>by
  have:=Jey (R:=R) (vs:=vs) (is:=is)
  simp only [live,List.flatMap_cons] at this ⊢
  rw [this]; simp
theorem Je1 {R:Nat→Value→List SA} {vs:Nat→Value} {c:Nat}:∀ {is:List Nat},is.Nodup→c∈is→live is R vs (fun j=>decide (j=c))=R c (vs c)
 | [],_,h=>by simp at h
 | a::is,hn,h=>by
  rw [List.nodup_cons] at hn
  simp only [live,List.flatMap_cons]
  by_cases hac:a=c
  ·
   subst hac
   have:live is R vs (fun j=>decide (j=a))=live is R vs fun _=>false:=Jbf fun j hj=>⟨by simp; rintro rfl; exact hn.1 hj,fun _=>rfl⟩
   simp only [live] at this
   rw [this]
   simp
  have hc:c∈is:=by rcases List.mem_cons.1 h with e | e; exact (hac e.symm).elim; exact e
  have:=Je1 (R:=R) (vs:=vs) hn.2 hc
  simp only [live] at this
  rw [this]
  simp [hac]
theorem Jhe {p:Nat→Bool} {i:Nat}:∀ {is:List Nat},is.Nodup→i∈is→p i=true→(is.filter p).length=(is.filter fun k=>p k && !decide (k=i)).length+1
 | [],_,h,_=>by simp at h
 | a::is,hn,h,hp=>by
  rw [List.nodup_cons] at hn
  by_cases hai:a=i
  ·
   subst hai
   have:is.filter p=is.filter fun k=>p k && !decide (k=a):=List.filter_congr fun k hk=>by
    have:k≠a:=by rintro rfl; exact hn.1 hk
    simp [this]
   simp [List.filter_cons,hp,this]
  have hi:i∈is:=by rcases List.mem_cons.1 h with e | e; exact (hai e.symm).elim; exact e
  have ih:=Jhe hn.2 hi hp
  simp only [List.filter_cons,hai,decide_false,Bool.not_false,Bool.and_true]
  cases hpa:p a with
  | true=>simp [ih]
  | false=>simpa using ih
def Jft (ops:Array Oper) (bl:List Bool) (is:List Nat) (d:Nat→Nat) (dep:Nat→List Nat) (cs:Nat→Option Nat) (n:Nat):Bool :=
 (is.all fun i=>bl[i]? == some false && (match ops[i]? with
  | some o=>o.dst == some (d i) && decide (d i < n) && ((dep i).all fun j=>is.contains j && o.after.toList.any fun e=>Region.binds .any e && e.on == j) &&
    (o.after.toList.all fun e => !Region.binds .any e || (is.contains e.on && decide (e.on < i)) || bl[e.on]? == some true)
  | none=>false) && (match cs i with | some c=>(dep i).contains c | none=>true) && is.all fun k=>k == i || (!(d k == d i) && !((cs i).isSome && cs k == cs i))) &&
 (List.range bl.length).all fun k=>is.contains k || bl[k]? == some true || (match ops[k]? with
  | some o=>is.all fun i=>o.after.toList.any fun e=>Region.binds .any e && e.on == i
  | none=>false)
structure ManyAt (ops:Array Oper) (bl:List Bool) (is:List Nat) (d:Nat→Nat) (dep:Nat→List Nat) (cs:Nat→Option Nat) (n i:Nat) (o:Oper):Prop where
 op:ops[i]? = some o
 un:bl[i]? = some false
 dst:o.dst=some (d i)
 lt:d i < n
 deps:∀ j∈dep i,j∈is∧∃ e∈o.after,Region.binds .any e=true∧e.on=j
 aft:∀ e∈o.after,Region.binds .any e=true→(e.on∈is∧e.on < i)∨bl[e.on]? = some true
 csd:∀ c,cs i=some c→c∈dep i
 inj:∀ k∈is,k≠i→d k≠d i∧(∀ c,cs i=some c→cs k≠some c)
theorem Ja8 {ops:Array Oper} {bl:List Bool} {is:List Nat} {d:Nat→Nat} {dep:Nat→List Nat} {cs:Nat→Option Nat} {n:Nat} (h:Jft ops bl is d dep cs n=true) {i:Nat} (hi:i∈is):∃ o,ManyAt ops bl is d dep cs n i o:=by
 unfold Jft at h
 rw [Bool.and_eq_true,List.all_eq_true] at h
 have h1:=h.1 i hi
 cases ho:ops[i]? with
 | none=>simp [ho] at h1
 | some o =>
  simp only [ho,Bool.and_eq_true,List.all_eq_true,beq_iff_eq,decide_eq_true_eq,List.contains_iff_mem,List.any_eq_true,Bool.or_eq_true,Bool.not_eq_true'] at h1
  obtain ⟨⟨⟨h1,⟨⟨h2,h3⟩,h4⟩,h5⟩,h6⟩,h7⟩:=h1
  refine ⟨o,ho,h1,h2,h3,fun j hj=>?_,fun e he hb=>?_,fun c hc=>?_,fun k hk hki=>?_⟩
  ·
   obtain ⟨a,e,he,hb,hj⟩:=h4 j hj
   exact ⟨a,e,by simpa using he,hb,hj⟩
  ·
   rcases h5 e (by simpa using he) with (h | h) | h
   ·
    rw [hb] at h; cases h
   ·
    exact .inl h
   exact .inr h
  ·
   rw [hc] at h6; simpa using h6
  rcases h7 k hk with h | h
  ·
   exact (hki h).elim
  refine ⟨by simpa using h.1,fun c hc hck=>?_⟩
  have:=h.2
  rw [hc,hck] at this
  simp at this
theorem Jhr {ops:Array Oper} {bl:List Bool} {is:List Nat} {d:Nat→Nat} {dep:Nat→List Nat} {cs:Nat→Option Nat} {n:Nat} (h:Jft ops bl is d dep cs n=true) {k:Nat} (hk:k ∉ is) (hb:bl[k]? = some false) {o:Oper} (ho:ops[k]? = some o) {i:Nat} (hi:i∈is) :
  ∃ e∈o.after,Region.binds .any e=true∧e.on=i:=by
 unfold Jft at h
 rw [Bool.and_eq_true,List.all_eq_true,List.all_eq_true] at h
 have hlt:k < bl.length:=(List.getElem?_eq_some_iff.1 hb).1
 have h1:=h.2 k (List.mem_range.2 hlt)
 simp only [ho,Bool.or_eq_true,List.contains_iff_mem,hk,hb,false_or,List.all_eq_true,List.any_eq_true,Bool.and_eq_true,beq_iff_eq] at h1
 rcases h1 with h1 | h1
 ·
  cases h1
 obtain ⟨e,he,hb,hj⟩:=h1 i hi
 exact ⟨e,by simpa using he,hb,hj⟩
section
variable {P:Program} {ro:Option Nat} {n0:Nat} {w0:World} {ds:List Deferred} {ops:Array Oper} {Q:Exit→Act→World→Prop} {L:List SA} {l:List Value} {C:World→Prop}
theorem St.sel0 {u:World} (A:List SA) (h:St n0 w0 (A++L) u):St n0 w0 L u:=St.sub (List.sublist_append_right _ _) h
def Jdq (is:List Nat) (cs:Nat→Option Nat) (b:Nat→Bool) (j:Nat):Bool:=b j && !(is.any fun i=>b i && decide (cs i=some j))
structure ManyInv (n0:Nat) (w0:World) (L:List SA) (l:List Value) (bl:List Bool) (is:List Nat) (d:Nat→Nat) (dep:Nat→List Nat) (cs:Nat→Option Nat) (R:Nat→Value→List SA) (V:Nat→(Nat→Value)→Prop)
  (bl':List Bool) (l':List Value) (vs:Nat→Value) (u:World):Prop where
 bn:bl'.length=bl.length
 bo:∀ k,k ∉ is→bl'[k]? = bl[k]?
 bi:∀ k∈is,bl'[k]? = some true∨bl'[k]? = some false
 ln:l'.length=l.length
 lo:∀ k,(∀ j∈is,d j≠k)→l'[k]? = l[k]?
 li:∀ j∈is,bl'[j]? = some true→l'[d j]? = some (vs j)∧V j vs∧∀ k∈dep j,bl'[k]? = some true
 st:St n0 w0 (live is R vs (Jdq is cs fun j=>decide (bl'[j]? = some true))++L) u
def Jkb (P:Program) (ro:Option Nat) (n0:Nat) (w0:World) (ds:List Deferred) (ops:Array Oper) (L:List SA) (l:List Value) (is:List Nat) (d:Nat→Nat) (dep:Nat→List Nat) (cs:Nat→Option Nat) (R:Nat→Value→List SA) (V:Nat→(Nat→Value)→Prop) (i:Nat) (o:Oper):Prop :=
 ∀ (Q:Exit→Act→World→Prop) (vs:Nat→Value) (l':List Value) (M:List SA),l'.length=l.length→(∀ j∈dep i,l'[d j]? = some (vs j)∧V j vs)→(∀ k,(∀ j∈is,d j≠k)→l'[k]? = l[k]?) →
  (∀ v,V i (upd vs i v)→QS n0 w0 ds Q .normal (R i v++M) (l'.set (d i) v))→WS P ro n0 w0 ds ops Q ((match cs i with | some c=>R c (vs c) | none=>[])++M) [o] l'
theorem AS.many {bl be:List Bool} {fuel nn:Nat} {le:(Nat→Value)→List Value} {L':(Nat→Value)→List SA} (is:List Nat) (d:Nat→Nat) (dep:Nat→List Nat) (cs:Nat→Option Nat) (R:Nat→Value→List SA) (V:Nat→(Nat→Value)→Prop)
  (hok:Jft ops bl is d dep cs l.length=true) (hnd:is.Nodup) (hnn:is.length=nn) (hbe:Jhq bl id (fun _=>true) is=some be) (hC:∀ u,St n0 w0 L u→C u)
  (hV:∀ i∈is,∀ vs vs',(∀ j∈i::dep i,vs j=vs' j)→V i vs→V i vs')
  (hle:∀ vs,Jhq l d vs is=some (le vs)) (hL':∀ vs,live is R vs (fun j => !(is.any fun i=>decide (cs i=some j)))++L=L' vs)
  (step:∀ i∈is,∀ o,ops[i]? = some o→Jkb P ro n0 w0 ds ops L l is d dep cs R V i o)
  (fin:∀ vs,(∀ i∈is,V i vs)→AS P ro n0 w0 ds ops Q C (L' vs) fuel be (le vs)) :
  AS P ro n0 w0 ds ops Q C L (fuel+nn) bl l:=by
 subst hnn
 have hdj:∀ i∈is,∀ k∈is,d i=d k→i=k:=fun i hi k hk e=>by
  by_cases hki:k=i
  ·
   exact hki.symm
  obtain ⟨o,ho⟩:=Ja8 hok hi
  exact ((ho.inj k hk hki).1 e.symm).elim
 have main:∀ (n:Nat) (bl':List Bool) (l':List Value) (vs:Nat→Value) (u:World),ManyInv n0 w0 L l bl is d dep cs R V bl' l' vs u→(is.filter fun k=>decide (bl'[k]? = some false)).length=n →
   AH P ro ops (NP Q) C (fuel+n) bl'.toArray ⟨l'.toArray,ds⟩ u:=by
  intro n
  induction n with
  | zero =>
   intro bl' l' vs u hI hn
   have hall:∀ k∈is,bl'[k]? = some true:=fun k hk=>by
    rcases hI.bi k hk with h | h
    ·
     exact h
    have:=List.filter_eq_nil_iff.1 (List.length_eq_zero_iff.1 hn) k hk
    simp [h] at this
   have e1:bl'=be:=by
    obtain ⟨q1,q2,q3⟩:=Jc6 hbe hnd fun a _ b _ e=>e
    apply List.ext_getElem?
    intro k
    by_cases hk:k∈is
    ·
     have hlt:k < bl.length:=by
      have:=(List.getElem?_eq_some_iff.1 (hall k hk)).1
      rw [hI.bn] at this; exact this
     rw [hall k hk]; exact (q3 k hk hlt).symm
    rw [hI.bo k hk,q2 k fun i hi e=>hk (by simp at e; rw [← e]; exact hi)]
   have e2:l'=le vs:=by
    obtain ⟨q1,q2,q3⟩:=Jc6 (hle vs) hnd hdj
    apply List.ext_getElem?
    intro k
    by_cases hk:∃ j∈is,d j=k
    ·
     obtain ⟨j,hj,rfl⟩:=hk
     obtain ⟨o,ho⟩:=Ja8 hok hj
     rw [(hI.li j hj (hall j hj)).1,q3 j hj ho.lt]
    have hk':∀ j∈is,d j≠k:=fun j hj e=>hk ⟨j,hj,e⟩
    rw [hI.lo k hk',q2 k hk']
   subst e1 e2
   refine fin vs (fun i hi=>(hI.li i hi (hall i hi)).2.1) u ?_
   rw [← hL' vs]
   have:live is R vs (Jdq is cs fun j=>decide (bl'[j]? = some true))=live is R vs (fun j => !(is.any fun i=>decide (cs i=some j))):=Jbf fun j hj=>by
    refine ⟨?_,fun _=>rfl⟩
    simp only [Jdq]
    rw [decide_eq_true (hall j hj),Bool.true_and]
    congr 1
    have:∀ (ks:List Nat),(∀ k∈ks,k∈is)→(ks.any fun i=>decide (bl'[i]? = some true) && decide (cs i=some j))=ks.any fun i=>decide (cs i=some j):=fun ks=>by
     induction ks with
     | nil=>intro _; rfl
     | cons a ks ih=>intro h; simp only [List.any_cons]; rw [ih fun k hk=>h k (List.mem_cons_of_mem _ hk),decide_eq_true (hall a (h a List.mem_cons_self)),Bool.true_and]
    exact this is fun _ h=>h
   rw [← this]
   exact hI.st
  | succ n ih =>
   intro bl' l' vs u hI hn u' hu'
   have hI':ManyInv n0 w0 L l bl is d dep cs R V bl' l' vs u':={ hI with st:=hI.st.ext hu' }
   -- the Jly that is not over
   have hex:∃ k,k∈is∧bl'[k]? = some false:=by
    cases hf:is.filter fun k=>decide (bl'[k]? = some false) with
    | nil=>rw [hf] at hn; simp at hn
    | cons a r =>
     have:a∈is.filter fun k=>decide (bl'[k]? = some false):=by rw [hf]; exact List.mem_cons_self
     rw [List.mem_filter] at this
     exact ⟨a,this.1,by simpa using this.2⟩
   obtain ⟨m,⟨hm,hmf⟩,hmin⟩:=Jly hex
   have hgd:∀ k,bl'.toArray.getD k true=false ↔ bl'[k]? = some false:=fun k=>by
    cases h:bl'[k]? with
    | none=>simp [Array.getD_eq_getD_getElem?,h]
    | some x=>simp [Array.getD_eq_getD_getElem?,h]
   have hgt:∀ k,bl'.toArray.getD k false=true ↔ bl'[k]? = some true:=fun k=>by
    cases h:bl'[k]? with
    | none=>simp [Array.getD_eq_getD_getElem?,h]
    | some x=>simp [Array.getD_eq_getD_getElem?,h]
   have hnin:∀ {k:Nat},bl[k]? = some true→bl'[k]? = some true:=fun {k} hk=>by
    by_cases hki:k∈is
    ·
     obtain ⟨o,ho⟩:=Ja8 hok hki
     rw [ho.un] at hk; cases hk
    rw [hI.bo k hki]; exact hk
   refine ⟨hC _ (hI'.st.sel0 _),fun h0=>?_,fun i hi=>?_⟩
   ·
    exfalso
    obtain ⟨o,ho⟩:=Ja8 hok hm
    have:m∈Region.ready .any ops bl'.toArray:=mem_ready.2 ⟨(hgd m).2 hmf,o,ho.op,fun e he hb=>(hgt _).2 (by
     rcases ho.aft e he hb with ⟨h1,h2⟩ | h1
     ·
      rcases hI.bi _ h1 with h | h
      ·
       exact h
      have:=hmin _ ⟨h1,h⟩; omega
     exact hnin h1)⟩
    rw [h0] at this
    cases this
   obtain ⟨hun,o,ho,hall⟩:=mem_ready.1 hi
   have hif:bl'[i]? = some false:=(hgd i).1 hun
   have hin:i∈is:=by
    by_cases hin:i∈is
    ·
     exact hin
    exfalso
    obtain ⟨e,he,hb,hj⟩:=Jhr hok hin (by rw [← hI.bo i hin]; exact hif) ho hm
    have:=(hgt _).1 (hall e he hb)
    rw [hj,hmf] at this
    cases this
   obtain ⟨o',hM⟩:=Ja8 hok hin
   obtain rfl:o=o':=by have:=hM.op; rw [ho] at this; exact Option.some.inj this
   have hdep:∀ j∈dep i,j∈is∧bl'[j]? = some true:=fun j hj=>by
    obtain ⟨h1,e,he,hb,hj'⟩:=hM.deps j hj
    exact ⟨h1,by rw [← hj']; exact (hgt _).1 (hall e he hb)⟩
   let p:Nat→Bool:=Jdq is cs fun j=>decide (bl'[j]? = some true)
   -- nobody who is over waits for i
   have hno:∀ k∈is,bl'[k]? = some true→i ∉ dep k:=fun k hk hkt hik=>by
    have:=(hI.li k hk hkt).2.2 i hik
    rw [hif] at this; cases this
   have hpi:p i=false:=by simp [p,Jdq,hif]
   let q:Nat→Bool:=fun j=>decide (cs i=some j)
   have hpc:∀ c,cs i=some c→p c=true:=fun c hc=>by
    have hcd:=hdep c (hM.csd c hc)
    simp only [p,Jdq,hcd.2,decide_true,Bool.true_and,Bool.not_eq_true',List.any_eq_false,Bool.and_eq_true,decide_eq_true_eq,not_and]
    intro k hk hkt hck
    by_cases hki:k=i
    ·
     subst hki; rw [hif] at hkt; cases hkt
    exact (hM.inj k hk hki).2 c hc hck
   have e1:live is R vs (fun j=>p j && q j)=(match cs i with | some c=>R c (vs c) | none=>[]):=by
    cases hc:cs i with
    | none =>
     have:live is R vs (fun j=>p j && q j)=live is R vs fun _=>false:=Jbf fun j _=>⟨by simp [q,hc],fun _=>rfl⟩
     rw [this,Jey]
    | some c =>
     have:live is R vs (fun j=>p j && q j)=live is R vs fun j=>decide (j=c):=Jbf fun j _=>⟨by
      by_cases hjc:j=c
      ·
       subst hjc; simp [q,hc,hpc j hc]
      simp [q,hc,hjc,Ne.symm hjc],fun _=>rfl⟩
     rw [this,Je1 hnd (hdep c (hM.csd c hc)).1]
   have hst1:St n0 w0 ((match cs i with | some c=>R c (vs c) | none=>[])++(live is R vs (fun j=>p j && !q j)++L)) u':=by
    rw [← e1, ← List.append_assoc]
    exact hI'.st.perm (List.Perm.append_right _ (Jeh is R vs p q))
   have hW:=step i hin o ho (Exit.then (AH P ro ops (NP Q) C (fuel+n) (bl'.set i true).toArray) (NP Q)) vs l' (live is R vs (fun j=>p j && !q j)++L) hI.ln (fun j hj=>by
     have:=hI.li j (hdep j hj).1 (hdep j hj).2
     exact ⟨this.1,this.2.1⟩) hI.lo (fun v hv=>by
    intro u2 hu2
    refine ih (bl'.set i true) (l'.set (d i) v) (upd vs i v) u2 ?_ ?_
    ·
     have hilt:i < bl'.length:=(List.getElem?_eq_some_iff.1 hif).1
     have hbs:∀ k,(bl'.set i true)[k]? = some true ↔ (k=i∨bl'[k]? = some true):=fun k=>by
      by_cases hk:k=i
      ·
       subst hk; simp [hilt]
      rw [List.getElem?_set_ne (Ne.symm hk)]; simp [hk]
     refine ⟨by simpa using hI.bn,fun k hk=>?_,fun k hk=>?_,by simpa using hI.ln,fun k hk=>?_,fun j hj hjt=>?_,?_⟩
     ·
      rw [List.getElem?_set_ne (by rintro rfl; exact hk hin)]; exact hI.bo k hk
     ·
      by_cases hki:k=i
      ·
       subst hki; exact .inl ((hbs k).2 (.inl rfl))
      rw [List.getElem?_set_ne (Ne.symm hki)]; exact hI.bi k hk
     ·
      rw [List.getElem?_set_ne (hk i hin)]; exact hI.lo k hk
     ·
      by_cases hji:j=i
      ·
       subst hji
       refine ⟨by rw [List.getElem?_set_self (by rw [hI.ln]; exact hM.lt),Jg2],hv,fun k hk=>(hbs k).2 (.inr (hdep k hk).2)⟩
      have hjt':bl'[j]? = some true:=by rcases (hbs j).1 hjt with h | h; exact (hji h).elim; exact h
      obtain ⟨a1,a2,a3⟩:=hI.li j hj hjt'
      refine ⟨by rw [List.getElem?_set_ne (Ne.symm (hM.inj j hj hji).1),Jhy hji]; exact a1,?_,fun k hk=>(hbs k).2 (.inr (a3 k hk))⟩
      refine hV j hj vs _ (fun k hk=>?_) a2
      rw [Jhy]
      rintro rfl
      rcases List.mem_cons.1 hk with h | h
      ·
       exact hji h.symm
      exact hno j hj hjt' h
     let p':Nat→Bool:=Jdq is cs fun j=>decide ((bl'.set i true)[j]? = some true)
     have hp'i:p' i=true:=by
      simp only [p',Jdq,(hbs i).2 (.inl rfl),decide_true,Bool.true_and,Bool.not_eq_true',List.any_eq_false,Bool.and_eq_true,decide_eq_true_eq,not_and]
      intro k hk hkt hck
      obtain ⟨ok,hok'⟩:=Ja8 hok hk
      have hid:=hok'.csd i hck
      rcases (hbs k).1 hkt with h | h
      ·
       subst h
       have:=(hdep k hid).2
       rw [hif] at this; cases this
      exact hno k hk h hid
     have e2:live is R (upd vs i v) (fun j=>p' j && decide (j=i))=R i v:=by
      have:live is R (upd vs i v) (fun j=>p' j && decide (j=i))=live is R (upd vs i v) fun j=>decide (j=i):=Jbf fun j _=>⟨by
       by_cases hj:j=i
       ·
        subst hj; simp [hp'i]
       simp [hj],fun _=>rfl⟩
      rw [this,Je1 hnd hin,Jg2]
     have e3:live is R (upd vs i v) (fun j=>p' j && !decide (j=i))=live is R vs (fun j=>p j && !q j):=Jbf fun j hj=>by
      by_cases hji:j=i
      ·
       subst hji; simp [hpi]
      refine ⟨?_,fun _=>Jhy hji⟩
      have h1:decide ((bl'.set i true)[j]? = some true)=decide (bl'[j]? = some true):=by
       rw [List.getElem?_set_ne (Ne.symm hji)]
      have h2:(is.any fun k=>decide ((bl'.set i true)[k]? = some true) && decide (cs k=some j))=((is.any fun k=>decide (bl'[k]? = some true) && decide (cs k=some j)) || decide (cs i=some j)):=by
       rw [Bool.eq_iff_iff]
       simp only [List.any_eq_true,Bool.and_eq_true,Bool.or_eq_true,decide_eq_true_eq]
       constructor
       ·
        rintro ⟨k,hk,hkt,hck⟩
        rcases (hbs k).1 hkt with h | h
        ·
         subst h; exact .inr hck
        exact .inl ⟨k,hk,h,hck⟩
       rintro (⟨k,hk,hkt,hck⟩ | h)
       ·
        exact ⟨k,hk,(hbs k).2 (.inr hkt),hck⟩
       exact ⟨i,hin,(hbs i).2 (.inl rfl),h⟩
      simp only [p',p,q,Jdq,h1,h2,hji,decide_false,Bool.not_false,Bool.and_true,Bool.not_or,Bool.and_assoc]
     have hp:=List.Perm.append_right L (Jeh is R (upd vs i v) p' fun j=>decide (j=i))
     rw [e2,e3,List.append_assoc] at hp
     exact hu2.perm hp.symm
    have hf:(is.filter fun k=>decide (bl'[k]? = some false)).length=(is.filter fun k=>decide (bl'[k]? = some false) && !decide (k=i)).length+1:=Jhe hnd hin (by simp [hif])
    have:(is.filter fun k=>decide ((bl'.set i true)[k]? = some false))=is.filter fun k=>decide (bl'[k]? = some false) && !decide (k=i):=List.filter_congr fun k _=>by
     by_cases hki:k=i
     ·
      subst hki
      have hilt:k < bl'.length:=(List.getElem?_eq_some_iff.1 hif).1
      simp [hilt]
     rw [List.getElem?_set_ne (Ne.symm hki)]; simp [hki]
    rw [this]
    omega) 
   have h3:=Jbi ho (hW u' hst1)
   simpa using h3
 intro u hu
 have hfl:is.filter (fun k=>decide (bl[k]? = some false))=is:=List.filter_eq_self.2 fun k hk=>by
  obtain ⟨o,ho⟩:=Ja8 hok hk
  simp [ho.un]
 refine main is.length bl l (fun _=>undef) u ⟨rfl,fun _ _=>rfl,fun k hk=>?_,rfl,fun _ _=>rfl,fun j hj hjt=>?_,?_⟩ (by rw [hfl])
 ·
  obtain ⟨o,ho⟩:=Ja8 hok hk
  exact .inr ho.un
 ·
  obtain ⟨o,ho⟩:=Ja8 hok hj
  rw [ho.un] at hjt; cases hjt
 have:live is R (fun _=>undef) (Jdq is cs fun j=>decide (bl[j]? = some true))=live is R (fun _=>undef) fun _=>false:=Jbf fun j hj=>by
  obtain ⟨o,ho⟩:=Ja8 hok hj
  exact ⟨by simp [Jdq,ho.un],fun _=>rfl⟩
 rw [this,Jey]
 exact hu
end
section
variable {P:Program} {n0:Nat} {w0:World} {L:List SA} {l:List Value} {fn:Func}
theorem outR {R:Ending→World→Prop} {v:Value} (hr:Res P fn l L n0 w0 v) (hR:∀ u,St n0 w0 L u→R (.returned v) u):QS n0 w0 [] (bodyPost P fn R) .ret L l:=fun u hu=>⟨rfl,_,hr u hu,hR u hu⟩
theorem Jao {j b t:Nat} {ty e:TypeId} {c:List Value} (ht:l[t]? = some (.pointer (some ⟨b,0,none⟩))) (hj:L[j]? = some (blk b c e)) (hT:tk P ty=some (true,c.length)) :
  Rv P n0 w0 L l b t ty (.agg c.toArray):=⟨ht,fun u hu=>by
 have:=run_loadCells_list (P:=P) u ⟨b,0,none⟩ c fun j v h=>by rw [Jbd,Jbl (hu.blk hj).2]; simpa using h
 simp [loadVar,(Jby hT u).1,(Jby hT u).2,this]⟩
end
abbrev P3:=List Int × List Int × List Int
def Stt.x (z:Stt):P3:=(z.ths.l,z.prs.l,z.pls.l)
def Jfs (n:Nat) (c:List Lit):Prop:=∀ x∈c,0≤x.t∧x.t < n
def Jmf (aus:List Auto) (n:Nat):Prop:=∀ a∈aus,(0≤a.t∧a.t < n)∧Jfs n a.wh.l
structure ActIn (r:Room) (a:Actn):Prop where
 wh:Jfs r.ths.l.length a.wh.l
 pl:0≤a.pl∧a.pl < r.pls.l.length
 us:∀ x∈a.us.l,0≤x∧x < r.prs.l.length
 sp:∀ x∈a.sp.l,0≤x∧x < r.prs.l.length
 br:∀ x∈a.br.l,0≤x∧x < r.prs.l.length
 se:∀ x∈a.se.l,putB r.ths.l x.t x.s=true
 lus:a.us.l.length≤r.prs.l.length
 lsp:a.sp.l.length≤r.prs.l.length
 lbr:a.br.l.length≤r.prs.l.length
 lse:a.se.l.length≤6
structure Ready (r:Room):Prop where
 ply:1≤r.ply∧r.ply≤4
 lens:1≤r.pls.l.length∧r.pls.l.length≤8∧r.ths.l.length≤12∧r.prs.l.length≤10∧r.wys.l.length≤16∧r.acs.l.length≤24∧r.aus.l.length≤12
 ths:∀ x∈r.ths.l,thB r x=true
 aus:Jmf r.aus.l r.ths.l.length
 aut:∀ a∈r.aus.l,putB r.ths.l a.t a.s=true
 prs:∀ p∈r.prs.l,Jfs r.ths.l.length p.wh.l∧(p.pl = -1∨placeB r p.pl=true)
 wys:∀ x∈r.wys.l,Jfs r.ths.l.length x.wh.l∧(0≤x.a∧x.a < r.pls.l.length)∧(0≤x.b∧x.b < r.pls.l.length)
 acs:∀ a∈r.acs.l,ActIn r a
 gl:Jfs r.ths.l.length r.gl.l
theorem Jkr {r:Room} {n:Int} (h:placeB r n=true):0≤n∧n < r.pls.l.length:=by
 simp only [placeB,Bool.and_eq_true,decide_eq_true_eq] at h
 omega
structure StIn (r:Room) (x:P3):Prop where
 lt:x.1.length=r.ths.l.length
 lp:x.2.1.length=r.prs.l.length
 ll:(x.2.2.length:Int)=r.ply
 th:∀ i:Int,0≤i→i < x.1.length→putB r.ths.l i (nth x.1 i)=true
 pr:∀ i:Int,0≤i→i < x.2.1.length→(placeB r (nth x.2.1 i) || (decide (nth x.2.1 i = -1) || (decide (-2 - r.ply+1≤nth x.2.1 i) && decide (nth x.2.1 i ≤ -2))))=true
 pl:∀ i:Int,0≤i→i < x.2.2.length→placeB r (nth x.2.2 i)=true
theorem StIn.at {r:Room} {x:P3} (hI:StIn r x) {i:Int} (h0:0≤i) (h1:i < x.2.2.length):0≤nth x.2.2 i∧nth x.2.2 i < r.pls.l.length:=Jkr (hI.pl i h0 h1)
def oT {α:Type} (C:Cel α) (e:TypeId) (v:Value) (l:List α):SA:=osl e C.k v l.length (Jba C l)
section
variable {P:Program} {ro:Option Nat} {n0:Nat} {w0:World} {ds:List Deferred} {ops:Array Oper} {Q:Exit→Act→World→Prop} {L:List SA} {rest:List Oper} {l:List Value} {ty:TypeId} {ps:String} {af:Array Edge}
 {α:Type} {C:Cel α}
theorem WS.appendT1 {T e:TypeId} {by_ i j jz:Nat} {x y:Operand} {v z:Value} {a:α} {xs:List α} {zc:List Value} (hT:sl P T=some (e,C.k,by_)) (hz:zv P e=some zc) (hzl:zc.length=C.k) (hk:0 < C.k)
  (hx:evo l x=some v) (hj:L[j]? = some (oT C e v xs)) (hy:evo l y=some z) (hjz:L[jz]? = some (oT C e z [a])) {w:World} (h1:C.ok w a)
  (hm:xs.length+1≤9223372036854775807) (hb:(xs.length+1) * by_≤140737488355328)
  {l':Value→List Value} (hl:∀ v,lset l i v=some (l' v)) {L':Value→List SA} (hL:∀ v',lset L j (oT C e v' (xs++[a]))=some (L' v')) (k:∀ v',v'.oneCell'=true→WS P ro n0 w0 ds ops Q (L' v') rest (l' v')) :
  WS P ro n0 w0 ds ops Q L (⟨some i,.call ⟨.builtin .append, #[x,y], #[T,T]⟩,ty,ps,af,none⟩::rest) l:=by
 refine WS.append hT hz hzl hk hx hj hy (m:=1) (fun u hu=>Jbh hu hjz) (fun b hb'=>?_) hm hb hl (L':=L') (fun v'=>?_) fun v'=>?_
 ·
  rw [Jh8] at hb'; exact C.one w a h1 b hb'
 ·
  rw [← hL v',oT,Jik]; simp
 have hjl:=(List.getElem?_eq_some_iff.1 hj).1
 have h2:=(Jal (hL v')).symm
 refine WS.oc (j:=j) (v:=v') (e:=e) (k:=C.k) (n:=(xs++[a]).length) (xs:=Jba C (xs++[a])) (by rw [h2,List.getElem?_set_self hjl]; rfl) (k v')
theorem Jnv {u:World} {e:TypeId} {v:Value} {xs:List α} {j:Nat} (hu:St n0 w0 L u) (hj:L[j]? = some (oT C e v xs)) (hk:∀ a∈xs,C.ok u a):SlT C u ⟨v,xs⟩:=⟨Jbh hu hj,hk⟩
end
theorem RetF.toRo {w:World} {v:Value} {A:SA} {p:World→Prop} (hp:∀ S u,A.h S u→p u) {e:Ending} {u:World} (h:RetF w v A e u):RetF w v (roS p) e u:=by
 obtain ⟨h1,h2,T,h3,h4⟩:=h
 exact ⟨h1,h2,T,⟨fun u' hk=>hp T u' (A.loc T u u' h3 hk),fun k hS=>A.dom T u k h3 hS⟩,h4⟩
theorem RetF.now {w:World} {v:Value} {p:World→Prop} {e:Ending} {u:World} (h:RetF w v (roS p) e u):p u:=by
 obtain ⟨_,_,T,h3,_⟩:=h
 exact roS.now h3
theorem StIn.held {r:Room} {x:P3} (hI:StIn r x) {i:Int} (h0:0≤i) (h1:i < x.2.1.length) (h2:nth x.2.1 i ≤ -2):0 ≤ -2 - nth x.2.1 i ∧ -2 - nth x.2.1 i < x.2.2.length:=by
 have:=hI.pr i h0 h1
 have h3:=hI.ll
 simp only [placeB,Bool.or_eq_true,Bool.and_eq_true,decide_eq_true_eq] at this
 omega
theorem Jet {α β:Type} {f:α→β} {l l':List α} (h:l.map f=l'.map f):l.length=l'.length:=by
 have:=congrArg List.length h
 simpa using this
theorem Jgl {α β:Type} [Inhabited α] [Inhabited β] (f:α→β) (hd:f default=default) (l:List α) (i:Int):nth (l.map f) i=f (nth l i):=by
 unfold nth
 simp only [List.getD_eq_getElem?_getD,List.getElem?_map]
 cases h:l[i.toNat]? with
 | none=>simp [hd]
 | some a=>simp
structure Alike (c r:Room):Prop where
 pls:c.pls.l=r.pls.l
 ths:c.ths.l=r.ths.l
 lprs:c.prs.l.length=r.prs.l.length
 prs:c.prs.l.map Pro.e=r.prs.l.map Pro.e
 pr:∀ i,(nth c.prs.l i).nm=(nth r.prs.l i).nm∧(nth c.prs.l i).pl=(nth r.prs.l i).pl∧(nth c.prs.l i).wh.l=(nth r.prs.l i).wh.l
 lwys:c.wys.l.length=r.wys.l.length
 wy:∀ i,(nth c.wys.l i).a=(nth r.wys.l i).a∧(nth c.wys.l i).b=(nth r.wys.l i).b∧(nth c.wys.l i).wh.l=(nth r.wys.l i).wh.l
 lacs:c.acs.l.length=r.acs.l.length
 acs:c.acs.l.map Actn.e=r.acs.l.map Actn.e
 ac:∀ i,(nth c.acs.l i).e=(nth r.acs.l i).e
 laus:c.aus.l.length=r.aus.l.length
 aus:c.aus.l.map Auto.e=r.aus.l.map Auto.e
 au:∀ i,(nth c.aus.l i).t=(nth r.aus.l i).t∧(nth c.aus.l i).s=(nth r.aus.l i).s∧(nth c.aus.l i).wh.l=(nth r.aus.l i).wh.l
 ply:c.ply=r.ply
 gl:c.gl.l=r.gl.l
theorem Jhs {α:Type} {a b:Sl α} (h:a.e (id:α→α)=b.e id):a.l=b.l:=by
 have:=congrArg Sl.l h
 simpa [Sl.e] using this
theorem Jb5 {α β:Type} {f:α→β} {a b:Sl α} (h:a.e f=b.e f):a.l.map f=b.l.map f:=congrArg Sl.l h
theorem Jj8 {α β:Type} [Inhabited α] [Inhabited β] {f:α→β} (hd:f default=default) {l m:List α} (h:l.map f=m.map f) (i:Int):f (nth l i)=f (nth m i):=by
 rw [← Jgl f hd, ← Jgl f hd,h]
theorem Jof {c r:Room} (h:c.e=r.e):Alike c r:=by
 have h1:c.pls.e id=r.pls.e id:=congrArg Room.pls h
 have h2:c.ths.e id=r.ths.e id:=congrArg Room.ths h
 have h3:c.prs.e Pro.e=r.prs.e Pro.e:=congrArg Room.prs h
 have h4:c.wys.e Way.e=r.wys.e Way.e:=congrArg Room.wys h
 have h5:c.acs.e Actn.e=r.acs.e Actn.e:=congrArg Room.acs h
 have h6:c.aus.e Auto.e=r.aus.e Auto.e:=congrArg Room.aus h
 have h7:c.gl.e id=r.gl.e id:=congrArg Room.gl h
 refine ⟨Jhs h1,Jhs h2,Jet (Jb5 h3),Jb5 h3,fun i=>?_,Jet (Jb5 h4),fun i=>?_,Jet (Jb5 h5),Jb5 h5,fun i=>Jj8 (f:=Actn.e) rfl (Jb5 h5) i,Jet (Jb5 h6),Jb5 h6,fun i=>?_,(by have:=congrArg Room.ply h; exact this),Jhs h7⟩
 ·
  have:=Jj8 (f:=Pro.e) rfl (Jb5 h3) i
  have a1:=congrArg Pro.nm this
  have a2:=congrArg Pro.pl this
  have a3:=congrArg Pro.wh this
  exact ⟨a1,a2,Jhs a3⟩
 ·
  have:=Jj8 (f:=Way.e) rfl (Jb5 h4) i
  have a1:=congrArg Way.a this
  have a2:=congrArg Way.b this
  have a3:=congrArg Way.wh this
  exact ⟨a1,a2,Jhs a3⟩
 have:=Jj8 (f:=Auto.e) rfl (Jb5 h6) i
 have a1:=congrArg Auto.t this
 have a2:=congrArg Auto.s this
 have a3:=congrArg Auto.wh this
 exact ⟨a1,a2,Jhs a3⟩
theorem Alike.placeB {c r:Room} (h:Alike c r) (n:Int):placeB c n=placeB r n:=by unfold Go.Proofs.YtdpbapffdmahnaaGreatDoor.placeB; rw [h.pls]
theorem Alike.symm {c r:Room} (h:c.e=r.e):Alike r c:=Jof h.symm
theorem bq:(∀ (p:Prop) [Decidable p],(decide p=true)=p)∧(∀ (p:Prop) [Decidable p],(decide p=false)=¬ p)∧(∀ a b:Bool,((a && b)=true)=(a=true∧b=true))∧(∀ a b:Bool,((a || b)=true)=(a=true∨b=true)) ∧
  (∀ a b:Bool,((a && b)=false)=(a=false∨b=false))∧(∀ a b:Bool,((a || b)=false)=(a=false∧b=false))∧(∀ a:Bool,((!a)=true)=(a=false))∧(∀ a:Bool,((!a)=false)=(a=true))∧(∀ (α:Type) (a b:α),(a≠b)=¬ a=b)∧(∀ p:Prop,[Decidable p]→(¬ ¬ p)=p) ∧
  ((!true)=false)∧((!false)=true)∧(∀ (α:Type) [BEq α] [LawfulBEq α] (a b:α),((a != b)=true)=¬ a=b)∧(∀ (α:Type) [BEq α] [LawfulBEq α] (a b:α),((a != b)=false)=(a=b))∧(∀ (α:Type) [BEq α] [LawfulBEq α] (a b:α),((a == b)=true)=(a=b))∧(∀ (α:Type) [BEq α] [LawfulBEq α] (a b:α),((a == b)=false)=¬ a=b):=by
 refine ⟨fun p _=>by simp,fun p _=>by simp,fun a b=>by simp,fun a b=>by simp,fun a b=>by cases a <;> cases b <;> simp,fun a b=>by simp,fun a=>by simp,fun a=>by simp,fun α a b=>by simp,fun p=>by simp [Decidable.not_not],rfl,rfl,fun α _ _ a b=>by simp,fun α _ _ a b=>by simp,fun α _ _ a b=>by simp,fun α _ _ a b=>by simp⟩
inductive Tb (α:Type) where
 | o
 | n (l:Tb α) (k:Nat) (v:α) (r:Tb α)
def Tb.get {α:Type}:Tb α→Nat→Option α
 | .o,_=>none
 | .n l k v r,i=>match Nat.blt i k with
  | true=>l.get i
  | false=>match Nat.beq i k with
   | true=>some v
   | false=>r.get i
def Tb.all {α:Type} (p:Nat→α→Bool):Tb α→Bool
 | .o=>true
 | .n l k v r=>l.all p && p k v && r.all p
theorem Tb.get_all {α:Type} {p:Nat→α→Bool}:∀ {t:Tb α} {i:Nat} {v:α},t.all p=true→t.get i=some v→p i v=true
 | .o,_,_,_,h=>by simp [Tb.get] at h
 | .n l k x r,i,v,ha,h=>by
  simp only [Tb.all,Bool.and_eq_true] at ha
  unfold Tb.get at h
  split at h
  ·
   exact Tb.get_all ha.1.1 h
  split at h
  ·
   rename_i hb
   have:i=k:=Nat.eq_of_beq_eq_true hb
   cases h
   subst this
   exact ha.1.2
  exact Tb.get_all ha.2 h
class Fx (P:Program) where
 ft:Tb (List Nat)
 kt:Tb (Bool × Nat)
 st:Tb (TypeId × Nat × Nat)
 fk:ft.all (fun T l=>l.zipIdx.all fun x=>fo P T x.2 == some x.1)=true
 kk:kt.all (fun T r=>tk P T == some r)=true
 sk:st.all (fun T r=>sl P T == some r)=true
def fof (P:Program) [F:Fx P] (T i:Nat):Option Nat:=match F.ft.get T with
 | some l=>l[i]?
 | none=>none
def tkf (P:Program) [F:Fx P] (T:Nat):Option (Bool × Nat):=F.kt.get T
def slf (P:Program) [F:Fx P] (T:Nat):Option (TypeId × Nat × Nat):=F.st.get T
section
variable {P:Program} [Fx P]
theorem Jk5 {T i m:Nat} (h:fof P T i=some m):fo P T i=some m:=by
 unfold fof at h
 split at h
 ·
  rename_i l hl
  have h1:=Tb.get_all (Fx.fk (P:=P)) hl
  rw [List.all_eq_true] at h1
  have h2:=h1 (m,i) (by rw [List.mk_mem_zipIdx_iff_getElem?]; exact h)
  simpa using h2
 simp at h
theorem Jct {T:Nat} {r:Bool × Nat} (h:tkf P T=some r):tk P T=some r:=by
 have:=Tb.get_all (Fx.kk (P:=P)) h
 simpa using this
theorem Jec {T:Nat} {r:TypeId × Nat × Nat} (h:slf P T=some r):sl P T=some r:=by
 have:=Tb.get_all (Fx.sk (P:=P)) h
 simpa using this
end
def ikq:IntKind→IntKind→Bool
 | .i64,.i64=>true
 | .u8,.u8=>true
 | .i32,.i32=>true
 | _,_=>false
theorem Jnu {a b:IntKind} (h:ikq a b=true):a=b:=by cases a <;> cases b <;> first | rfl | cases h
def cmpf:BinOp→Int→Int→Option Bool
 | .eql,a,b=>some (decide (a=b))
 | .neq,a,b=>some (decide (a≠b))
 | .lss,a,b=>some (decide (a < b))
 | .leq,a,b=>some (decide (a≤b))
 | .gtr,a,b=>some (decide (b < a))
 | .geq,a,b=>some (decide (b≤a))
 | _,_,_=>none
def fv (P:Program) [Fx P] (l:List Value):Op→Option Value
 | .move x=>evo l x
 | .assign x=>evo l x
 | .fieldAddr T x f=>match evo l x with
  | some (.pointer (some ⟨b,o,none⟩))=>match fof P T f with
   | some m=>some (.pointer (some ⟨b,o+m,none⟩))
   | none=>none
  | _=>none
 | .binOp k _ x y _=>match evo l x,evo l y with
  | some (.int i a),some (.int j b)=>match ikq i j with
   | true=>match cmpf k a b with
    | some r=>some (.bool r)
    | none=>none
   | false=>none
  | _,_=>none
 | .unOp .not _ x=>match evo l x with
  | some (.bool a)=>some (.bool (!a))
  | _=>none
 | .extract x i=>match evo l x with
  | some (.tuple ⟨vs⟩)=>vs[i]?
  | _=>none
 | .nilCheck x=>match evo l x with
  | some (.pointer (some a))=>some (.pointer (some a))
  | _=>none
 | _=>none
def runF (P:Program) [Fx P]:Nat→List Oper→List Value→Option (List Oper × List Value)
 | 0,ops,l=>some (ops,l)
 | n+1,⟨some d,op,_,_,_,none⟩::ops,l=>match fv P l op with
  | some v=>match lset l d v with
   | some l'=>runF P n ops l'
   | none=>none
  | none=>none
 | _,_,_=>none
section
variable {P:Program} [Fx P] {C:World→Prop} {l:List Value} {d:Option Tmp} {ty:TypeId} {ps:String} {af:Array Edge} {g:Option (Nat × Bool)}
theorem Jgt {op:Op} {v:Value} (h:fv P l op=some v):Det P C ⟨d,op,ty,ps,af,g⟩ l v:=by
 unfold fv at h
 split at h
 ·
  exact Je3 h
 ·
  exact Jep h
 ·
  split at h
  ·
   rename_i b o hx
   split at h
   ·
    rename_i m hm
    cases h
    exact Jcl hx (Jk5 hm)
   cases h
  cases h
 ·
  split at h
  ·
   rename_i i a j b hx hy
   split at h
   ·
    rename_i hk
    have:=Jnu hk
    subst this
    split at h
    ·
     rename_i r hr
     cases h
     unfold cmpf at hr
     split at hr
     ·
      cases hr; exact Jkz hx hy
     ·
      cases hr; exact Jk0 hx hy
     ·
      cases hr; exact Jnt hx hy
     ·
      cases hr; exact Jkw hx hy
     ·
      cases hr; exact Jk4 hx hy
     ·
      cases hr; exact Jnm hx hy
     cases hr
    cases h
   cases h
  cases h
 ·
  split at h
  ·
   rename_i a hx
   cases h
   exact Jgb hx
  cases h
 ·
  split at h
  ·
   rename_i vs hx
   exact Jgi (vs:=vs) hx h
  cases h
 ·
  split at h
  ·
   rename_i a hx
   cases h
   exact Jfo hx
  cases h
 cases h
theorem Jlu {op:Op} {v:Value} (h:fv P l op=some v):calm op=true:=by
 cases op <;> first | rfl | (simp [fv] at h)
end
section
variable {P:Program} [Fx P] {ro:Option Nat} {n0:Nat} {w0:World} {ds:List Deferred} {ops:Array Oper} {Q:Exit→Act→World→Prop} {L:List SA} {C:World→Prop}
theorem Wz:∀ (n:Nat) {rest rest':List Oper} {l l':List Value} (k:WS P ro n0 w0 ds ops Q L rest' l') (h:runF P n rest l=some (rest',l'):=by exact rfl),WS P ro n0 w0 ds ops Q L rest l
 | 0,_,_,_,_,k,h=>by cases h; exact k
 | n+1,rest,rest',l,l',k,h=>by
  unfold runF at h
  split at h
  ·
   cases h; exact k
  ·
   rename_i n' d op ty ps af os l0 hn
   cases hn
   split at h
   ·
    rename_i v hv
    split at h
    ·
     rename_i l1 hl
     exact WS.det (Jlu hv) rfl rfl (Jgt hv) hl (Wz n k h)
    cases h
   cases h
  cases h
theorem Dz:∀ (n:Nat) {rest rest':List Oper} {l l':List Value} (k:DS P n0 w0 ds ops Q L rest' l') (h:runF P n rest l=some (rest',l'):=by exact rfl),DS P n0 w0 ds ops Q L rest l
 | 0,_,_,_,_,k,h=>by cases h; exact k
 | n+1,rest,rest',l,l',k,h=>by
  unfold runF at h
  split at h
  ·
   cases h; exact k
  ·
   rename_i n' d op ty ps af os l0 hn
   cases hn
   split at h
   ·
    rename_i v hv
    split at h
    ·
     rename_i l1 hl
     exact DS.det rfl rfl (Jgt hv) hl (Dz n k h)
    cases h
   cases h
  cases h
variable {rest rest':List Oper} {l l' l'':List Value} {o:Oper} {d j s:Nat} {v:Value} {b c x want:Bool} {bl bl' bl'':List Bool} {fuel fuel' na:Nat}
theorem Wk (n:Nat) (h:Det P (St n0 w0 L) o l v) (k:WS P ro n0 w0 ds ops Q L rest' l'') (hc:calm o.op=true:=by exact rfl) (hd:o.dst=some d:=by exact rfl) (hg:o.guard=none:=by exact rfl) (hl:lset l d v=some l':=by exact rfl) (hr:runF P n rest l'=some (rest',l''):=by exact rfl):WS P ro n0 w0 ds ops Q L (o::rest) l:=WS.det hc hd hg h hl (Wz n k hr)
theorem Wt (n:Nat) (hg:o.guard=some (j,true)) (hb:yielded ops l.toArray j=some b) (h:b=true→Det P (St n0 w0 L) o l v) (k:WS P ro n0 w0 ds ops Q L rest' l'') (hc:calm o.op=true:=by exact rfl) (hd:o.dst=some d:=by exact rfl) (hl:lset l d (cond b v undef)=some l':=by exact rfl) (hr:runF P n rest l'=some (rest',l''):=by exact rfl):WS P ro n0 w0 ds ops Q L (o::rest) l:=WS.guardT hc hd hg hb h hl (Wz n k hr)
theorem Wf (n:Nat) (hg:o.guard=some (j,false)) (hb:yielded ops l.toArray j=some b) (h:(!b)=true→Det P (St n0 w0 L) o l v) (k:WS P ro n0 w0 ds ops Q L rest' l'') (hc:calm o.op=true:=by exact rfl) (hd:o.dst=some d:=by exact rfl) (hl:lset l d (cond (!b) v undef)=some l':=by exact rfl) (hr:runF P n rest l'=some (rest',l''):=by exact rfl):WS P ro n0 w0 ds ops Q L (o::rest) l:=WS.guardF hc hd hg hb h hl (Wz n k hr)
theorem Wn (n:Nat) (hg:o.guard=some (j,want)) (hs:(ops[j]?).bind (·.dst)=some s) (hv:l[s]? = some (cond c (.bool x) undef)) (h:(c && (x == want))=true→Det P (St n0 w0 L) o l v) (k:WS P ro n0 w0 ds ops Q L rest' l'') (hc:calm o.op=true:=by exact rfl) (hd:o.dst=some d:=by exact rfl) (hl:lset l d (cond (c && (x == want)) v undef)=some l':=by exact rfl) (hr:runF P n rest l'=some (rest',l''):=by exact rfl):WS P ro n0 w0 ds ops Q L (o::rest) l:=WS.guardN hc hd hg hs hv h hl (Wz n k hr)
theorem Dk (n:Nat) (h:Det P (St n0 w0 L) o l v) (k:DS P n0 w0 ds ops Q L rest' l'') (hd:o.dst=some d:=by exact rfl) (hg:o.guard=none:=by exact rfl) (hl:lset l d v=some l':=by exact rfl) (hr:runF P n rest l'=some (rest',l''):=by exact rfl):DS P n0 w0 ds ops Q L (o::rest) l:=DS.det hd hg h hl (Dz n k hr)
theorem Dt (n:Nat) (hg:o.guard=some (j,true)) (hb:yielded ops l.toArray j=some b) (h:b=true→Det P (St n0 w0 L) o l v) (k:DS P n0 w0 ds ops Q L rest' l'') (hd:o.dst=some d:=by exact rfl) (hl:lset l d (cond b v undef)=some l':=by exact rfl) (hr:runF P n rest l'=some (rest',l''):=by exact rfl):DS P n0 w0 ds ops Q L (o::rest) l:=DS.guardT hd hg hb h hl (Dz n k hr)
def asOk (ops:Array Oper):List Nat→List Bool→Bool
 | [],_=>true
 | i::is,bl=>Region.free .any ops bl.toArray i && (Region.ready .any ops bl.toArray).contains i && asOk ops is (bl.set i true)
def atOk (ops:Array Oper) (na s:Nat):List Nat→List Bool→Bool
 | [],_=>true
 | i::is,bl=>Jfx ops na i s && !(i == s) && Jez ops bl.toArray && Region.free .any ops bl.toArray i && (Region.ready .any ops bl.toArray).contains i && atOk ops na s is (bl.set i true)
def runA (P:Program) [Fx P] (ops:Array Oper):List Nat→Nat→List Bool→List Value→Option (Nat × List Bool × List Value)
 | [],f,bl,l=>some (f,bl,l)
 | i::is,f+1,bl,l=>match ops[i]? with
  | some ⟨some d,op,_,_,_,none⟩=>match fv P l op with
   | some v=>match lset l d v with
    | some l'=>match lset bl i true with
     | some bl'=>runA P ops is f bl' l'
     | none=>none
    | none=>none
   | none=>none
  | _=>none
 | _,_,_,_=>none
theorem Az (hcalm:Ja5 ops=true):∀ (is:List Nat) {fuel fuel':Nat} {bl bl':List Bool} {l l':List Value} (hk:asOk ops is bl=true) (k:AS P ro n0 w0 ds ops Q C L fuel' bl' l')
  (h:runA P ops is fuel bl l=some (fuel',bl',l')),AS P ro n0 w0 ds ops Q C L fuel bl l
 | [],_,_,_,_,_,_,_,k,h=>by cases h; exact k
 | i::is,fuel,fuel',bl,bl',l,l',hk,k,h=>by
  unfold runA at h
  split at h
  ·
   rename_i he; cases he
  ·
   rename_i i' is' f bl0 l0 he
   cases he
   simp only [asOk,Bool.and_eq_true] at hk
   split at h
   ·
    rename_i d op ty ps af ho
    split at h
    ·
     rename_i v hv
     split at h
     ·
      rename_i l1 hl
      split at h
      ·
       rename_i bl1 hb
       have hb1:=Jal hb
       exact AS.take i ho hcalm hk.1.1 hk.1.2 rfl rfl (Jgt hv) hb hl (Az hcalm is (by rw [← hb1]; exact hk.2) k h)
      cases h
     cases h
    cases h
   cases h
  cases h
theorem Tz (hcalm:Ja5 ops=true) {na s:Nat}:∀ (is:List Nat) {fuel fuel':Nat} {bl bl':List Bool} {l l':List Value} (hk:atOk ops na s is bl=true) (k:AT P ro n0 w0 ds ops Q C s L fuel' bl' l')
  (h:runA P ops is fuel bl l=some (fuel',bl',l')),AT P ro n0 w0 ds ops Q C s L fuel bl l
 | [],_,_,_,_,_,_,_,k,h=>by cases h; exact k
 | i::is,fuel,fuel',bl,bl',l,l',hk,k,h=>by
  unfold runA at h
  split at h
  ·
   rename_i he; cases he
  ·
   rename_i i' is' f bl0 l0 he
   cases he
   simp only [atOk,Bool.and_eq_true] at hk
   split at h
   ·
    rename_i d op ty ps af ho
    split at h
    ·
     rename_i v hv
     split at h
     ·
      rename_i l1 hl
      split at h
      ·
       rename_i bl1 hb
       have hb1:=Jal hb
       exact AT.take i ho hcalm hk.1.1.1.1.1 (by simpa using hk.1.1.1.1.2) hk.1.1.1.2 hk.1.1.2 hk.1.2 rfl rfl (Jgt hv) hb hl (Tz hcalm is (by rw [← hb1]; exact hk.2) k h)
      cases h
     cases h
    cases h
   cases h
  cases h
theorem Ar (is:List Nat) (k:AS P ro n0 w0 ds ops Q C L fuel' bl' l') (hcalm:Ja5 ops=true:=by kernel_rfl) (hk:asOk ops is bl=true:=by kernel_rfl) (h:runA P ops is fuel bl l=some (fuel',bl',l'):=by exact rfl):AS P ro n0 w0 ds ops Q C L fuel bl l:=Az hcalm is hk k h
theorem Ak (i:Nat) (is:List Nat) (hi:ops[i]? = some o) (h:Det P C o l v) (k:AS P ro n0 w0 ds ops Q C L fuel' bl'' l'') (hcalm:Ja5 ops=true:=by kernel_rfl) (hk:asOk ops (i::is) bl=true:=by kernel_rfl)
  (hd:o.dst=some d:=by exact rfl) (hg:o.guard=none:=by exact rfl) (hb:lset bl i true=some bl':=by exact rfl) (hl:lset l d v=some l':=by exact rfl) (hr:runA P ops is fuel bl' l'=some (fuel',bl'',l''):=by exact rfl):AS P ro n0 w0 ds ops Q C L (fuel+1) bl l:=by
 simp only [asOk,Bool.and_eq_true] at hk
 exact AS.take i hi hcalm hk.1.1 hk.1.2 hd hg h hb hl (Az hcalm is (by rw [← Jal hb]; exact hk.2) k hr)
theorem Tr (na:Nat) (is:List Nat) (k:AT P ro n0 w0 ds ops Q C s L fuel' bl' l') (hcalm:Ja5 ops=true:=by kernel_rfl) (hk:atOk ops na s is bl=true:=by kernel_rfl) (h:runA P ops is fuel bl l=some (fuel',bl',l'):=by exact rfl):AT P ro n0 w0 ds ops Q C s L fuel bl l:=Tz hcalm is hk k h
theorem Tk (na i:Nat) (is:List Nat) (hi:ops[i]? = some o) (h:Det P C o l v) (k:AT P ro n0 w0 ds ops Q C s L fuel' bl'' l'') (hcalm:Ja5 ops=true:=by kernel_rfl) (hk:atOk ops na s (i::is) bl=true:=by kernel_rfl)
  (hd:o.dst=some d:=by exact rfl) (hg:o.guard=none:=by exact rfl) (hb:lset bl i true=some bl':=by exact rfl) (hl:lset l d v=some l':=by exact rfl) (hr:runA P ops is fuel bl' l'=some (fuel',bl'',l''):=by exact rfl):AT P ro n0 w0 ds ops Q C s L (fuel+1) bl l:=by
 simp only [atOk,Bool.and_eq_true] at hk
 exact AT.take i hi hcalm hk.1.1.1.1.1 (by simpa using hk.1.1.1.1.2) hk.1.1.1.2 hk.1.1.2 hk.1.2 hd hg h hb hl (Tz hcalm is (by rw [← Jal hb]; exact hk.2) k hr)
theorem Dr {id:Nat} {os:List Oper} (hm:P.follows .mixedOrders=true) (n:Nat) (k:DS P n0 w0 ds os.toArray Q L rest' l') (hr:runF P n os l=some (rest',l'):=by exact rfl) (hB:Region.lexB .any os.toArray=true:=by kernel_rfl) (hcalm:Ja5 os.toArray=true:=by kernel_rfl) :
  CS P ro n0 w0 ds (.region id os.toArray true) Q L l:=CS.draw hm hB hcalm (Dz n k hr)
end
section
variable {P:Program} {ro:Option Nat} {n0:Nat} {w0:World} {ds:List Deferred} {ops:Array Oper} {Q:Exit→Act→World→Prop} {L:List SA} {C:World→Prop} {l:List Value} {o:Oper} {s:Nat} {bl bl':List Bool} {fuel:Nat}
theorem Ao (i:Nat) (hi:ops[i]? = some o) (k:WS P ro n0 w0 ds ops (Exit.then (AH P ro ops (NP Q) C fuel bl'.toArray) (NP Q)) L [o] l) (hr:Region.ready .any ops bl.toArray=[i]:=by kernel_rfl)
  (hC:∀ u,St n0 w0 L u→C u:=by first | exact fun _ h=>h | exact fun _ h=>h.sub (by repeat first | exact List.Sublist.refl _ | apply List.Sublist.cons_cons | apply List.Sublist.cons)) (hb:lset bl i true=some bl':=by exact rfl):AS P ro n0 w0 ds ops Q C L (fuel+1) bl l:=AS.one hr hi hC hb k
theorem Ae (k:QS n0 w0 ds Q .normal L l) (hr:Region.ready .any ops bl.toArray=[]:=by kernel_rfl)
  (hC:∀ u,St n0 w0 L u→C u:=by first | exact fun _ h=>h | exact fun _ h=>h.sub (by repeat first | exact List.Sublist.refl _ | apply List.Sublist.cons_cons | apply List.Sublist.cons)):AS P ro n0 w0 ds ops Q C L 0 bl l:=AS.done hr hC k
theorem To (i:Nat) (hi:ops[i]? = some o) (k:WS P ro n0 w0 ds ops (Exit.then (AZ P ro ops (NP Q) C s fuel bl'.toArray) (NP Q)) L [o] l) (hr:Region.ready .any ops bl.toArray=[i]:=by kernel_rfl)
  (hC:bl.toArray.getD s true=false→∀ u,St n0 w0 L u→C u:=by first | (intro h; exact absurd h (by decide)) | exact fun _ _ h=>h | exact fun _ _ h=>h.sub (by repeat first | exact List.Sublist.refl _ | apply List.Sublist.cons_cons | apply List.Sublist.cons)) (hb:lset bl i true=some bl':=by exact rfl):AT P ro n0 w0 ds ops Q C s L (fuel+1) bl l:=AT.one hr hi hC hb k
theorem Te (k:QS n0 w0 ds Q .normal L l) (hr:Region.ready .any ops bl.toArray=[]:=by kernel_rfl)
  (hC:bl.toArray.getD s true=false→∀ u,St n0 w0 L u→C u:=by first | (intro h; exact absurd h (by decide)) | exact fun _ _ h=>h | exact fun _ _ h=>h.sub (by repeat first | exact List.Sublist.refl _ | apply List.Sublist.cons_cons | apply List.Sublist.cons)):AT P ro n0 w0 ds ops Q C s L 0 bl l:=AT.done hr hC k
end
section
variable {P:Program} {C:World→Prop} {l:List Value} {d:Option Tmp} {ty:TypeId} {ps:String} {af:Array Edge} {g:Option (Nat × Bool)} {v:Value}
theorem op_ {x:Operand} (h:evo l x=some v:=by first | rfl | exact Jfw (by assumption) rfl | exact Jfw (Joj (by assumption)) rfl):evo l x=some v:=h
variable {n0:Nat} {w0:World} {L:List SA} {T T' e e':TypeId} {x y z:Operand} {i b o a k q q' m n:Nat} {c cs:List Value} {vv:Value} {xs:List Int} {ii aa bb:Int} {w:World} {ik:IntKind} {ba bc br:Bool}
theorem Fm (h:evo l x=some v:=by exact op_):Det P C ⟨d,.move x,ty,ps,af,g⟩ l v:=Je3 h
theorem Fq (hx:evo l x=some (.int ik aa):=by exact op_) (hy:evo l y=some (.int ik bb):=by exact op_):Det P C ⟨d,.binOp .eql T x y T',ty,ps,af,g⟩ l (.bool (decide (aa=bb))):=Jkz hx hy
theorem Fr (hx:evo l x=some (.int ik aa):=by exact op_) (hy:evo l y=some (.int ik bb):=by exact op_):Det P C ⟨d,.binOp .neq T x y T',ty,ps,af,g⟩ l (.bool (decide (aa≠bb))):=Jk0 hx hy
theorem Fk (hx:evo l x=some (.int ik aa):=by exact op_) (hy:evo l y=some (.int ik bb):=by exact op_):Det P C ⟨d,.binOp .leq T x y T',ty,ps,af,g⟩ l (.bool (decide (aa≤bb))):=Jkw hx hy
theorem Fg (hx:evo l x=some (.int ik aa):=by exact op_) (hy:evo l y=some (.int ik bb):=by exact op_):Det P C ⟨d,.binOp .gtr T x y T',ty,ps,af,g⟩ l (.bool (decide (bb < aa))):=Jk4 hx hy
theorem Fn (hx:evo l x=some (.bool ba):=by exact op_):Det P C ⟨d,.unOp .not T x,ty,ps,af,g⟩ l (.bool (!ba)):=Jgb hx
theorem Pa (hc:evo l x=some (.bool bc):=by exact op_) (hx:evo l y=some (cond bc (.bool br) undef):=by exact rfl) (hy:evo l z=some (.bool false):=by exact rfl):Det P C ⟨d,.pick x y z,ty,ps,af,g⟩ l (.bool (bc && br)):=Jbt hc hx hy
theorem Po (hc:evo l x=some (.bool bc):=by exact op_) (hy:evo l z=some (cond (!bc) (.bool br) undef):=by exact rfl) (hx:evo l y=some (.bool true):=by exact rfl):Det P C ⟨d,.pick x y z,ty,ps,af,g⟩ l (.bool (bc || br)):=Jgg hc hy hx
theorem Za (hx:evo l x=some (.int .i64 aa):=by exact op_) (hy:evo l y=some (.int .i64 bb):=by exact op_) (h : -9223372036854775808≤aa+bb∧aa+bb≤9223372036854775807:=by (try simp only [bq] at hg); omega):Det P C ⟨d,.binOp .add T x y T',ty,ps,af,g⟩ l (.int .i64 (aa+bb)):=Jl5 hx hy h
theorem Zb (hx:evo l x=some (.int .i64 aa):=by exact op_) (hy:evo l y=some (.int .i64 bb):=by exact op_) (h : -9223372036854775808≤aa - bb∧aa - bb≤9223372036854775807:=by (try simp only [bq] at hg); omega):Det P C ⟨d,.binOp .sub T x y T',ty,ps,af,g⟩ l (.int .i64 (aa - bb)):=Jf9 hx hy h
theorem Zc (hx:evo l x=some (.int .i64 aa):=by exact op_) (hy:evo l y=some (.int .i64 bb):=by exact op_) (h : -9223372036854775808≤aa * bb∧aa * bb≤9223372036854775807:=by (try simp only [bq] at hg); omega):Det P C ⟨d,.binOp .mul T x y T',ty,ps,af,g⟩ l (.int .i64 (aa * bb)):=Jlm hx hy h
theorem Db {pl:List (Nat × Operand)} {pls:List (Nat × Nat)} {zs:List Value} {parts:List (Nat × Value)} (hp:plc P T=some pls) (hz:zv P T=some zs) (hv:evp l pl=some parts:=by exact rfl) (hb:bld pls zs parts=some cs:=by exact rfl)
  (h1:∀ p∈parts,p.2.oneCell'=true:=by first | (simp [Value.oneCell']; done) | ((repeat (refine List.forall_mem_cons.2 ⟨by first | rfl | assumption,?_⟩)); exact fun _ h=>absurd h List.not_mem_nil)):Det P C ⟨d,.build T pl.toArray,ty,ps,af,g⟩ l (.agg cs.toArray):=Jhj hp hz hv hb h1
theorem Cb {f:Operand} {args:List Operand} {ts:Array TypeId} {fn:FuncId} {cap:List Value} {vs:List Value} (hf:evo l f=some (.func (.func fn) #[] cap.toArray)) (hv:evs l args=some vs) (he:Ent P fn)
  (hc:∀ u,St n0 w0 L u→Calls P fn (vs++cap).toArray u (RetB u v)):Det P (St n0 w0 L) ⟨d,.call ⟨.value f,args.toArray,ts⟩,ty,ps,af,g⟩ l v:=Ji2 hf hv he hc
end
section
variable {P:Program} [Fx P] {C:World→Prop} {l:List Value} {d:Option Tmp} {ty:TypeId} {ps:String} {af:Array Edge} {g:Option (Nat × Bool)} {v:Value}
variable {n0:Nat} {w0:World} {L:List SA} {T T' e e':TypeId} {x y z:Operand} {i b o a k q q' m n:Nat} {c cs:List Value} {vv:Value} {xs:List Int} {ii aa bb:Int} {w:World} {ik:IntKind} {ba bc br:Bool}
theorem Ff {f:Nat} (hx:evo l x=some (.pointer (some ⟨b,o,none⟩)):=by exact op_) (hf:fof P T f=some m:=by exact rfl):Det P C ⟨d,.fieldAddr T x f,ty,ps,af,g⟩ l (.pointer (some ⟨b,o+m,none⟩)):=Jcl hx (Jk5 hf)
theorem Ba (j:Nat) (hx:evo l x=some (.pointer (some ⟨b,i,none⟩)):=by exact op_) (hj:L[j]? = some (blk b c e):=by exact rfl) (hv:c[i]? = some v:=by exact rfl) (hT:tkf P T=some (false,k):=by exact rfl):Det P (St n0 w0 L) ⟨d,.load T x,ty,ps,af,g⟩ l v:=Jad hx hj hv (Jct hT)
theorem Bb (j:Nat) (hx:evo l x=some (.pointer (some ⟨b,0,none⟩)):=by exact op_) (hj:L[j]? = some (blk b c e):=by exact rfl) (hT:tkf P T=some (true,c.length):=by exact rfl):Det P (St n0 w0 L) ⟨d,.load T x,ty,ps,af,g⟩ l (.agg c.toArray):=Jab hx hj (Jct hT)
theorem Ga (hx:evo l x=some (.pointer (some ⟨b,i,none⟩)):=by exact op_) (hb:BlkAt w0 b c e:=by assumption) (hv:c[i]? = some v:=by exact rfl) (hT:tkf P T=some (false,k):=by exact rfl):Det P (St w0.heap.size w0 L) ⟨d,.load T x,ty,ps,af,g⟩ l v:=Jak hx hb hv (Jct hT)
theorem Gb (hx:evo l x=some (.pointer (some ⟨b,0,none⟩)):=by exact op_) (hb:BlkAt w0 b c e:=by assumption) (hT:tkf P T=some (true,n):=by exact rfl) (hn:c.length=n:=by exact rfl):Det P (St w0.heap.size w0 L) ⟨d,.load T x,ty,ps,af,g⟩ l (.agg c.toArray):=Jae hx hb hn (Jct hT)
theorem Ia (hx:evo l x=some (.pointer (some (sla vv ii.toNat))):=by exact op_) (hs:SlI w0 vv xs:=by assumption) (h:0≤ii∧ii < xs.length:=by (try simp only [bq] at hg); omega) (hT:tkf P T=some (false,q):=by exact rfl):Det P (St w0.heap.size w0 L) ⟨d,.load T x,ty,ps,af,g⟩ l (.int .i64 (nth xs ii)):=Jli hx hs h (Jct hT)
theorem Ib (j:Nat) (hx:evo l x=some (.pointer (some (sla vv ii.toNat))):=by exact op_) (hj:L[j]? = some (oints e vv xs):=by exact rfl) (h:0≤ii∧ii < xs.length:=by (try simp only [bq] at hg); omega) (hT:tkf P T=some (false,q):=by exact rfl):Det P (St n0 w0 L) ⟨d,.load T x,ty,ps,af,g⟩ l (.int .i64 (nth xs ii)):=Jjb hx hj h (Jct hT)
theorem Xa (hx:evo l x=some vv:=by exact op_) (hy:evo l y=some (.int .i64 ii):=by exact op_) (hs:SlI w vv xs:=by assumption) (h0:0≤ii:=by (try simp only [bq] at hg); omega) (h1:ii < xs.length:=by (try simp only [bq] at hg); omega) (hT:slf P T=some (e,1,q):=by exact rfl):Det P C ⟨d,.indexAddr T x y,ty,ps,af,g⟩ l (.pointer (some (sla vv ii.toNat))):=Jj7 (Jec hT) hx hy hs h0 h1
theorem Xb (j:Nat) (hx:evo l x=some vv:=by exact op_) (hy:evo l y=some (.int .i64 ii):=by exact op_) (hj:L[j]? = some (oints e' vv xs):=by exact rfl) (h0:0≤ii:=by (try simp only [bq] at hg); omega) (h1:ii < xs.length:=by (try simp only [bq] at hg); omega) (hT:slf P T=some (e,1,q):=by exact rfl):Det P (St n0 w0 L) ⟨d,.indexAddr T x y,ty,ps,af,g⟩ l (.pointer (some (sla vv ii.toNat))):=Jh3 (Jec hT) hx hy hj h0 h1
theorem Na (hx:evo l x=some vv:=by exact op_) (hs:SlI w vv xs:=by assumption) (hT:slf P T=some (e,a,q):=by exact rfl):Det P C ⟨d,.call ⟨.builtin .len, #[x], #[T]⟩,ty,ps,af,g⟩ l (.int .i64 xs.length):=Jbz (Jec hT) hx hs
theorem Nb (j:Nat) (hx:evo l x=some vv:=by exact op_) (hj:L[j]? = some (oints e' vv xs):=by exact rfl) (hT:slf P T=some (e,a,q):=by exact rfl):Det P (St n0 w0 L) ⟨d,.call ⟨.builtin .len, #[x], #[T]⟩,ty,ps,af,g⟩ l (.int .i64 xs.length):=Jie (Jec hT) hx hj
section
variable {α:Type} {K:Cel α} {s:Sl α}
theorem Nc (hx:evo l x=some s.v:=by exact op_) (hs:SlT K w s:=by assumption) (hT:slf P T=some (e,a,q):=by exact rfl):Det P C ⟨d,.call ⟨.builtin .len, #[x], #[T]⟩,ty,ps,af,g⟩ l (.int .i64 s.l.length):=Jki (Jec hT) hx hs
theorem Xc (hx:evo l x=some s.v:=by exact op_) (hy:evo l y=some (.int .i64 ii):=by exact op_) (hs:SlT K w s:=by assumption) (hT:slf P T=some (e,k,q):=by exact rfl) (hk:K.k=k:=by exact rfl) (h0:0≤ii:=by (try simp only [bq] at hg); omega) (h1:ii < s.l.length:=by (try simp only [bq] at hg); omega):Det P C ⟨d,.indexAddr T x y,ty,ps,af,g⟩ l (.pointer (some (sla s.v (ii.toNat * k)))):=Jj3 (Jec hT) hx hy hs hk h0 h1
variable [Inhabited α]
theorem Vb (jj:Nat) (hj:L[jj]? = some (roT K s)) (hx:evo l x=some (.pointer (some (sla s.v (ii.toNat * 1)))):=by exact op_) (hk:K.k=1:=by exact rfl) (h:0≤ii∧ii < s.l.length:=by (try simp only [bq] at hg); omega) (hc:(K.cells (nth s.l ii))[0]? = some v:=by exact rfl) (hT:tkf P T=some (false,q):=by exact rfl):Det P (St n0 w0 L) ⟨d,.load T x,ty,ps,af,g⟩ l v:=Jjz hj hx rfl hk h hc (Jct hT)
end
end
section
variable {P:Program} [Fx P] {ro:Option Nat} {n0:Nat} {w0:World} {ds:List Deferred} {ops:Array Oper} {Q:Exit→Act→World→Prop} {L L':List SA} {l l'':List Value} {T ty e:TypeId} {x y:Operand} {ps:String} {af:Array Edge} {b i q d:Nat} {bq_:Bool} {c c' vs:List Value} {v:Value} {rest rest':List Oper}
theorem Ws (n j:Nat) (k:WS P ro n0 w0 ds ops Q L' rest' l'') (hx:evo l x=some (.pointer (some ⟨b,i,none⟩)):=by exact rfl) (hj:L[j]? = some (blk b c e):=by exact rfl) (hi:i < c.length:=by first | decide | omega | (simp; done) | (simp; omega) | exact Nat.le_of_ble_eq_true rfl)
  (hy:evo l y=some v:=by exact rfl) (h1:v.oneCell'=true:=by first | rfl | assumption) (hT:tkf P T=some (bq_,1):=by exact rfl) (hc:lset c i v=some c':=by first | exact rfl | exact Jcj _ _ _) (hL:lset L j (blk b c' e)=some L':=by exact rfl) (hr:runF P n rest l=some (rest',l''):=by exact rfl) :
  WS P ro n0 w0 ds ops Q L (⟨none,.store T x y,ty,ps,af,none⟩::rest) l:=WS.store hx hj hi hy h1 (Jct hT) hc hL (Wz n k hr)
theorem Wv (n j:Nat) (k:WS P ro n0 w0 ds ops Q L' rest' l'') (hx:evo l x=some (.pointer (some ⟨b,0,none⟩)):=by exact rfl) (hj:L[j]? = some (blk b c e):=by exact rfl) (hy:evo l y=some (.agg vs.toArray):=by exact rfl) (hn:vs.length=c.length:=by exact rfl)
  (h1:∀ v∈vs,v.oneCell'=true:=by first | (simp [Value.oneCell']; done) | ((repeat (refine List.forall_mem_cons.2 ⟨by first | rfl | assumption,?_⟩)); exact fun _ h=>absurd h List.not_mem_nil) | exact Cel.one _ w _ (by first | assumption | exact trivial))
  (hT:tkf P T=some (true,q):=by exact rfl) (hnn:vs.length=q:=by exact rfl) (hL:lset L j (blk b vs e)=some L':=by exact rfl) (hr:runF P n rest l=some (rest',l''):=by exact rfl) :
  WS P ro n0 w0 ds ops Q L (⟨none,.store T x y,ty,ps,af,none⟩::rest) l:=WS.storeW hx hj hy hn h1 (Jct hT) hnn hL (Wz n k hr)
variable {ll:Nat→List Value} {rr:Nat→List Oper} {lz:Nat→List Value}
theorem Wb (n:Nat) (hx:evo l x=some v) (hc:v.cells=c.toArray) (hl:∀ b,lset l d (.pointer (some ⟨b,0,none⟩))=some (ll b)) (hr:∀ b,runF P n rest (ll b)=some (rr b,lz b))
  (k:∀ b,n0≤b→WS P ro n0 w0 ds ops Q (blk b c T::L) (rr b) (lz b)):WS P ro n0 w0 ds ops Q L (⟨some d,.box T x,ty,ps,af,none⟩::rest) l:=WS.box hx hc hl fun b hb=>Wz n (k b hb) (hr b)
theorem Wl (n:Nat) (hz:zv P T=some c) (hl:∀ b,lset l d (.pointer (some ⟨b,0,none⟩))=some (ll b)) (hr:∀ b,runF P n rest (ll b)=some (rr b,lz b))
  (k:∀ b,n0≤b→WS P ro n0 w0 ds ops Q (blk b c T::L) (rr b) (lz b)):WS P ro n0 w0 ds ops Q L (⟨some d,.alloc T,ty,ps,af,none⟩::rest) l:=WS.alloc hz hl fun b hb=>Wz n (k b hb) (hr b)
theorem Nz (n:Nat) {id:Nat} {os:List Oper} {z:Code} (k:WS P ro n0 w0 ds os.toArray (Exit.then (z.wpIn (FW ro) 0 P Q) Q) L rest' l'') (hr:runF P n os l=some (rest',l''):=by exact rfl):CS P ro n0 w0 ds (.seq (.region id os.toArray false) z) Q L l:=CS.seq (CS.region (Wz n k hr))
theorem Ny (n:Nat) {id:Nat} {os:List Oper} (k:WS P ro n0 w0 ds os.toArray Q L rest' l'') (hr:runF P n os l=some (rest',l''):=by exact rfl):CS P ro n0 w0 ds (.region id os.toArray false) Q L l:=CS.region (Wz n k hr)
end
section
variable {P:Program} {ro:Option Nat} {n0:Nat} {w0:World} {ds:List Deferred} {ops:Array Oper} {Q:Exit→Act→World→Prop} {L:List SA} {C:World→Prop} {l:List Value} {o:Oper} {b:Bool} {rest:List Oper}
theorem eg_ {x:Operand} {v:Value} (hb:b=true) (h:evo l x=some (cond b v undef)):evo l x=some v:=Jfw hb h
theorem en_:evs l []=some []:=rfl
theorem ec_ {x:Operand} {xs:List Operand} {v:Value} {vs:List Value} (h:evo l x=some v) (h2:evs l xs=some vs):evs l (x::xs)=some (v::vs):=Jkh h h2
theorem Ck (k:QS n0 w0 ds Q .normal L l):CS P ro n0 w0 ds .skip Q L l:=CS.skip k
theorem Cr (k:QS n0 w0 ds Q .ret L l):CS P ro n0 w0 ds .ret Q L l:=CS.ret k
theorem Cv {id:Nat} (k:QS n0 w0 ds Q (.exit id) L l):CS P ro n0 w0 ds (.exit id) Q L l:=CS.leave k
theorem Cs {x y:Code} (k:CS P ro n0 w0 ds x (Exit.then (y.wpIn (FW ro) 0 P Q) Q) L l):CS P ro n0 w0 ds (.seq x y) Q L l:=CS.seq k
theorem Ce {id:Nat} {c:Code} (k:CS P ro n0 w0 ds c (Exit.inBlock id Q) L l):CS P ro n0 w0 ds (.block id c) Q L l:=CS.block k
theorem Qc {y:Code} {Q':Exit→Act→World→Prop} (k:CS P ro n0 w0 ds y Q' L l):QS n0 w0 ds (Exit.then (y.wpIn (FW ro) 0 P Q') Q) .normal L l:=k
theorem Qr {K:Act→World→Prop} (k:QS n0 w0 ds Q .ret L l):QS n0 w0 ds (Exit.then K Q) .ret L l:=k
theorem Qe {K:Act→World→Prop} {i:Nat} (k:QS n0 w0 ds Q (.exit i) L l):QS n0 w0 ds (Exit.then K Q) (.exit i) L l:=k
theorem Qb {id:Nat} (k:QS n0 w0 ds Q .normal L l):QS n0 w0 ds (Exit.inBlock id Q) .normal L l:=k
theorem Qs {id:Nat} (k:QS n0 w0 ds Q .ret L l):QS n0 w0 ds (Exit.inBlock id Q) .ret L l:=k
theorem Qx {id:Nat} (k:QS n0 w0 ds Q .normal L l):QS n0 w0 ds (Exit.inBlock id Q) (.exit id) L l:=QS.block_exit k
theorem Wd (k:QS n0 w0 ds Q .normal L l):WS P ro n0 w0 ds ops Q L [] l:=WS.done k
theorem Dd (k:QS n0 w0 ds Q .normal L l):DS P n0 w0 ds ops Q L [] l:=k
theorem Qa {bl:List Bool} {fuel:Nat} (k:AS P ro n0 w0 ds ops Q C L fuel bl l):QS n0 w0 ds (Exit.then (AH P ro ops (NP Q) C fuel bl.toArray) (NP Q)) .normal L l:=QS.then_AS k
theorem Qt {bl:List Bool} {fuel s:Nat} (k:AT P ro n0 w0 ds ops Q C s L fuel bl l):QS n0 w0 ds (Exit.then (AZ P ro ops (NP Q) C s fuel bl.toArray) (NP Q)) .normal L l:=QS.then_AT k
theorem Wc {β:Type} {f:Operand} {args:List Operand} {ts:Array TypeId} {fn:FuncId} {cap:List Value} {vs:List Value} {v:β→Value} {A:β→SA} {p:β→Prop} {i:Nat} {l':β→List Value} {ty:TypeId} {ps:String} {af:Array Edge}
  (hf:evo l f=some (.func (.func fn) #[] cap.toArray)) (hv:evs l args=some vs) (he:Ent P fn)
  (hc:∀ u,St n0 w0 L u→Calls P fn (vs++cap).toArray u (fun e u'=>∃ x,p x∧RetF u (v x) (A x) e u'))
  (hl:∀ x,lset l i (v x)=some (l' x)) (k:∀ x,p x→WS P ro n0 w0 ds ops Q (A x::L) rest (l' x)) :
  WS P ro n0 w0 ds ops Q L (⟨some i,.call ⟨.value f,args.toArray,ts⟩,ty,ps,af,none⟩::rest) l:=WS.callF hf hv he hc hl k
end
end Go.Proofs.YtdpbapffdmahnaaGreatDoor
namespace Go.Proofs.YtdpbapffdmahnaaGreatDoor
set_option linter.unusedVariables false
set_option linter.unusedSimpArgs false
open Go.RowKit Go.Proofs
structure ChB (u:World) (b:Nat) (e:TypeId) (rows:List (List Bool)) (N:Int) (rv:Value) (gs:List Value):Prop where
 bk:BlkAt u b [rv,.int .i64 N] e
 sp:SlC u rv rows.length 1 gs
 el:∀ i:Int,0≤i→i < rows.length→SlC u (nth gs i) (nth rows i).length 1 ((nth rows i).map Value.bool)
theorem ChB.ext {w u:World} {b:Nat} {e:TypeId} {rows:List (List Bool)} {N:Int} {rv:Value} {gs:List Value} (h:ChB w b e rows N rv gs) (hb:Below w.heap.size w u):ChB u b e rows N rv gs :=
 ⟨h.bk.ext hb,h.sp.ext hb,fun i h0 h1=>(h.el i h0 h1).ext hb⟩
theorem ChB.st {w0 u:World} {L:List SA} {b:Nat} {e:TypeId} {rows:List (List Bool)} {N:Int} {rv:Value} {gs:List Value} (h:ChB w0 b e rows N rv gs) (hu:St w0.heap.size w0 L u):ChB u b e rows N rv gs:=h.ext hu.below
theorem St.toRoI {n0:Nat} {w0 u:World} {L:List SA} {e:TypeId} {v:Value} {xs:List Int} (h:St n0 w0 (oints e v xs::L) u):St n0 w0 (Go.Proofs.YtdpbapffdmahnaaGreatDoor.roI v xs::L) u :=
 St.toRo (A:=Go.Proofs.YtdpbapffdmahnaaGreatDoor.oints e v xs) (p:=fun u=>SlI u v xs) (fun S u hA=>Jb1 hA.2) h
theorem St.nilRoI {n0:Nat} {w0 u:World} {L:List SA} (h:St n0 w0 L u):St n0 w0 (Go.Proofs.YtdpbapffdmahnaaGreatDoor.roI (.slice none 0 0) []::L) u :=
 St.toRo (p:=fun u=>SlI u (.slice none 0 0) []) (fun S u _=>SlI.none u) (h.osl0 (e:=0) (size:=1))
section
variable {P:Program} {l:List Value} {d:Option Tmp} {ty:TypeId} {ps:String} {af:Array Edge} {g:Option (Nat × Bool)} {C:World→Prop}
theorem Ji5 {T:TypeId} {x y z:Operand} {a:ByteArray} {i j:Int} (hT:P.underlying T=some .string) (hx:evo l x=some (.string a)) (hy:evo l y=some (.int .i64 i)) (hz:evo l z=some (.int .i64 j))
  (h:0≤i∧i≤j∧j≤a.size):Det P C ⟨d,.slice T x (some y) (some z) none,ty,ps,af,g⟩ l (.string (a.extract i.toNat j.toNat)):=fun u _=>by
 (replace hx:=Jaj hx; replace hy:=Jaj hy; replace hz:=Jaj hz)
 have e1:(0≤j∧j≤(a.size:Int)):=by omega
 have e2:0≤i∧i≤max j 0:=by omega
 simp [execOp,Jaf,hx,hy,hz,Instr.sliceAt,Instr.slice,Instr.sliceBounds,Instr.sliceBound,asIntOf,run_underlying hT,e1,e2]
end
structure Shown (r:Room) (x:P3):Prop where
 lt:x.1.length=r.ths.l.length
 lp:x.2.1.length=r.prs.l.length
 ll:1≤x.2.2.length∧x.2.2.length≤4
 th:∀ i:Int,0≤i→i < x.1.length→0≤nth x.1 i∧nth x.1 i < 10
 pr:∀ i:Int,0≤i→i < x.2.1.length→(0≤nth x.2.1 i∧nth x.2.1 i < r.pls.l.length)∨nth x.2.1 i = -1∨(-5≤nth x.2.1 i∧nth x.2.1 i ≤ -2)
 pl:∀ i:Int,0≤i→i < x.2.2.length→0≤nth x.2.2 i∧nth x.2.2 i < r.pls.l.length
theorem Jl8 {n:Int} (h : -9223372036854775808≤n∧n≤9223372036854775807):IntKind.i64.wrap n=n:=IntWalk.i64_in _ h
theorem Jm0 {r:Room} {x:Thing} (h:thB r x=true):2≤x.st∧x.st≤6:=by
 simp only [thB,Bool.and_eq_true,decide_eq_true_eq] at h
 omega
theorem Shown.of {r:Room} {x:P3} (hR:Ready r) (hI:StIn r x):Shown r x:=by
 have hl:=hI.ll
 have hp:=hR.ply
 refine ⟨hI.lt,hI.lp,by omega,fun i h0 h1=>?_,fun i h0 h1=>?_,fun i h0 h1=>?_⟩
 ·
  have h:=hI.th i h0 h1
  have h2:=Jm0 (hR.ths _ (Jbe h0 (show i < (r.ths.l.length:Int) by rw [← hI.lt]; exact h1)))
  simp only [putB,Bool.and_eq_true,decide_eq_true_eq] at h
  rw [Jl8 (by omega)] at h
  omega
 ·
  have h:=hI.pr i h0 h1
  simp only [placeB,Bool.or_eq_true,Bool.and_eq_true,decide_eq_true_eq] at h
  omega
 have h:=hI.pl i h0 h1
 simp only [placeB,Bool.and_eq_true,decide_eq_true_eq] at h
 omega
section
variable {P:Program} {ro:Option Nat} {n0:Nat} {w0:World} {ds:List Deferred} {ops:Array Oper} {Q:Exit→Act→World→Prop} {L:List SA} {rest:List Oper} {l:List Value} {ty:TypeId} {ps:String} {af:Array Edge}
theorem WS.buildS1 {T e:TypeId} {by_ i:Nat} {x:Operand} {b:ByteArray} {zc:List Value} (hT:sl P T=some (e,1,by_)) (hz:zv P e=some zc) (hx:evo l x=some (.string b))
  {l':Value→List Value} (hl:∀ v,lset l i v=some (l' v)) (kk:∀ v,WS P ro n0 w0 ds ops Q (oT cStr e v [b]::L) rest (l' v)) :
  WS P ro n0 w0 ds ops Q L (⟨some i,.buildSlice T 1 #[(0,x)],ty,ps,af,none⟩::rest) l :=
 WS.buildSlice1 (pl:=[(0,x)]) (vs:=[.string b]) hT hz (by simp [Jaj hx]) rfl (by decide) (fun v hv=>by simp at hv; subst hv; rfl) hl kk
end
abbrev bl (t:ByteArray):List UInt8:=t.data.toList
abbrev ba (l:List UInt8):ByteArray:=⟨l.toArray⟩
theorem Jn4 (t:ByteArray):ba (bl t)=t:=rfl
theorem Jbk (t:ByteArray):(bl t).length=t.size:=by simp
theorem Jd4 {a b:ByteArray}:seq a b=true ↔ a=b:=Lib.bytes_beq_iff a b
theorem Jcw {t:ByteArray} {i:Nat} (h:i < t.size):byt t (i:Int)=(((bl t)[i]'(by rw [Jbk]; exact h)).toNat:Int):=by
 unfold byt
 rw [show ((i:Int)).toNat=i by omega]
 have e:t[i]? = some (t[i]'h):=by simp [h]
 rw [e]
 rfl
def Jaz (c:UInt8):List UInt8→List (List UInt8)
 | []=>[[]]
 | b::r=>if b=c then []::Jaz c r else match Jaz c r with
  | x::xs=>(b::x)::xs
  | []=>[[b]]
theorem Jhn (c:UInt8):∀ l,0 < (Jaz c l).length
 | []=>by simp [Jaz]
 | b::r=>by
  unfold Jaz
  split
  ·
   simp
  split <;> simp
theorem Jdv {c:UInt8}:∀ {l:List UInt8},c ∉ l→Jaz c l=[l]
 | [],_=>rfl
 | b::r,h=>by
  have h1:¬ b=c:=fun e=>h (by simp [e])
  have h2:c ∉ r:=fun e=>h (by simp [e])
  unfold Jaz
  rw [if_neg h1,Jdv h2]
theorem Jeq {c:UInt8}:∀ {l m:List UInt8},c ∉ l→Jaz c (l++c::m)=l::Jaz c m
 | [],m,_=>by simp [Jaz]
 | b::r,m,h=>by
  have h1:¬ b=c:=fun e=>h (by simp [e])
  have h2:c ∉ r:=fun e=>h (by simp [e])
  rw [List.cons_append,Jaz,if_neg h1,Jeq h2]
def Jan (c:UInt8) (t:ByteArray):List ByteArray:=(Jaz c (bl t)).map ba
theorem Jea (c:UInt8) (t:ByteArray):0 < (Jan c t).length:=by simp [Jan,Jhn]
theorem Jen (c:UInt8):∀ l:List UInt8,Lib.splitK [c] 0 (Lib.count l [c]) l=Jaz c l
 | []=>by rw [Lib.count_one]; rfl
 | b::r=>by
  have ih:=Jen c r
  by_cases h:b=c
  ·
   subst h
   rw [Lib.count_cons_eq,Nat.add_comm]
   unfold Lib.splitK Jaz
   have hi:Lib.index (b::r) [b]=0:=by rw [Lib.index]; simp [List.isPrefixOf]
   rw [hi,if_neg (by decide),if_pos rfl]
   simp [ih]
  rw [Lib.count_cons_ne _ _ _ h]
  have hp:([c]:List UInt8).isPrefixOf (b::r)=false:=by simp [List.isPrefixOf,Ne.symm h]
  have hi:Lib.index (b::r) [c]=if Lib.index r [c] == -1 then -1 else Lib.index r [c]+1:=by rw [Lib.index,hp]; simp
  unfold Jaz
  rw [if_neg h, ← ih]
  cases hk:Lib.count r [c] with
  | zero=>rfl
  | succ k =>
   have hne:¬ Lib.index r [c] = -1:=fun e=>by rw [Lib.count_miss e] at hk; cases hk
   have hge:=Lib.index_ge r [c]
   unfold Lib.splitK
   rw [hi,if_neg (show ¬ (Lib.index r [c] == -1)=true by simpa using hne),if_neg (show ¬ (Lib.index r [c]+1 == -1)=true by simp; omega)]
   have e1:(Lib.index r [c]+1).toNat=(Lib.index r [c]).toNat+1:=by omega
   simp only [e1,Nat.add_zero,List.take_succ_cons,List.length_cons,List.length_nil,Nat.zero_add,List.drop_succ_cons]
   rw [if_neg (show ¬ (Lib.index r [c] == -1)=true by simpa using hne)]
theorem Jeo (c:UInt8) (s:ByteArray):Lib.splitB ⟨#[c]⟩ 0 (Lib.countB s ⟨#[c]⟩) s=Jan c s:=by
 have h:=Lib.splitB_data ⟨#[c]⟩ 0 (Lib.countB s ⟨#[c]⟩) s
 have h2:Lib.splitK [c] 0 (Lib.count (bl s) [c]) (bl s)=Jaz c (bl s):=Jen c (bl s)
 have h3:(Lib.splitB ⟨#[c]⟩ 0 (Lib.countB s ⟨#[c]⟩) s).map bl=Jaz c (bl s):=h.trans h2
 unfold Jan
 rw [← h3,List.map_map]
 conv=>lhs; rw [← List.map_id (Lib.splitB ⟨#[c]⟩ 0 (Lib.countB s ⟨#[c]⟩) s)]
 rfl
theorem Jht (c:UInt8) (s:ByteArray):Lib.countB s ⟨#[c]⟩+1=(Jan c s).length:=by
 rw [← Jeo,Lib.splitB_all ⟨#[c]⟩ (show 1≤1 by decide) 0 _ _ rfl]
def SplitI (c:UInt8) (t:ByteArray) (i f:Int) (xs:List ByteArray):Prop :=
 (0≤f∧f≤i∧i≤t.size∧c ∉ ((bl t).drop f.toNat).take (i.toNat - f.toNat)∧xs++(Jaz c ((bl t).drop f.toNat)).map ba=Jan c t)∨(i=t.size+1∧xs=Jan c t)
theorem SplitI.start (c:UInt8) (t:ByteArray):SplitI c t 0 0 []:=.inl ⟨by omega,by omega,by omega,by simp,by simp [Jan]⟩
theorem Jky {t:ByteArray} {a b:Nat}:t.extract a b=ba (((bl t).drop a).take (b - a)):=by
 apply ByteArray.ext
 apply Array.toList_inj.1
 show _=(((bl t).drop a).take (b - a))
 rw [ByteArray.data_extract,Array.toList_extract]
theorem SplitI.other {c:UInt8} {t:ByteArray} {i f:Int} {xs:List ByteArray} (h:SplitI c t i f xs) (hi:i < t.size) (hb:¬ byt t i=(c.toNat:Int)):SplitI c t (i+1) f xs:=by
 rcases h with ⟨h0,h1,h2,h3,h4⟩ | ⟨h1,_⟩
 ·
  refine .inl ⟨h0,by omega,by omega,?_,h4⟩
  rw [show (i+1).toNat - f.toNat=(i.toNat - f.toNat)+1 by omega]
  have hl:i.toNat - f.toNat < ((bl t).drop f.toNat).length:=by rw [List.length_drop,Jbk]; omega
  rw [List.take_succ_eq_append_getElem hl,List.mem_append,not_or]
  refine ⟨h3,fun hm=>hb ?_⟩
  rw [List.mem_singleton,List.getElem_drop] at hm
  have e:=Jcw (t:=t) (i:=i.toNat) (by omega)
  rw [show ((i.toNat:Nat):Int)=i by omega] at e
  rw [e,hm]
  congr 2
  congr 1
  omega
 omega
theorem SplitI.hit {c:UInt8} {t:ByteArray} {i f:Int} {xs:List ByteArray} (h:SplitI c t i f xs) (hi:i < t.size) (hb:byt t i=(c.toNat:Int)):SplitI c t (i+1) (i+1) (xs++[t.extract f.toNat i.toNat]):=by
 rcases h with ⟨h0,h1,h2,h3,h4⟩ | ⟨h1,_⟩
 ·
  refine .inl ⟨by omega,by omega,by omega,by simp,?_⟩
  have hi2:i.toNat < (bl t).length:=by rw [Jbk]; omega
  have e0:(bl t).drop i.toNat=c::(bl t).drop (i+1).toNat:=by
   rw [List.drop_eq_getElem_cons hi2,show (i+1).toNat=i.toNat+1 by omega]
   congr 1
   have e:=Jcw (t:=t) (i:=i.toNat) (by omega)
   rw [show ((i.toNat:Nat):Int)=i by omega] at e
   rw [hb] at e
   exact (UInt8.toNat_inj.1 (by omega)).symm
  have e:(bl t).drop f.toNat=((bl t).drop f.toNat).take (i.toNat - f.toNat)++c::(bl t).drop (i+1).toNat:=by
   conv=>lhs; rw [← List.take_append_drop (i.toNat - f.toNat) ((bl t).drop f.toNat)]
   rw [List.drop_drop,show f.toNat+(i.toNat - f.toNat)=i.toNat by omega,e0]
  rw [← h4]
  conv=>rhs; rw [e,Jeq h3]
  rw [Jky,List.append_assoc]
  rfl
 omega
theorem SplitI.last {c:UInt8} {t:ByteArray} {i f:Int} {xs:List ByteArray} (h:SplitI c t i f xs) (hi:i=t.size):SplitI c t (i+1) (i+1) (xs++[t.extract f.toNat i.toNat]):=by
 rcases h with ⟨h0,h1,h2,h3,h4⟩ | ⟨h1,_⟩
 ·
  refine .inr ⟨by omega,?_⟩
  have e:((bl t).drop f.toNat).take (i.toNat - f.toNat)=(bl t).drop f.toNat:=List.take_of_length_le (by rw [List.length_drop,Jbk]; omega)
  rw [e] at h3
  rw [← h4,Jdv h3,Jky,e]
  rfl
 omega
theorem SplitI.fin {c:UInt8} {t:ByteArray} {i f:Int} {xs:List ByteArray} (h:SplitI c t i f xs) (hi:¬ i≤t.size):xs=Jan c t:=by
 rcases h with ⟨h0,h1,h2,h3,h4⟩ | ⟨h1,h2⟩
 ·
  omega
 exact h2
theorem SplitI.bd {c:UInt8} {t:ByteArray} {i f:Int} {xs:List ByteArray} (h:SplitI c t i f xs) (hi:i≤t.size):0≤f∧f≤i:=by
 rcases h with ⟨h0,h1,_⟩ | ⟨h1,_⟩
 ·
  exact ⟨h0,h1⟩
 omega
theorem Jes (c:UInt8):∀ l:List UInt8,(Jaz c l).length≤l.length+1
 | []=>by simp [Jaz]
 | b::r=>by
  have ih:=Jes c r
  unfold Jaz
  split
  ·
   simp; omega
  split
  ·
   rename_i x xs h
   rw [h] at ih
   simp at ih ⊢; omega
  simp
theorem Jeg (c:UInt8) (t:ByteArray):(Jan c t).length≤t.size+1:=by
 have:=Jes c (bl t)
 simp only [Jan,List.length_map]
 rw [Jbk] at this
 exact this
theorem SplitI.len {c:UInt8} {t:ByteArray} {i f:Int} {xs:List ByteArray} (h:SplitI c t i f xs):xs.length≤t.size+1:=by
 have hl:=Jeg c t
 rcases h with ⟨_,_,_,_,h4⟩ | ⟨_,h2⟩
 ·
  have:=congrArg List.length h4
  rw [List.length_append] at this
  omega
 rw [h2]; exact hl
theorem Jfl (c:UInt8):∀ (l x:List UInt8),x∈Jaz c l→x.length≤l.length
 | [],x,h=>by simp [Jaz] at h; subst h; simp
 | b::r,x,h=>by
  have ih:=Jfl c r
  unfold Jaz at h
  split at h
  ·
   rcases List.mem_cons.1 h with rfl | h
   ·
    simp
   have:=ih x h; simp; omega
  split at h
  ·
   rename_i y ys hs
   rw [hs] at ih
   rcases List.mem_cons.1 h with rfl | h
   ·
    have:=ih y (by simp); simp; omega
   have:=ih x (by simp [h]); simp; omega
  rcases List.mem_cons.1 h with rfl | h
  ·
   simp
  cases h
theorem Jfn {c:UInt8} {t x:ByteArray} (h:x∈Jan c t):x.size≤t.size:=by
 obtain ⟨l,hl,rfl⟩:=List.mem_map.1 h
 have:=Jfl c _ _ hl
 rw [Jbk] at this
 exact this
def Ja6 (l:List UInt8):Bool:=l.all fun b=>decide (48≤b.toNat) && decide (b.toNat≤57)
def Jap (t:ByteArray) (most:Int):Bool:=(decide ((1:Int)≤t.size) && decide ((t.size:Int)≤most)) && Ja6 (bl t)
theorem Jmd {t:ByteArray} (h:∀ j:Int,0≤j→j < t.size→48≤byt t j∧byt t j≤57):Ja6 (bl t)=true:=by
 unfold Ja6
 rw [List.all_eq_true]
 intro b hb
 obtain ⟨i,hi,rfl⟩:=List.mem_iff_getElem.1 hb
 have hi2:i < t.size:=by rw [← Jbk]; exact hi
 have:=h i (by omega) (by omega)
 rw [Jcw hi2] at this
 simp only [Bool.and_eq_true,decide_eq_true_eq]
 omega
theorem Jg4 {t:ByteArray} (h:Ja6 (bl t)=true) {j:Int} (h0:0≤j) (h1:j < t.size):48≤byt t j∧byt t j≤57:=by
 have hj:j.toNat < t.size:=by omega
 have e:=Jcw hj
 rw [show ((j.toNat:Nat):Int)=j by omega] at e
 unfold Ja6 at h
 have:=List.all_eq_true.1 h _ (List.getElem_mem (show j.toNat < (bl t).length by rw [Jbk]; exact hj))
 simp only [Bool.and_eq_true,decide_eq_true_eq] at this
 omega
theorem Jm1 {t:ByteArray} {i:Int} (h0:0≤i) (h1:i < t.size) (h:byt t i < 48∨57 < byt t i):Ja6 (bl t)=false:=by
 cases hd:Ja6 (bl t) with
 | false=>rfl
 | true=>have:=Jg4 hd h0 h1; omega
def decL:List UInt8:=[48,49,50,51,52,53,54,55,56,57]
theorem Jh9 (b:UInt8):decL.contains b=(decide (48≤b.toNat) && decide (b.toNat≤57)):=by
 have h:∀ n:Nat,n < 256→∀ m:Nat,m < 256→(UInt8.ofNat n=UInt8.ofNat m ↔ n=m):=fun n hn m hm=>by
  rw [← UInt8.toNat_inj]; simp [Nat.mod_eq_of_lt hn,Nat.mod_eq_of_lt hm]
 rw [Bool.eq_iff_iff]
 simp only [decL,List.contains_cons,List.contains_nil,Bool.or_false,Bool.or_eq_true,beq_iff_eq,Bool.and_eq_true,decide_eq_true_eq, ← UInt8.toNat_inj]
 have:=b.toNat_lt
 have e:(48:UInt8).toNat=48∧(49:UInt8).toNat=49∧(50:UInt8).toNat=50∧(51:UInt8).toNat=51∧(52:UInt8).toNat=52∧(53:UInt8).toNat=53∧(54:UInt8).toNat=54∧(55:UInt8).toNat=55∧(56:UInt8).toNat=56∧(57:UInt8).toNat=57:=by decide
 omega
theorem Jdd {p:UInt8→Bool}:∀ {l:List UInt8},l.dropWhile p=[] ↔ l.all p=true
 | []=>by simp
 | b::r=>by
  rw [List.dropWhile_cons]
  split
  ·
   rename_i h; rw [Jdd,List.all_cons,h,Bool.true_and]
  rename_i h; simp [h]
theorem Jjh (l:List UInt8):(Lib.trimS l decL=[]) ↔ Ja6 l=true:=by
 have e:∀ m:List UInt8,(m.all fun b=>decL.contains b)=Ja6 m:=fun m=>by
  unfold Ja6
  congr 1
  funext b
  exact Jh9 b
 unfold Lib.trimS Lib.trimLeftS Lib.trimRightS
 rw [Jdd,List.all_reverse,e]
 constructor
 ·
  intro h
  by_cases hd:l.reverse.dropWhile (fun b=>decL.contains b)=[]
  ·
   rw [Jdd,List.all_reverse,e] at hd; exact hd
  exfalso
  have h1:=List.head_dropWhile_not (fun b=>decL.contains b) hd
  have h2:(l.reverse.dropWhile fun b=>decL.contains b).head hd∈l.reverse.dropWhile fun b=>decL.contains b:=List.head_mem hd
  have h3:=List.all_eq_true.1 h _ h2
  rw [Jh9] at h1
  rw [h3] at h1
  cases h1
 intro h
 have:l.reverse.dropWhile (fun b=>decL.contains b)=[]:=by rw [Jdd,List.all_reverse,e]; exact h
 rw [this]; rfl
theorem Jke (t:ByteArray):seq ⟨(Lib.trimS (bl t) decL).toArray⟩ ⟨#[]⟩=Ja6 (bl t):=by
 rw [Bool.eq_iff_iff,Jd4, ← Jjh]
 constructor
 ·
  intro h
  have:=congrArg (fun x:ByteArray=>x.data.toList) h
  simpa using this
 intro h; rw [h]
def numL (l:List UInt8):Int:=l.foldl (fun n b=>10 * n+((b.toNat:Int) - 48)) 0
def numB (most:Int) (t:ByteArray):Option Int:=if Jap t most && !(decide (byt t 0=48) && decide ((1:Int) < t.size)) then some (numL (bl t)) else none
theorem Jgv:∀ (l:List UInt8) (acc:Nat),Ja6 l=true→∃ n:Nat,Lib.decFrom acc l=some n∧(n:Int)=l.foldl (fun n b=>10 * n+((b.toNat:Int) - 48)) (acc:Int)
 | [],acc,_=>⟨acc,rfl,rfl⟩
 | b::r,acc,h=>by
  simp only [Ja6,List.all_cons,Bool.and_eq_true,decide_eq_true_eq] at h
  have hd:Lib.digitVal b=some (b.toNat - 48):=by unfold Lib.digitVal; rw [if_pos h.1]
  obtain ⟨n,h1,h2⟩:=Jgv r (acc * 10+(b.toNat - 48)) (by simpa [Ja6] using h.2)
  refine ⟨n,by unfold Lib.decFrom; rw [hd]; exact h1,?_⟩
  rw [h2,List.foldl_cons]
  congr 1
  omega
theorem Jje {t:ByteArray} {most:Int} (h:Jap t most=true):Lib.atoi (bl t)=some (numL (bl t)):=by
 simp only [Jap,Bool.and_eq_true,decide_eq_true_eq] at h
 have hne:bl t≠[]:=fun e=>by have:=Jbk t; rw [e] at this; simp at this; omega
 obtain ⟨n,h1,h2⟩:=Jgv (bl t) 0 h.2
 cases hb:bl t with
 | nil=>exact absurd hb hne
 | cons b r =>
  rw [hb] at h1 h2
  have hd:=h.2
  rw [hb] at hd
  simp only [Ja6,List.all_cons,Bool.and_eq_true,decide_eq_true_eq] at hd
  have e1:(b == 45)=false:=by
   rw [beq_eq_false_iff_ne]; rintro rfl
   have:(45:UInt8).toNat=45:=by decide
   omega
  have e2:(b == 43)=false:=by
   rw [beq_eq_false_iff_ne]; rintro rfl
   have:(43:UInt8).toNat=43:=by decide
   omega
  simp only [Lib.atoi,e1,e2,Bool.false_eq_true,if_false,Lib.decNat,List.isEmpty_cons,h1,Option.map_some]
  rw [h2]; rfl
theorem Jdl:∀ (l:List UInt8) (a k:Int),Ja6 l=true→0≤a→a < k→0≤l.foldl (fun n b=>10 * n+((b.toNat:Int) - 48)) a∧l.foldl (fun n b=>10 * n+((b.toNat:Int) - 48)) a < k * 10 ^ l.length
 | [],a,k,_,h0,h1=>by simp; omega
 | b::r,a,k,h,h0,h1=>by
  simp only [Ja6,List.all_cons,Bool.and_eq_true,decide_eq_true_eq] at h
  have ih:=Jdl r (10 * a+((b.toNat:Int) - 48)) (10 * k) (by simpa [Ja6] using h.2) (by omega) (by omega)
  rw [List.foldl_cons,List.length_cons,Int.pow_succ]
  refine ⟨ih.1,?_⟩
  have e:k * (10 ^ r.length * 10)=10 * k * 10 ^ r.length:=by rw [Int.mul_comm (10 ^ r.length) 10, ← Int.mul_assoc,Int.mul_comm k 10]
  rw [e]; exact ih.2
theorem Jl9 {l:List UInt8} (h:Ja6 l=true):0≤numL l∧numL l < 10 ^ l.length:=by
 have:=Jdl l 0 1 h (by omega) (by omega)
 rw [Int.one_mul] at this
 exact this
theorem Jib (l:List UInt8) (b:UInt8):numL (l++[b])=10 * numL l+((b.toNat:Int) - 48):=by simp [numL]
theorem Jem {t:ByteArray} {m:Int} (h:Jap t m=true):(0:Int) < t.size∧(t.size:Int)≤m:=by
 simp only [Jap,Bool.and_eq_true,decide_eq_true_eq] at h
 omega
theorem Je4 {t:ByteArray} {m:Int} (h:Jap t m=true):Ja6 (bl t)=true:=by
 simp only [Jap,Bool.and_eq_true,decide_eq_true_eq] at h
 exact h.2
theorem Jko {t:ByteArray} {m:Int} (h:Jap t m=true) (hm:m≤9) (i:Nat):0≤numL ((bl t).take i)∧numL ((bl t).take i) < 1000000000:=by
 have hs:=Jem h
 have ha:Ja6 ((bl t).take i)=true:=by
  have:=Je4 h
  unfold Ja6 at this ⊢
  rw [List.all_eq_true] at this ⊢
  exact fun b hb=>this b (List.mem_of_mem_take hb)
 have hb:=Jl9 ha
 have hl:((bl t).take i).length≤9:=by
  rw [List.length_take,Jbk]; omega
 refine ⟨hb.1,?_⟩
 have h2:∀ k:Nat,k≤9→(10:Int) ^ k≤1000000000:=fun k hk=>by
  rcases (show k=0∨k=1∨k=2∨k=3∨k=4∨k=5∨k=6∨k=7∨k=8∨k=9 by omega) with rfl | rfl | rfl | rfl | rfl | rfl | rfl | rfl | rfl | rfl <;> decide
 have:=h2 _ hl
 omega
theorem Jjn {t:ByteArray} {i:Int} (h0:0≤i) (h1:i < t.size):numL ((bl t).take (i+1).toNat)=10 * numL ((bl t).take i.toNat)+(byt t i - 48):=by
 have hl:i.toNat < (bl t).length:=by rw [Jbk]; omega
 rw [show (i+1).toNat=i.toNat+1 by omega,List.take_succ_eq_append_getElem hl,Jib]
 have e:=Jcw (t:=t) (i:=i.toNat) (by omega)
 rw [show ((i.toNat:Nat):Int)=i by omega] at e
 rw [e]
theorem Jg1 {t:ByteArray} {m:Int} (h:Jap t m=false∨byt t 0=48∧(1:Int) < t.size):numB m t=none:=by
 unfold numB
 rcases h with h | h
 ·
  rw [h]; rfl
 rw [if_neg]; simp [h.1,h.2]
theorem Jin {t:ByteArray} {m:Int} (h:Jap t m=true) (h2:byt t 0=48→¬ (1:Int) < t.size):numB m t=some (numL (bl t)):=by
 unfold numB
 rw [if_pos]
 simp only [h,Bool.true_and,Bool.not_eq_true',Bool.and_eq_false_iff,decide_eq_false_iff_not]
 by_cases hb:byt t 0=48
 ·
  exact .inr (h2 hb)
 exact .inl hb
theorem Jha {t:ByteArray} (h:byt t 0=48) (h1:(0:Int) < t.size):seq t ⟨#[48]⟩ = !decide ((1:Int) < t.size):=by
 rw [Bool.eq_iff_iff,Jd4]
 simp only [Bool.not_eq_true',decide_eq_false_iff_not]
 constructor
 ·
  rintro rfl; decide
 intro h2
 have hl:(bl t).length=1:=by rw [Jbk]; omega
 obtain ⟨b,hb⟩:=List.length_eq_one_iff.1 hl
 have e:=Jcw (t:=t) (i:=0) (by omega)
 have e2:(bl t)[0]'(by omega)=b:=by simp [hb]
 rw [e2] at e
 have h5:(48:UInt8).toNat=48:=by decide
 have h4:byt t ((0:Nat):Int)=48:=h
 have e3:b=48:=UInt8.toNat_inj.1 (by omega)
 subst e3
 rw [← Jn4 t,hb]
def cU8:Cel Int:=⟨1,fun x=>[.int .u8 x],fun _ _=>True,fun _=>rfl,fun _ _ _ _ _=>trivial,fun _ _ _ v hv=>by simp at hv; subst hv; rfl⟩
def byts (t:ByteArray):List Int:=(bl t).map fun b=>(b.toNat:Int)
theorem Jcv (t:ByteArray):(byts t).length=t.size:=by simp [byts]
theorem Jgx {t:ByteArray} {i:Int} (h0:0≤i) (h1:i < t.size):nth (byts t) i=byt t i:=by
 have h2:i.toNat < (bl t).length:=by rw [Jbk]; omega
 have e:=Jcw (t:=t) (i:=i.toNat) (by omega)
 rw [show ((i.toNat:Nat):Int)=i by omega] at e
 rw [e]
 simp only [byts,nth,List.getD,List.getElem?_map,List.getElem?_eq_getElem h2,Option.map_some,Option.getD_some]
def RetL (w:World) (xs:List ByteArray):Ending→World→Prop:=fun e w'=>∃ v:Value,(∃ u0,SlT cStr u0 ⟨v,xs⟩)∧RetF w v (roT cStr ⟨v,xs⟩) e w'
theorem Jhd (xs:List ByteArray):Jba cStr xs=xs.map Value.string:=by
 unfold Jba
 induction xs with
 | nil=>rfl
 | cons x xs ih=>rw [List.map_cons,List.flatten_cons,ih]; rfl
theorem Jfe {u:World} {b:Nat} {xs:List ByteArray} {e:TypeId} (hb:u.heap[b]? = some (.cells (xs.map Value.string).toArray e (0,0))) (h:xs.length≤9223372036854775807) :
  SlT cStr u ⟨.slice (some ⟨b,0,none⟩) xs.length xs.length,xs⟩:=by
 refine ⟨⟨by rw [Jdy],some ⟨b,0,none⟩,xs.length,rfl,⟨Nat.le_refl _,h⟩,.inr ⟨b,0,rfl,fun m x hx=>?_⟩⟩,fun _ _=>trivial⟩
 simp only at hx
 rw [Jhd] at hx
 rw [Nat.zero_add,Jbl hb m]
 exact hx
theorem Jhu {w:World} {xs:List ByteArray} {e:TypeId} (h:xs.length≤9223372036854775807) :
  RetL w xs (.returned (.slice (some ⟨w.heap.size,0,none⟩) xs.length xs.length)) (w.alloc (.cells (xs.map Value.string).toArray e)):=by
 have h0:(w.alloc (.cells (xs.map Value.string).toArray e)).heap[w.heap.size]? = some (.cells (xs.map Value.string).toArray e (0,0)):=World.alloc_heap_new w _
 refine ⟨_,⟨_,Jfe h0 h⟩,rfl,(Below.refl _ w).alloc (Nat.le_refl _) _,fun k=>k=w.heap.size,⟨fun u' hk=>Jfe (hk _ rfl _ h0) h,fun k hk=>?_⟩,fun k hk=>by omega⟩
 subst hk
 exact (Array.getElem?_eq_some_iff.1 h0).1
theorem Jnd {w0 u:World} {L:List SA} {e:TypeId} {j:Nat} {v:Value} {xs:List ByteArray} (hj:L[j]? = some (oT cStr e v xs)) (hu:St w0.heap.size w0 L u):RetL w0 xs (.returned v) u :=
 ⟨v,⟨u,Jnv hu hj (fun _ _=>trivial)⟩,retR (p:=fun u=>SlT cStr u ⟨v,xs⟩) (fun S u hs=>⟨Star.osl hj hs,fun _ _=>trivial⟩) u hu⟩
section
variable {P:Program} {ro:Option Nat} {n0:Nat} {w0:World} {ds:List Deferred} {ops:Array Oper} {Q:Exit→Act→World→Prop} {L:List SA} {rest:List Oper} {l:List Value} {d:Option Tmp} {ty:TypeId} {ps:String} {af:Array Edge} {g:Option (Nat × Bool)} {C:World→Prop}
theorem Jf5 {T T':TypeId} {x:Operand} (hT:P.underlying T=some (.interface (P.methodsAt T))) (hx:evo l x=some .nilIface):Det P C ⟨d,.binOp .eql T x (.const .nilIface) T',ty,ps,af,g⟩ l (.bool true):=fun u _=>by
 replace hx:=Jaj hx
 have h:=run_equal_nil_nil u T hT
 have hy:ev l (.const .nilIface) = .nilIface:=rfl
 simp [execOp,Jaf,hx,hy,eqGuard,binOp,h]
theorem Jdk {T T':TypeId} {x y:Operand} {a b:Int} (hx:evo l x=some (.int .u8 a)) (hy:evo l y=some (.int .u8 b)) (h:0≤a - b∧a - b≤255) :
  Det P C ⟨d,.binOp .sub T x y T',ty,ps,af,g⟩ l (.int .u8 (a - b)):=fun u _=>by
 (replace hx:=Jaj hx; replace hy:=Jaj hy)
 simp [execOp,Jaf,hx,hy,eqGuard,binOp,Op.intArith,IntWalk.u8_in _ h]
theorem Jcy {T T':TypeId} {x:Operand} {a:Int} (hT:P.underlying T=some (.int .u8)) (hT':P.underlying T'=some (.int .i64)) (hx:evo l x=some (.int .u8 a)) (h:0≤a∧a≤255) :
  Det P C ⟨d,.convert T T' x,ty,ps,af,g⟩ l (.int .i64 a):=fun u _=>by
 (replace hx:=Jaj hx)
 simp [execOp,Jaf,hx,convert,run_underlying hT,run_underlying hT',Conv.intToInt,IntWalk.i64_in a (by omega)]
theorem Jfu {u:World} {b:Nat} {t:ByteArray} {w:World} {e:TypeId} (hb:∀ j,j < t.size→u.cell? ⟨b,j,none⟩=some (.int .u8 (t.data.toList.getD j 0).toNat)) (h:t.size≤maxLen) :
  SlT cU8 u ⟨.slice (some ⟨b,0,none⟩) t.size (grownCap w t.size 0 e),byts t⟩:=by
 refine ⟨⟨by rw [Jdy],some ⟨b,0,none⟩,grownCap w t.size 0 e,by simp only [Jcv],⟨by simp only [Jcv]; exact grownCap_ge .., ?_⟩,.inr ⟨b,0,rfl,fun m x hx=>?_⟩⟩,fun _ _=>trivial⟩
 ·
  have:=grownCap_le_maxLen w t.size 0 e h
  unfold maxLen at this
  omega
 simp only at hx
 have hm:=(List.getElem?_eq_some_iff.1 hx).1
 rw [Jdy,Jcv,show cU8.k=1 from rfl,Nat.mul_one] at hm
 have h2:=Jgr cU8 (l:=byts t) (i:=(m:Int)) (by omega) (by rw [Jcv]; omega) 0 (by decide)
 rw [show cU8.k=1 from rfl,Nat.mul_one,Nat.add_zero,show ((m:Int)).toNat=m by omega,hx] at h2
 rw [Nat.zero_add,hb m hm,h2]
 have e1:nth (byts t) (m:Int)=((t.data.toList.getD m 0).toNat:Int):=by
  rw [Jgx (by omega) (by omega),Jcw hm]
  congr 2
  rw [List.getD,List.getElem?_eq_getElem (by rw [Jbk]; exact hm)]; rfl
 rw [e1]; rfl
theorem WS.bytes {T T' e:TypeId} {i:Nat} {x:Operand} {t:ByteArray} (hT:P.underlying T=some .string) (hT':P.underlying T'=some (.slice e)) (he:P.underlying e=some (.int .u8)) (hx:evo l x=some (.string t)) (h:t.size≤maxLen)
  {l':Value→List Value} (hl:∀ v,lset l i v=some (l' v)) (k:∀ v,(∃ u0,SlT cU8 u0 ⟨v,byts t⟩)→WS P ro n0 w0 ds ops Q (roT cU8 ⟨v,byts t⟩::L) rest (l' v)) :
  WS P ro n0 w0 ds ops Q L (⟨some i,.convert T T' x,ty,ps,af,none⟩::rest) l:=by
 refine WS.world rfl rfl fun u hu=>?_
 replace hx:=Jaj hx
 refine ⟨.slice (some ⟨u.heap.size,0,none⟩) t.size (grownCap u t.size 0 e),Lib.bytesWorld u e t,?_,?_⟩
 ·
  have h1:(convert T T' (.string t)).run P u=_:=Lib.run_convert_string_bytes u T T' e t hT hT' he
  simp [execOp,hx,h1]
 show wpListIn (FW ro) 0 P ops Q rest ((Act.mk l.toArray ds).put (some i) _) _
 rw [Jau,Jal (hl _)]
 have hc:∀ j,j < t.size→(Lib.bytesWorld u e t).cell? ⟨u.heap.size,j,none⟩=some (.int .u8 (t.data.toList.getD j 0).toNat):=Lib.bytesWorld_cell u e t
 have hat:=Lib.bytesWorld_at_new u e t
 refine k _ ⟨_,Jfu hc h⟩ _ (hu.cons (T:=fun k=>k=u.heap.size) (Lib.bytesWorld_below u e t) ⟨fun u' hk=>Jfu (fun j hj=>?_) h,fun k hk=>?_⟩ fun k hk=>by omega)
 ·
  rw [← hc j hj]
  have h3:=hk _ rfl _ hat
  simp [World.cell?,h3,hat]
 subst hk
 exact (Array.getElem?_eq_some_iff.1 hat).1
end
def kindL:List ByteArray:=[⟨#[]⟩,⟨#[97,116]⟩,⟨#[115,117,109]⟩,⟨#[108,101,115,115]⟩,⟨#[115,97,109,101]⟩,⟨#[104,97,115]⟩,⟨#[114,105,103,104,116]⟩,⟨#[114,101,109,97,105,110]⟩]
def notW:ByteArray:=⟨#[110,111,116]⟩
def Jah (t:ByteArray):Int:=if seq ⟨#[97,116]⟩ t then 1 else if seq ⟨#[115,117,109]⟩ t then 2 else if seq ⟨#[108,101,115,115]⟩ t then 3 else if seq ⟨#[115,97,109,101]⟩ t then 4 else if seq ⟨#[104,97,115]⟩ t then 5
 else if seq ⟨#[114,105,103,104,116]⟩ t then 6 else if seq ⟨#[114,101,109,97,105,110]⟩ t then 7 else 0
theorem Jcm (t:ByteArray):0≤Jah t∧Jah t≤7:=by
 unfold Jah
 repeat' split
 all_goals omega
theorem Jdm {t:ByteArray} {k:Int} (h0:1≤k) (h1:k < 8):seq (nth kindL k) t=decide (Jah t=k):=by
 have e:kindL.length=8:=rfl
 by_cases h:seq (nth kindL k) t=true
 ·
  rw [h]
  rw [Jd4] at h
  subst h
  rcases (show k=1∨k=2∨k=3∨k=4∨k=5∨k=6∨k=7 by omega) with rfl | rfl | rfl | rfl | rfl | rfl | rfl <;> decide +kernel
 rw [Bool.not_eq_true] at h
 rw [h]
 symm
 rw [decide_eq_false_iff_not]
 intro hk
 subst hk
 revert h h0 h1
 unfold Jah
 repeat' split
 all_goals (intro h0 h1 h)
 all_goals first | omega | (rename_i hh; exact absurd (hh.symm.trans h) (by decide))
theorem Jjr {t:ByteArray} (h:seq t ⟨#[]⟩=false):Lib.idxOfS kindL t=if Jah t=0 then -1 else Jah t:=by
 have h0:¬ (⟨#[]⟩:ByteArray)=t:=fun e=>by subst e; exact absurd h (by rw [Ji9]; decide)
 have hb:=Jcm t
 have hd:∀ j,j < 8→kindL.getD j ByteArray.empty=nth kindL (j:Int):=fun j hj=>by
  rcases (show j=0∨j=1∨j=2∨j=3∨j=4∨j=5∨j=6∨j=7 by omega) with rfl | rfl | rfl | rfl | rfl | rfl | rfl | rfl <;> rfl
 by_cases hk:Jah t=0
 ·
  rw [if_pos hk]
  have hn:∀ k:Int,1≤k→k < 8→¬ nth kindL k=t:=fun k a b e=>by
   have:=Jdm (t:=t) a b
   rw [Jd4.2 e] at this
   have:=of_decide_eq_true this.symm
   omega
  have n1:=hn 1 (by decide) (by decide); have n2:=hn 2 (by decide) (by decide); have n3:=hn 3 (by decide) (by decide); have n4:=hn 4 (by decide) (by decide)
  have n5:=hn 5 (by decide) (by decide); have n6:=hn 6 (by decide) (by decide); have n7:=hn 7 (by decide) (by decide)
  have e:∀ k:Nat,k < 8→kindL[k]? = some (nth kindL (k:Int)):=fun k hk=>by
   rcases (show k=0∨k=1∨k=2∨k=3∨k=4∨k=5∨k=6∨k=7 by omega) with rfl | rfl | rfl | rfl | rfl | rfl | rfl | rfl <;> rfl
  have a1:nth kindL 1=(⟨#[97,116]⟩:ByteArray):=rfl
  have a2:nth kindL 2=(⟨#[115,117,109]⟩:ByteArray):=rfl
  have a3:nth kindL 3=(⟨#[108,101,115,115]⟩:ByteArray):=rfl
  have a4:nth kindL 4=(⟨#[115,97,109,101]⟩:ByteArray):=rfl
  have a5:nth kindL 5=(⟨#[104,97,115]⟩:ByteArray):=rfl
  have a6:nth kindL 6=(⟨#[114,105,103,104,116]⟩:ByteArray):=rfl
  have a7:nth kindL 7=(⟨#[114,101,109,97,105,110]⟩:ByteArray):=rfl
  rw [a1] at n1; rw [a2] at n2; rw [a3] at n3; rw [a4] at n4; rw [a5] at n5; rw [a6] at n6; rw [a7] at n7
  simp only [Lib.idxOfS,kindL,Lib.idxFromS,h0,n1,n2,n3,n4,n5,n6,n7,if_false]
 rw [if_neg hk]
 have h1:=Jdm (t:=t) (k:=Jah t) (by omega) (by omega)
 rw [decide_eq_true rfl,Jd4] at h1
 have hh:=Lib.idxFromS_hit t kindL (Jah t).toNat 0 (by show (Jah t).toNat < 8; omega) (by rw [hd _ (by omega),show (((Jah t).toNat:Nat):Int)=Jah t by omega]; exact h1) fun j hj=>by
  rw [hd j (by omega)]
  rcases Nat.eq_zero_or_pos j with rfl | hj0
  ·
   exact h0
  intro e
  have:=Jdm (t:=t) (k:=(j:Int)) (by omega) (by omega)
  rw [Jd4.2 e] at this
  have:=of_decide_eq_true this.symm
  omega
 unfold Lib.idxOfS
 rw [hh]
 omega
def kU (t:ByteArray) (k:Int):Int:=if Jah t < k then Jah t else 0
theorem kU_1 (t:ByteArray):kU t 1=0:=by
 have:=Jcm t
 unfold kU
 split <;> omega
theorem kU_8 (t:ByteArray):kU t 8=Jah t:=by
 have:=Jcm t
 unfold kU
 rw [if_pos (by omega)]
theorem Jk2 {t:ByteArray} {k:Int} (h0:1≤k) (h1:k < 8) (h:seq (nth kindL k) t=true):kU t (k+1)=k:=by
 rw [Jdm h0 h1,decide_eq_true_eq] at h
 unfold kU
 rw [if_pos (by omega),h]
theorem Jiq {t:ByteArray} {k:Int} (h0:1≤k) (h1:k < 8) (h:seq (nth kindL k) t=false):kU t (k+1)=kU t k:=by
 rw [Jdm h0 h1,decide_eq_false_iff_not] at h
 unfold kU
 split <;> split <;> omega
def offK (k:Int):List Nat:=if k=1 then [1,3] else if k=2 then [1,2,3] else if k=3∨k=4 then [1,2] else if k=5∨k=6 then [3,4] else [1,3,4]
def setF (k:Int) (ns:List Int) (g:List Int) (nt:Bool):Clue :=
 if k=1 then ⟨k,nth ns 0,0,nth ns 1,0,g,nt⟩ else if k=2 then ⟨k,nth ns 0,nth ns 1,nth ns 2,0,g,nt⟩ else if k=3∨k=4 then ⟨k,nth ns 0,nth ns 1,0,0,g,nt⟩
 else if k=5∨k=6 then ⟨k,0,0,nth ns 0,nth ns 1,g,nt⟩ else ⟨k,nth ns 0,0,nth ns 1,nth ns 2,g,nt⟩
theorem Jla (k:Int) (ns g:List Int) (nt:Bool):(setF k ns g nt).g=g:=by
 unfold setF
 repeat' split
 all_goals rfl
def setC (cs:List Value) (os:List Nat) (ns:List Int):List Value:=(os.zip ns).foldl (fun c p=>c.set p.1 (.int .i64 p.2)) cs
theorem Jdw {cs:List Value}:∀ {os:List Nat} {ns:List Int} {o:Nat} {n:Int},os[ns.length]? = some o→(setC cs os ns).set o (.int .i64 n)=setC cs os (ns++[n])
 | [],ns,o,n,h=>by simp at h
 | p::os,[],o,n,h=>by
  simp at h
  subst h
  simp [setC]
 | p::os,m::ns,o,n,h=>by
  have:=Jdw (cs:=cs.set p (.int .i64 m)) (os:=os) (ns:=ns) (o:=o) (n:=n) (by simpa using h)
  simpa [setC] using this
theorem Jjj (cs:List Value) (os:List Nat):setC cs os []=cs:=by cases os <;> rfl
theorem Jbm:∀ (os:List Nat) (ns:List Int) (cs:List Value),(setC cs os ns).length=cs.length
 | [],ns,cs=>by simp [setC]
 | p::os,[],cs=>by simp [setC]
 | p::os,m::ns,cs=>by
  have:=Jbm os ns (cs.set p (.int .i64 m))
  simpa [setC] using this
theorem Jde:∀ (os:List Nat) (ns:List Int) (cs:List Value),(∀ v∈cs,v.oneCell'=true)→∀ v∈setC cs os ns,v.oneCell'=true
 | [],ns,cs,h=>by simpa [setC] using h
 | p::os,[],cs,h=>by simpa [setC] using h
 | p::os,m::ns,cs,h=>by
  have:=Jde os ns (cs.set p (.int .i64 m)) fun v hv=>by
   rcases List.mem_or_eq_of_mem_set hv with h1 | rfl
   ·
    exact h v h1
   rfl
  simpa [setC] using this
theorem Jij {k:Int} {ns g:List Int} {gv:Value} {nt:Bool} (h:ns.length=(offK k).length):setC (Jag ⟨k,0,0,0,0,g,nt⟩ gv) (offK k) ns=Jag (setF k ns g nt) gv:=by
 revert h
 unfold offK setF
 repeat' split
 all_goals intro h
 all_goals match ns,h with
  | [a,b],_=>rfl
  | [a,b,c],_=>rfl
theorem Jg7 (k:Int):2≤(offK k).length∧(offK k).length≤3:=by
 unfold offK
 repeat' split
 all_goals decide
theorem Jmc (k:Int):∀ o∈offK k,o < 7:=by
 unfold offK
 repeat' split
 all_goals decide
def Jb2 (m:Int):List ByteArray→Option (List Int)
 | []=>some []
 | x::r=>match numB m x,Jb2 m r with
  | some n,some ns=>some (n::ns)
  | _,_=>none
theorem Jc3 {m:Int}:∀ {xs:List ByteArray} {x:ByteArray} {ns:List Int} {n:Int},Jb2 m xs=some ns→numB m x=some n→Jb2 m (xs++[x])=some (ns++[n])
 | [],x,ns,n,h,h2=>by
  simp [Jb2] at h; subst h
  simp [Jb2,h2]
 | y::xs,x,ns,n,h,h2=>by
  unfold Jb2 at h
  split at h
  ·
   rename_i k ks hk hks
   cases h
   rw [List.cons_append]
   unfold Jb2
   rw [hk,Jc3 hks h2]; rfl
  cases h
theorem Je8 {m:Int}:∀ {xs:List ByteArray} {x:ByteArray},x∈xs→numB m x=none→Jb2 m xs=none
 | y::xs,x,h,h2=>by
  unfold Jb2
  rcases List.mem_cons.1 h with rfl | h
  ·
   rw [h2]
  rw [Je8 h h2]; cases numB m y <;> rfl
theorem Jd6 {m:Int}:∀ {xs:List ByteArray} {ns:List Int},Jb2 m xs=some ns→ns.length=xs.length
 | [],ns,h=>by simp [Jb2] at h; subst h; rfl
 | y::xs,ns,h=>by
  unfold Jb2 at h
  split at h
  ·
   rename_i k ks hk hks
   cases h
   rw [List.length_cons,Jd6 hks,List.length_cons]
  cases h
def Jbj (t:ByteArray):List Int:=(bl t).map fun b=>(b.toNat:Int) - 48
theorem Jbn (t:ByteArray):(Jbj t).length=t.size:=by simp [Jbj]
theorem Jb0 {t:ByteArray} {i:Int} (h0:0≤i) (h1:i < t.size):(Jbj t).take (i+1).toNat=(Jbj t).take i.toNat++[byt t i - 48]:=by
 have hl:i.toNat < (bl t).length:=by rw [Jbk]; omega
 have e:=Jcw (t:=t) (i:=i.toNat) (by omega)
 rw [show ((i.toNat:Nat):Int)=i by omega] at e
 rw [show (i+1).toNat=i.toNat+1 by omega,List.take_succ_eq_append_getElem (by simpa [Jbj] using hl)]
 congr 2
 rw [e]
 simp [Jbj]
def rdN (nt:Bool) (k:Int) (r:List ByteArray) (g:List Int):Option Clue:=if r.length=(offK k).length then (Jb2 3 r).map fun ns=>setF k ns g nt else none
def Jda (nt:Bool) (k:Int) (r:List ByteArray):Option Clue :=
 if k=0 then none else if k=6 then (if r.length=3∧Jap (nth r 2) 4=true then rdN nt 6 (r.take 2) (Jbj (nth r 2)) else none) else rdN nt k r []
def Jfi (nt:Bool):List ByteArray→Option Clue
 | []=>none
 | k0::r=>Jda nt (Jah k0) r
theorem Jei {nt:Bool} {l:List ByteArray} (h:0 < l.length):Jfi nt l=Jda nt (Jah (nth l 0)) l.tail:=by
 cases l with
 | nil=>cases h
 | cons k r=>rfl
theorem Jed {nt:Bool} {l:List ByteArray} (h:(l.length:Int)=0∨seq (nth l 0) ⟨#[]⟩=true):Jfi nt l=none:=by
 cases l with
 | nil=>rfl
 | cons k r =>
  rcases h with h | h
  ·
   simp at h; omega
  have e:k=⟨#[]⟩:=Jd4.1 h
  subst e
  rw [Jfi,show Jah ⟨#[]⟩=0 by decide +kernel]
  rfl
theorem Jfp {nt:Bool} {k:Int} {r:List ByteArray} (hk:k=6) (hl:r.length=3) (hd:Jap (nth r 2) 4=true):Jda nt k r=rdN nt k (r.take 2) (Jbj (nth r 2)):=by
 subst hk
 unfold Jda
 rw [if_neg (by decide),if_pos rfl,if_pos ⟨hl,hd⟩]
theorem Jc5 {nt:Bool} {k:Int} {r:List ByteArray} (hk:k=6) (h:¬ (r.length=3∧Jap (nth r 2) 4=true)):Jda nt k r=none:=by
 subst hk
 unfold Jda
 rw [if_neg (by decide),if_pos rfl,if_neg h]
theorem Jd1 {nt:Bool} {k:Int} {r:List ByteArray} (h0:¬ k=0) (hk:¬ k=6):Jda nt k r=rdN nt k r []:=by
 unfold Jda
 rw [if_neg h0,if_neg hk]
theorem Jiu {nt:Bool} {k:Int} {r:List ByteArray} {g:List Int} (h:¬ r.length=(offK k).length):rdN nt k r g=none:=if_neg h
theorem Jiy {nt:Bool} {k:Int} {r:List ByteArray} {g:List Int} {x:ByteArray} (h:x∈r) (hx:numB 3 x=none):rdN nt k r g=none:=by
 unfold rdN
 rw [Je8 h hx]
 split <;> rfl
theorem Jiw {nt:Bool} {k:Int} {r:List ByteArray} {g ns:List Int} (h:r.length=(offK k).length) (hn:Jb2 3 r=some ns):rdN nt k r g=some (setF k ns g nt):=by
 unfold rdN
 rw [if_pos h,hn]; rfl
def Ja2 (t:ByteArray):Option Clue :=
 if seq (nth (Jan 32 t) 0) notW then Jfi true (Jan 32 t).tail else Jfi false (Jan 32 t)
theorem Jh5 {t:ByteArray} {nt:Bool} {l:List ByteArray} (h1:nt=seq (nth (Jan 32 t) 0) notW) (h2:l=if nt then (Jan 32 t).tail else Jan 32 t):Ja2 t=Jfi nt l:=by
 unfold Ja2
 rw [← h1,h2]
 cases nt <;> rfl
theorem Jdi {α:Type} (l:List α):(l.drop 1).take (l.length - 1)=l.tail:=by
 rw [List.take_of_length_le (by simp),List.drop_one]
theorem St.roCut {α:Type} {C:Cel α} {n0:Nat} {w0 u:World} {L:List SA} {s:Sl α} {lo hi:Nat} (h:St n0 w0 (roT C s::L) u) (h0:lo≤hi) (h1:hi≤s.l.length):St n0 w0 (roT C (s.cut C.k lo hi)::L) u :=
 St.toRo (A:=roT C s) (p:=fun u=>SlT C u (s.cut C.k lo hi)) (fun S u h=>(roS.now h).cut h0 h1) h
def Jd9:Clue:=⟨0,0,0,0,0,[],false⟩
def Jbu (lw ls:Int) (t:ByteArray):Int × Clue :=
 if Jat lw ls=false then (10,Jd9) else if 65536 < (t.size:Int) then (2,Jd9) else match Ja2 t with
  | none=>(4,Jd9)
  | some c=>if Jar lw ls c then (0,c) else (11,Jd9)
def Jjy (w:World) (r:Option Clue):Ending→World→Prop:=fun e w' =>
 ∃ x:List Value × Value,(x.1.length=7∧(∀ v∈x.1,v.oneCell'=true)∧∀ c,r=some c→x.1=Jag c x.2∧∃ u0,SlI u0 x.2 c.g)∧RetF w (.tuple #[.agg x.1.toArray,.bool r.isSome]) (roS fun u=>∀ c,r=some c→SlI u x.2 c.g) e w'
theorem Jcb {w0 u:World} {L:List SA} {r:Option Clue} {cs:List Value} (h:r=none) (hl:cs.length=7) (h1:∀ v∈cs,v.oneCell'=true) (hu:St w0.heap.size w0 L u):Jjy w0 r (.returned (.tuple #[.agg cs.toArray,.bool false])) u:=by
 subst h
 exact ⟨(cs,.nilIface),⟨hl,h1,fun c h=>by cases h⟩,retR (p:=fun u=>∀ c,(none:Option Clue)=some c→SlI u .nilIface c.g) (fun S u hs c h=>by cases h) u hu⟩
theorem Ja7 {c:Clue} {gv:Value} (h:gv.oneCell'=true):∀ v∈Jag c gv,v.oneCell'=true:=by
 intro v hv
 simp only [Jag,List.mem_cons,List.not_mem_nil,or_false] at hv
 rcases hv with rfl | rfl | rfl | rfl | rfl | rfl | rfl <;> first | rfl | exact h
theorem Jkt {w0 u:World} {L:List SA} {r:Option Clue} {c:Clue} {gv:Value} {j:Nat} (h:r=some c) (hg:gv.oneCell'=true) (hj:L[j]? = some (roI gv c.g)) (hu:St w0.heap.size w0 L u):Jjy w0 r (.returned (.tuple #[.agg (Jag c gv).toArray,.bool true])) u:=by
 subst h
 refine ⟨(Jag c gv,gv),⟨rfl,Ja7 hg,fun d hd=>?_⟩,retR (p:=fun u=>∀ d,some c=some d→SlI u gv d.g) (fun S u hs d hd=>?_) u hu⟩
 ·
  cases hd; exact ⟨rfl,u,hu.roI hj⟩
 cases hd; exact hs.ro hj
def ptrL (b:Nat) (os:List Nat):List Value:=os.map fun o=>.pointer (some ⟨b,o,none⟩)
def Jna (e:TypeId) (w:World) (b:Nat) (os:List Nat):Ending→World→Prop:=fun en w'=>∃ v:Value,v.oneCell'=true∧RetF w v (osl e 1 v os.length (ptrL b os)) en w'
theorem Jgh {e:TypeId} {w0 u:World} {L:List SA} {b j:Nat} {os os':List Nat} {v:Value} (h:os=os') (hv:v.oneCell'=true) (hj:L[j]? = some (osl e 1 v os'.length (ptrL b os'))) (hu:St w0.heap.size w0 L u):Jna e w0 b os (.returned v) u:=by
 subst h
 exact ⟨v,hv,retF hj u hu⟩
theorem Jnn {b:Nat} {os:List Nat} {i:Nat} {o:Nat} (h:os[i]? = some o):(ptrL b os)[i]? = some (.pointer (some ⟨b,o,none⟩)):=by simp [ptrL,h]
theorem Jbx (b:Nat) (os:List Nat):∀ v∈ptrL b os,v.oneCell'=true:=by
 intro v hv
 obtain ⟨o,_,rfl⟩:=List.mem_map.1 hv
 rfl
def Jh4 (c:Clue):List Int:=if c.k=1 then [c.a,c.n] else if c.k=2 then [c.a,c.b,c.n] else if c.k=3∨c.k=4 then [c.a,c.b] else if c.k=5∨c.k=6 then [c.n,c.m] else [c.a,c.n,c.m]
theorem Jhp (c:Clue):(Jh4 c).length=(offK c.k).length:=by
 unfold Jh4 offK
 repeat' split
 all_goals rfl
def RetI (e:TypeId) (w:World) (xs:List Int):Ending→World→Prop:=fun en w'=>∃ v:Value,v.oneCell'=true∧RetF w v (oints e v xs) en w'
theorem Jge {e:TypeId} {w0 u:World} {L:List SA} {j:Nat} {xs xs':List Int} {v:Value} (h:xs=xs') (hv:v.oneCell'=true) (hj:L[j]? = some (oints e v xs')) (hu:St w0.heap.size w0 L u):RetI e w0 xs (.returned v) u:=by
 subst h
 exact ⟨v,hv,retF hj u hu⟩
def Jjp (w:World) (x:Int × Clue):Ending→World→Prop:=fun e w'=>∃ gv:Value,(gv.oneCell'=true∧∃ u0,SlI u0 gv x.2.g)∧RetF w (.tuple #[.agg (Jag x.2 gv).toArray,.int .i64 x.1]) (roI gv x.2.g) e w'
theorem Jc7 {w0 u:World} {L:List SA} {x:Int × Clue} {e:Int} (h:x=(e,Jd9)) (hu:St w0.heap.size w0 L u):Jjp w0 x (.returned (.tuple #[.agg (Jag Jd9 (.slice none 0 0)).toArray,.int .i64 e])) u:=by
 subst h
 exact ⟨_,⟨rfl,u,SlI.nil u⟩,retR (p:=fun u=>SlI u (.slice none 0 0) []) (fun S u hs=>SlI.nil u) u hu⟩
theorem Jk6 {w0 u:World} {L:List SA} {x:Int × Clue} {e:Int} {c:Clue} {gv:Value} (h:x=(e,c)) (hg:gv.oneCell'=true) (hp:∀ S u,Star L S u→SlI u gv c.g) (hu:St w0.heap.size w0 L u):Jjp w0 x (.returned (.tuple #[.agg (Jag c gv).toArray,.int .i64 e])) u:=by
 subst h
 exact ⟨_,⟨hg,u,hp _ u hu.star⟩,retR (p:=fun u=>SlI u gv c.g) hp u hu⟩
theorem Jm8 {c:Clue} {gv:Value} (h:∀ v∈Jag c gv,v.oneCell'=true):gv.oneCell'=true:=h gv (by simp [Jag])
theorem Jdr {lw ls:Int} {t:ByteArray} (h:¬ Jb8 lw ls=0):Jbu lw ls t=(Jb8 lw ls,Jd9):=by
 unfold Jb8 at h ⊢
 unfold Jbu
 cases hb:Jat lw ls with
 | true=>rw [hb] at h; simp at h
 | false=>rfl
theorem Jd8 {lw ls:Int} {t:ByteArray} (hL:Jat lw ls=true) (h:65536 < (t.size:Int)):Jbu lw ls t=(2,Jd9):=by
 unfold Jbu
 rw [if_neg (by simp [hL]),if_pos h]
theorem Jd3 {lw ls:Int} {t:ByteArray} (hL:Jat lw ls=true) (h:¬ 65536 < (t.size:Int)) (hr:Ja2 t=none):Jbu lw ls t=(4,Jd9):=by
 unfold Jbu
 rw [if_neg (by simp [hL]),if_neg h,hr]
theorem Jek {lw ls:Int} {t:ByteArray} {c:Clue} (hL:Jat lw ls=true) (h:¬ 65536 < (t.size:Int)) (hr:Ja2 t=some c) (hc:Jar lw ls c=false):Jbu lw ls t=(11,Jd9):=by
 unfold Jbu
 rw [if_neg (by simp [hL]),if_neg h,hr]
 simp [hc]
theorem Je9 {lw ls:Int} {t:ByteArray} {c:Clue} (hL:Jat lw ls=true) (h:¬ 65536 < (t.size:Int)) (hr:Ja2 t=some c) (hc:Jar lw ls c=true):Jbu lw ls t=(0,c):=by
 unfold Jbu
 rw [if_neg (by simp [hL]),if_neg h,hr]
 simp [hc]
theorem Jii {lw ls:Int} (h:Jb8 lw ls=0):Jat lw ls=true:=by
 unfold Jb8 at h
 cases hb:Jat lw ls with
 | true=>rfl
 | false=>rw [hb] at h; simp at h
section
variable {P:Program} {l:List Value} {d:Option Tmp} {ty:TypeId} {ps:String} {af:Array Edge} {g:Option (Nat × Bool)} {C:World→Prop}
theorem Jlp {T e:TypeId} {gl n k:Nat} (hT:P.underlying T=some (.array n e)) (hk:∃ i,P.info? e=some i∧i.size=k) (hn:n≠0):Det P C ⟨d,.slice T (.global gl) none none none,ty,ps,af,g⟩ l (.slice (some ⟨gl,0,none⟩) n n):=fun u _=>by
 obtain ⟨i,h1,h2⟩:=hk
 have hx:ev l (.global gl) = .pointer (some ⟨gl,0,none⟩):=rfl
 simp [execOp,Jaf,hx,Instr.sliceAt,Instr.sureAddr,run_underlying hT,Instr.sliceBounds,Instr.sliceBound,hn,sizeOf,run_typeInfo u h1,Jbd]
end
end Go.Proofs.YtdpbapffdmahnaaGreatDoor
namespace Go.Proofs.YtdpbapffdmahnaaGreatDoor
set_option linter.unusedVariables false
set_option linter.unusedSimpArgs false
open Go.ChangeShapes Go.WideShapes Go.ChangeAt Go.RowKit Go.Deep Go.Joins
section
variable {H:Type} {enc:TypeId × Value→H} {P:Program} {w:World} {base:Nat}
theorem Jco (hl:laidOutB P=true) {W W':World} {sp:Nat→Bool}:∀ {ts:List TypeId} {vs:List Value} {ds:List (DataW H)} {ps:List MemPlace},(∀ t∈ts,P.readableRec t=true∧t < P.types.size) →
  DataW.TrodAll enc P W base (fun _=>true) true ts vs ds ps→(∀ p∈ps,W.sameAt W' p)→(∀ p∈ps,sp p.block=true)→DataW.TrodAll enc P W' base sp true ts vs ds ps
 | [],[],[],ps,_,h,_,_=>h
 | t::ts,v::vs,d::ds,ps,hr,⟨p,q,h1,h2,e⟩,hs,hsp=>by
  subst e
  exact ⟨p,q,WideElems.Trod_stays hl (hr t (by simp)).1 (hr t (by simp)).2 h1 (fun x hx=>hs x (by simp [hx])) (fun x hx=>hsp x (by simp [hx])),
   Jco hl (fun t ht=>hr t (by simp [ht])) h2 (fun x hx=>hs x (by simp [hx])) (fun x hx=>hsp x (by simp [hx])),rfl⟩
 | [],[],_::_,_,_,h,_,_=>h.elim
 | [],_::_,_,_,_,h,_,_=>h.elim
 | _::_,[],_,_,_,h,_,_=>h.elim
 | _::_,_::_,[],_,_,h,_,_=>h.elim
theorem Jkn {f:Func} {s:ChangeSpec} {apart fresh handsOn again:Bool} {W W':World} {args:Array Value} {ds:List (DataW H)} {gs:List (DataW H)} {before:List MemPlace} {tb:TypeId}
  (hl:laidOutB P=true) (hr0:(f.params.toList.all fun t=>P.readableRec t && decide (t < P.types.size))=true) (hrt:f.resultTypes = #[tb]) (htb:P.underlying tb=some .bool)
  (hW:DataW.Whole enc P f.params.toList s.vars apart W args.toList ds gs before) (hv:s.vars=[]) (hb:Below W.heap.size W W')
  (hres:(s.fn H (ds++gs)).results=[.lit (.bool true)]) (hargs:(s.fn H (ds++gs)).args=ds) (hvars:(s.fn H (ds++gs)).vars=[]):s.post enc P f apart fresh handsOn again W args (.bool true) W':=by
 have hr:∀ t∈f.params.toList,P.readableRec t=true∧t < P.types.size:=fun t ht=>by
  have:=List.all_eq_true.1 hr0 t ht
  simpa using this
 have hlt:∀ p∈before,p.block < W.heap.size:=fun p hp=>hW.lt p hp
 have hW0:=hW
 obtain ⟨p,q,hA,hV,rfl,hfz,hnd⟩:=hW
 rw [hv] at hV
 obtain ⟨rfl,rfl⟩:=trodVars_none hV
 have hone:∀ (b:Nat) (sp:Nat→Bool) (hd:Bool),DataW.TrodAll enc P W' b sp hd [tb] [.bool true] [.lit (.bool true)] []:=fun b sp hd =>
  trodAll_mk1 ⟨1,by simp [DataW.trod,Value.cells,htb]⟩
 have hall:∀ sp:Nat→Bool,(∀ x∈p,sp x.block=true)→DataW.TrodAll enc P W' 0 sp true f.params.toList args.toList ds p:=fun sp hsp =>
  Jco hl hr hA (fun x hx=>hb.same (hlt x (by simp [hx]))) hsp
 refine ⟨ds,[],p++[],[],p,[],hW0,?_,?_,?_,hb.frame _,fun _=>⟨?_,.lit (.bool true)::ds,[],[]++p++[],?_,?_⟩⟩
 ·
  rw [hres,hrt]; exact hone _ _ _
 ·
  rw [hargs]; exact hall _ (fun x hx=>by simpa using hlt x (by simp [hx]))
 ·
  rw [hvars,hv]; rfl
 ·
  rw [hrt]
  intro j t r h1 h2
  have hj:j=0:=by
   have:=(Array.getElem?_eq_some_iff.1 h1).1
   simpa using this
  subst hj
  simp at h1
  simp [Value.resultList] at h2
  subst h1; subst h2
  simp [Value.okWide,htb,Cell.okWide,Cell.ok]
 ·
  rw [hrt,hv]
  refine ⟨[]++p,[],trodAll_append (hall _ (fun _ _=>rfl)) (hone _ _ _),rfl,rfl,?_,?_⟩
  ·
   intro b off hx
   rw [hb.frozen (p:=⟨b,off,none⟩) (hlt (.cell b off) (by simpa using hx))]
   exact hfz b off (by simpa using hx)
  intro ha
  have:=hnd ha
  simpa using this
 intro x hx _
 simpa using hx
end
section
variable {H:Type} {enc:TypeId × Value→H} {P:Program} {w:World} {base:Nat} {held:Bool}
def Rd (enc:TypeId × Value→H) (P:Program) (w:World) (base:Nat) (held:Bool) (t:TypeId) {α:Type} (C:Cel α):Prop :=
 ∀ (fuel:Nat) (cs:List Value) (x:DataW H × List MemPlace),DataW.trod enc P w base (fun _=>true) held fuel t cs=some x→∃ a,cs=C.cells a∧C.ok w a
theorem Jk8 {t:TypeId} (ht:P.underlying t=some (.int .i64)):Rd enc P w base held t cInt:=fun _ _ _ h=>let ⟨n,e,_⟩:=DataW.trod_int ht h; ⟨n,e,trivial⟩
end
end Go.Proofs.YtdpbapffdmahnaaGreatDoor
namespace Go.Proofs.YtdpbapffdmahnaaGreatDoor
set_option linter.unusedVariables false
set_option linter.unusedSimpArgs false
open Go.RowKit Go.Proofs
theorem Jex {H:Type} {enc:TypeId × Value→H} {a:Assume} {C:Checked} {os:Os} {f:FuncId} {fn:Func} {s:ChangeSpec} {conds:List PathCond} {apart fresh handsOn again:Bool} {X:World→Array Value→Prop}
  (hX:∀ (w w':World) (args:Array Value),w.heap=w'.heap→X w args→X w' args)
  (own:ownKnob C.prog.godebug=none) (started:os.Started) (noInit:C.prog.inits.idxOf? f=none) (hfn:C.prog.funcs[f]? = some fn)
  (witness:∃ (w:World) (tape:Tape) (i:Input),w.os=os∧(w.forCall tape i).Shaped C.prog∧i.vars=[]∧Input.okWide C.prog (w.forCall tape i) .any w.heap.size f i ∧
   ((s.pre enc C.prog fn conds apart (w.forCall tape i).memory i.args∧X (w.forCall tape i).memory i.args)∧sizedMet enc C.prog fn (OpenSpec.ofChange s) apart (w.forCall tape i).memory i.args)∧a.holds C.prog (lone (Frame.enter C.prog f i.args .normal) [] (w.forCall tape i)))
  (contract:∀ (W:World) (base:Nat) (args:Array Value) (ds gs:List (DataW H)) (before:List MemPlace),W.ShapedOpen C.prog →
   (∀ (j:Nat) t v,fn.params[j]? = some t→args[j]? = some v→Value.okWide C.prog W .any base t v) →
   DataW.Whole enc C.prog fn.params.toList s.vars apart W args.toList ds gs before →
   X W args →
   Calls C.prog f args W fun e W'=>∃ v,e = .returned v∧s.post enc C.prog fn apart fresh handsOn again W args v W') :
  ReturnsInHanded a C os f .any (fun w args=>(s.pre enc C.prog fn conds apart w args∧X w args)∧sizedMet enc C.prog fn (OpenSpec.ofChange s) apart w args) (s.post enc C.prog fn apart fresh handsOn again):=by
 refine returnsInHanded_of_calls own started noInit witness fun w tape i _ hsh _ hok hpre _=>?_
 obtain ⟨_,_,_,fn',hfn',_,_,_,_,hval⟩:=hok
 obtain rfl:fn'=fn:=Option.some.inj (hfn'.symm.trans hfn)
 obtain ⟨⟨⟨ds,gs,before,hw,_⟩,hx⟩,_⟩:=hpre
 refine (contract (w.forCall tape i) w.heap.size i.args ds gs before hsh hval (DataW.Whole.of_heap (w':=w.forCall tape i) (by rfl) hw) (hX _ _ _ (by rfl) hx)).mono fun e W' ⟨v,he,hp⟩=>?_
 subst he
 exact ChangeSpec.post_blind hp
theorem Jfr {P:Program} {W:World} {name:String} {zs:List (List UInt8)} {rest:List (String × DataW Unit)} {g:Nat} {t e:TypeId} {n:Nat}
  (hg:P.globalNamed name=some g) (hty:(P.globals[g]?).map (·.type)=some t) (ht:P.underlying t=some (.array n e)) (he:P.underlying e=some .string) (hce:P.cellsOf e=1) (hct:P.cellsOf t=n)
  (h:laidMet P ((name,.agg (zs.map fun z=>.lit (.string z)))::rest) W):∀ j,j < n→W.cell? ⟨g,j,none⟩=some (.string ⟨(zs.getD j []).toArray⟩):=by
 obtain ⟨ps,⟨g',t',cs,fuel,p,q,hg',ht',hvar,hd,_,_⟩,_⟩:=h
 obtain rfl:=Option.some.inj (hg.symm.trans hg')
 obtain rfl:=Option.some.inj (hty.symm.trans ht')
 intro j hj
 obtain ⟨xs,m,_,hx,hl,hxl,hi⟩:=DataW.trod_array ht hd
 have h1:=hi j hj
 rw [hce,Nat.mul_one] at h1
 have hj2:j < xs.length:=by omega
 rw [List.getElem?_eq_getElem hj2] at h1
 obtain ⟨s,e1,e2,_⟩:=DataW.trod_string he h1
 have e3:xs.map (·.1)=zs.map fun z=>DataW.lit (.string z):=by
  have:=congrArg Prod.fst hx
  exact (DataW.agg.inj this).symm
 have e4:(DataW.lit (.string s.data.toList):DataW Unit) = .lit (.string (zs.getD j [])):=by
  have a1:(xs.map (·.1))[j]? = some (.lit (.string s.data.toList)):=by rw [List.getElem?_map,List.getElem?_eq_getElem hj2,e2]; rfl
  rw [e3,List.getElem?_map] at a1
  cases hz:zs[j]? with
  | none=>rw [hz] at a1; cases a1
  | some z =>
   rw [hz] at a1
   have:=Option.some.inj a1
   rw [← this,List.getD,hz]; rfl
 have e5:s.data.toList=zs.getD j []:=by
  injection e4 with e6
  injection e6
 rw [World.var?_cell hg hvar j]
 have hc:cs.toList[j]? = some (.string s):=by
  have:=congrArg (fun l:List Value=>l[0]?) e1
  simp only [List.getElem?_take,List.getElem?_drop] at this
  simpa using this
 rw [← Array.getElem?_toList,hc, ← e5]
end Go.Proofs.YtdpbapffdmahnaaGreatDoor
