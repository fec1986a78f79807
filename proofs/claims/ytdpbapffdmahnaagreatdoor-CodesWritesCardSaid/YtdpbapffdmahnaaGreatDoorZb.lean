/- Merged texts of this proof (walks and plain laws), printed by a program of the prover. -/
import Derived.Test.YtdpbapffdmahnaaGreatDoorZa
import Derived.Laws.StructEq
import Derived.ChangeKeysEq
import Derived.Lib.ItoaLen
import Derived.Lib.Join
import Derived.Lib.SplitLaws
import Derived.Lib.SlTrimSet
import Derived.Lib.Atoi
import Derived.Lib.AtoiErrMem
import Derived.Lib.SlicesS
import Derived.WideLaws
import Derived.ProofKit
import Derived.Deep.Slices
import Derived.Lib.SmallJoins
import Derived.MakeChecks
import Derived.ChangeVars
import Derived.LaidMore
import Derived.Lay
import Derived.LaidOnce
import Derived.SevenTiedAt
import Derived.Handed
import Derived.OpenShut
import Derived.Shelf.Vars
namespace Go.Proofs.YtdpbapffdmahnaaGreatDoor
set_option linter.unusedVariables false
set_option linter.unusedSimpArgs false
open Go.RowKit
structure Cel (α:Type) where
 k:Nat
 cells:α→List Value
 ok:World→α→Prop
 len:∀ a,(cells a).length=k
 ext:∀ (w u:World) (a:α),ok w a→Below w.heap.size w u→ok u a
 one:∀ (w:World) (a:α),ok w a→∀ v∈cells a,v.oneCell'=true
structure Sl (α:Type) where
 v:Value
 l:List α
instance {α:Type}:Inhabited (Sl α):=⟨⟨.slice none 0 0,[]⟩⟩
section
variable {α:Type} (C:Cel α)
def Ja8 (l:List α):List Value:=(l.map C.cells).flatten
theorem Jb5 (l:List α):(Ja8 C l).length=l.length * C.k:=by
 unfold Ja8
 rw [Jhu C.k _ (by intro x hx; obtain ⟨a,_,rfl⟩:=List.mem_map.1 hx; exact C.len a),List.length_map]
theorem Jjv (l m:List α):Ja8 C (l++m)=Ja8 C l++Ja8 C m:=by simp [Ja8]
theorem Ji6 (a:α):Ja8 C [a]=C.cells a:=by simp [Ja8]
theorem Jdf [Inhabited α] {l:List α} {i:Int} (h0:0≤i) (h1:i < l.length) (j:Nat) (hj:j < C.k):(Ja8 C l)[i.toNat * C.k+j]? = (C.cells (nth l i))[j]?:=by
 have hc:i.toNat < l.length:=by omega
 unfold Ja8
 rw [Jga C.k _ (by intro x hx; obtain ⟨a,_,rfl⟩:=List.mem_map.1 hx; exact C.len a) _ _ hj]
 simp [nth,List.getD,hc]
theorem Jiq {l:List α} (h:∀ a∈l,∀ v∈C.cells a,v.oneCell'=true):∀ v∈Ja8 C l,v.oneCell'=true:=fun v hv=>by
 unfold Ja8 at hv
 rw [List.mem_flatten] at hv
 obtain ⟨x,hx,hv⟩:=hv
 obtain ⟨a,ha,rfl⟩:=List.mem_map.1 hx
 exact h a ha v hv
structure SlT (w:World) (s:Sl α):Prop where
 sp:SlC w s.v s.l.length C.k (Ja8 C s.l)
 el:∀ a∈s.l,C.ok w a
end
theorem Jim {α:Type} (C:Cel α) (l:List α) (n:Nat):Ja8 C (l.take n)=(Ja8 C l).take (n * C.k):=by
 induction l generalizing n with
 | nil=>simp [Ja8]
 | cons a l ih =>
  cases n with
  | zero=>simp [Ja8]
  | succ n =>
   have h:=C.len a
   have:=ih n
   simp only [Ja8,List.map_cons,List.flatten_cons,List.take_succ_cons] at this ⊢
   rw [this,List.take_append,h,Nat.succ_mul,List.take_of_length_le (l:=C.cells a) (by omega)]
   congr 2; omega
theorem Jij {α:Type} (C:Cel α) (l:List α) (n:Nat):Ja8 C (l.drop n)=(Ja8 C l).drop (n * C.k):=by
 induction l generalizing n with
 | nil=>simp [Ja8]
 | cons a l ih =>
  cases n with
  | zero=>simp [Ja8]
  | succ n =>
   have h:=C.len a
   have:=ih n
   simp only [Ja8,List.map_cons,List.flatten_cons,List.drop_succ_cons] at this ⊢
   rw [this,List.drop_append,h,Nat.succ_mul,List.drop_of_length_le (l:=C.cells a) (by omega),List.nil_append]
   congr 1; omega
section
variable {α:Type} {C:Cel α} {w u:World} {s:Sl α}
theorem SlT.ext (h:SlT C w s) (hb:Below w.heap.size w u):SlT C u s:=⟨h.sp.ext hb,fun a ha=>C.ext _ _ a (h.el a ha) hb⟩
theorem SlT.st {w0:World} {L:List SA} (h:SlT C w0 s) (hu:St w0.heap.size w0 L u):SlT C u s:=h.ext hu.below
theorem SlT.le (h:SlT C w s):s.l.length≤9223372036854775807:=h.sp.le
theorem SlT.one (h:SlT C w s):∀ v∈Ja8 C s.l,v.oneCell'=true:=Jiq C fun a ha=>C.one w a (h.el a ha)
theorem SlT.at [Inhabited α] (h:SlT C w s) {i:Int} (h0:0≤i) (h1:i < s.l.length):C.ok w (nth s.l i):=h.el _ (Jbc h0 h1)
def Sl.cut {α:Type} (k:Nat) (s:Sl α) (lo hi:Nat):Sl α:=⟨sub2 k s.v lo hi,(s.l.drop lo).take (hi - lo)⟩
theorem SlT.cut (h:SlT C w s) {lo hi:Nat} (h0:lo≤hi) (h1:hi≤s.l.length):SlT C w (s.cut C.k lo hi):=by
 have h2:=h.sp.sub2 h0 h1
 refine ⟨?_,fun a ha=>h.el a (List.mem_of_mem_drop (List.mem_of_mem_take ha))⟩
 unfold Sl.cut
 simp only
 rw [Jim,Jij]
 rwa [show ((s.l.drop lo).take (hi - lo)).length=hi - lo by simp; omega]
theorem SlT.nil (C:Cel α) (w:World):SlT C w ⟨.slice none 0 0,[]⟩:=⟨⟨by simp [Ja8],none,0,rfl,⟨Nat.le_refl 0,by decide⟩,.inl rfl⟩,fun a ha=>by cases ha⟩
end
def cSl {α:Type} (C:Cel α):Cel (Sl α) where
 k:=1
 cells s:=[s.v]
 ok:=SlT C
 len _:=rfl
 ext _ _ _ h hb:=h.ext hb
 one w s h v hv:=by
  simp at hv
  subst hv
  obtain ⟨_,p,cap,e,_⟩:=h.sp
  rw [e]; rfl
def cInt:Cel Int:=⟨1,fun x=>[.int .i64 x],fun _ _=>True,fun _=>rfl,fun _ _ _ _ _=>trivial,fun _ _ _ v hv=>by simp at hv; subst hv; rfl⟩
def cBool:Cel Bool:=⟨1,fun x=>[.bool x],fun _ _=>True,fun _=>rfl,fun _ _ _ _ _=>trivial,fun _ _ _ v hv=>by simp at hv; subst hv; rfl⟩
def cStr:Cel ByteArray:=⟨1,fun x=>[.string x],fun _ _=>True,fun _=>rfl,fun _ _ _ _ _=>trivial,fun _ _ _ v hv=>by simp at hv; subst hv; rfl⟩
theorem Jiu (xs:List Int):Ja8 cInt xs=xs.map (Value.int .i64):=by
 unfold Ja8
 induction xs with
 | nil=>rfl
 | cons x xs ih=>rw [List.map_cons,List.flatten_cons,ih]; rfl
theorem SlT.ints {w:World} {s:Sl Int} (h:SlT cInt w s):SlI w s.v s.l:=by
 have:=h.sp
 rw [Jiu] at this
 exact this
section
variable {P:Program} {ro:Option Nat} {n0:Nat} {w0:World} {ds:List Deferred} {ops:Array Oper} {Q:Exit→Act→World→Prop} {L:List SA}
 {rest:List Oper} {l:List Value} {d:Option Tmp} {ty:TypeId} {ps:String} {af:Array Edge} {g:Option (Nat × Bool)} {D:World→Prop}
 {α:Type} {C:Cel α}
theorem Jk7 {T e:TypeId} {by_ k:Nat} {x y:Operand} {v:Value} {i:Int} {w:World} {s:Sl α} (hT:sl P T=some (e,k,by_)) (hx:evo l x=some v) (hy:evo l y=some (.int .i64 i))
  (hv:s.v=v) (hk:C.k=k) (hs:SlT C w s) (h0:0≤i) (h1:i < s.l.length):Det P D ⟨d,.indexAddr T x y,ty,ps,af,g⟩ l (.pointer (some (sla v (i.toNat * k)))):=by
 subst hv
 exact Jbw hT hx hy hs.sp h0 h1
theorem Jlh {T e:TypeId} {by_ k:Nat} {x y:Operand} {i:Int} {w:World} {s:Sl α} (hT:sl P T=some (e,k,by_)) (hx:evo l x=some s.v) (hy:evo l y=some (.int .i64 i))
  (hs:SlT C w s) (hk:C.k=k) (h0:0≤i) (h1:i < s.l.length):Det P D ⟨d,.indexAddr T x y,ty,ps,af,g⟩ l (.pointer (some (sla s.v (i.toNat * k)))):=Jk7 hT hx hy rfl hk hs h0 h1
theorem Jk5 {T e:TypeId} {a b:Nat} {x:Operand} {w:World} {s:Sl α} (hT:sl P T=some (e,a,b)) (hx:evo l x=some s.v) (hs:SlT C w s) :
  Det P D ⟨d,.call ⟨.builtin .len, #[x], #[T]⟩,ty,ps,af,g⟩ l (.int .i64 s.l.length):=Jbj hT hx hs.sp
variable [Inhabited α]
end
section
variable {n0:Nat} {w0:World} {L:List SA} {α:Type}
def roT (C:Cel α) (s:Sl α):SA:=roS fun u=>SlT C u s
theorem Jk9 {P:Program} {l:List Value} {d:Option Tmp} {ty:TypeId} {ps:String} {af:Array Edge} {g:Option (Nat × Bool)} [Inhabited α] {C:Cel α} {T:TypeId} {k z j jj:Nat} {x:Operand} {v y:Value} {s:Sl α} {i:Int}
  (hj':L[jj]? = some (roT C s)) (hx:evo l x=some (.pointer (some (sla v (i.toNat * k+j))))) (hv:s.v=v) (hk:C.k=k) (h:0≤i∧i < s.l.length) (hj:j < k)
  (hc:(C.cells (nth s.l i))[j]? = some y) (hT:tk P T=some (false,z)):Det P (St n0 w0 L) ⟨d,.load T x,ty,ps,af,g⟩ l y:=by
 subst hv; subst hk
 exact Jcu hx (fun _ hu=>(St.ro hj' hu).sp) (by rw [Jdf C h.1 h.2 j hj]; exact hc) hT
theorem Jj8 {P:Program} {l:List Value} {d:Option Tmp} {ty:TypeId} {ps:String} {af:Array Edge} {g:Option (Nat × Bool)} [Inhabited α] {C:Cel α} {T:TypeId} {z jj:Nat} {x:Operand} {v y:Value} {s:Sl α} {i:Int}
  (hj':L[jj]? = some (roT C s)) (hx:evo l x=some (.pointer (some (sla v (i.toNat * 1))))) (hv:s.v=v) (hk:C.k=1) (h:0≤i∧i < s.l.length)
  (hc:(C.cells (nth s.l i))[0]? = some y) (hT:tk P T=some (false,z)):Det P (St n0 w0 L) ⟨d,.load T x,ty,ps,af,g⟩ l y:=Jk9 (j:=0) hj' hx hv hk h (by decide) hc hT
end
def seq (a b:ByteArray):Bool:=a.toList == b.toList
theorem Jdb (a:ByteArray):seq a a=true:=by simp [seq]
def byt (s:ByteArray) (i:Int):Int:=match s[i.toNat]? with | some b=>b.toNat | none=>0
section
variable {P:Program} {l:List Value} {d:Option Tmp} {ty:TypeId} {ps:String} {af:Array Edge} {g:Option (Nat × Bool)} {C:World→Prop}
theorem Jdv {T T':TypeId} {x y:Operand} {a b:ByteArray} (hx:evo l x=some (.string a)) (hy:evo l y=some (.string b)) :
  Det P C ⟨d,.binOp .eql T x y T',ty,ps,af,g⟩ l (.bool (seq a b)):=fun u _=>by
 (replace hx:=Jah hx; replace hy:=Jah hy)
 simp [execOp,Jae,hx,hy,eqGuard,binOp,Op.stringOp,seq]
theorem Jfg {T T':TypeId} {x y:Operand} {a b:ByteArray} (hx:evo l x=some (.string a)) (hy:evo l y=some (.string b)) :
  Det P C ⟨d,.binOp .neq T x y T',ty,ps,af,g⟩ l (.bool (!seq a b)):=fun u _=>by
 (replace hx:=Jah hx; replace hy:=Jah hy)
 simp [execOp,Jae,hx,hy,eqGuard,binOp,Op.stringOp,seq]
theorem Jem {T:TypeId} {x:Operand} {a:ByteArray} (hT:P.underlying T=some .string) (hx:evo l x=some (.string a)) :
  Det P C ⟨d,.call ⟨.builtin .len, #[x], #[T]⟩,ty,ps,af,g⟩ l (.int .i64 a.size):=fun u _=>by
 (replace hx:=Jah hx)
 simp [execOp,Jae,hx,resolve,invoke,builtin,Builtin.len_,run_underlying hT,goInt]
theorem Jfs {T:TypeId} {x y:Operand} {a:ByteArray} {i:Int} (hT:P.underlying T=some .string) (hx:evo l x=some (.string a)) (hy:evo l y=some (.int .i64 i)) (h0:0≤i) (h1:i < a.size) :
  Det P C ⟨d,.index T x y,ty,ps,af,g⟩ l (.int .u8 (byt a i)):=fun u _=>by
 (replace hx:=Jah hx; replace hy:=Jah hy)
 have hi:i.toNat < a.size:=by omega
 simp [execOp,Jae,hx,hy,Instr.index,asIntOf,run_underlying hT,h0,byt,hi]
end
structure Lit where
 t:Int
 s:Int
 nt:Bool
 deriving Inhabited,DecidableEq
structure Put where
 t:Int
 s:Int
 deriving Inhabited,DecidableEq
structure Thing where
 nm:ByteArray
 pl:Int
 st:Int
 sr:Int
 deriving Inhabited
structure Pro where
 nm:ByteArray
 pl:Int
 wh:Sl Lit
 deriving Inhabited
structure Way where
 a:Int
 b:Int
 wh:Sl Lit
 deriving Inhabited
structure Actn where
 nm:ByteArray
 pl:Int
 lk:Int
 us:Sl Int
 wh:Sl Lit
 se:Sl Put
 sp:Sl Int
 br:Sl Int
 deriving Inhabited
structure Auto where
 wh:Sl Lit
 t:Int
 s:Int
 deriving Inhabited
structure Room where
 pls:Sl ByteArray
 ths:Sl Thing
 prs:Sl Pro
 wys:Sl Way
 acs:Sl Actn
 aus:Sl Auto
 ply:Int
 gl:Sl Lit
 deriving Inhabited
structure Stt where
 ths:Sl Int
 prs:Sl Int
 pls:Sl Int
 deriving Inhabited
theorem Sl.one {α:Type} {C:Cel α} {w:World} {s:Sl α} (h:SlT C w s):s.v.oneCell'=true:=(cSl C).one w s h s.v (by simp [cSl])
def cLit:Cel Lit:=⟨3,fun a=>[.int .i64 a.t,.int .i64 a.s,.bool a.nt],fun _ _=>True,fun _=>rfl,fun _ _ _ _ _=>trivial,fun _ _ _ v hv=>by simp at hv; rcases hv with rfl | rfl | rfl <;> rfl⟩
def cPut:Cel Put:=⟨2,fun a=>[.int .i64 a.t,.int .i64 a.s],fun _ _=>True,fun _=>rfl,fun _ _ _ _ _=>trivial,fun _ _ _ v hv=>by simp at hv; rcases hv with rfl | rfl <;> rfl⟩
def Jn1:Cel Thing:=⟨4,fun a=>[.string a.nm,.int .i64 a.pl,.int .i64 a.st,.int .i64 a.sr],fun _ _=>True,fun _=>rfl,fun _ _ _ _ _=>trivial,fun _ _ _ v hv=>by simp at hv; rcases hv with rfl | rfl | rfl | rfl <;> rfl⟩
def cPro:Cel Pro:=⟨3,fun a=>[.string a.nm,.int .i64 a.pl,a.wh.v],fun w a=>SlT cLit w a.wh,fun _=>rfl,fun _ _ _ h hb=>h.ext hb,fun _ _ h v hv=>by
 simp at hv; rcases hv with rfl | rfl | rfl
 ·
  rfl
 ·
  rfl
 exact Sl.one h⟩
def cWay:Cel Way:=⟨3,fun a=>[.int .i64 a.a,.int .i64 a.b,a.wh.v],fun w a=>SlT cLit w a.wh,fun _=>rfl,fun _ _ _ h hb=>h.ext hb,fun _ _ h v hv=>by
 simp at hv; rcases hv with rfl | rfl | rfl
 ·
  rfl
 ·
  rfl
 exact Sl.one h⟩
def Jpq:Cel Auto:=⟨3,fun a=>[a.wh.v,.int .i64 a.t,.int .i64 a.s],fun w a=>SlT cLit w a.wh,fun _=>rfl,fun _ _ _ h hb=>h.ext hb,fun _ _ h v hv=>by
 simp at hv; rcases hv with rfl | rfl | rfl
 ·
  exact Sl.one h
 ·
  rfl
 rfl⟩
structure ActOk (w:World) (a:Actn):Prop where
 us:SlT cInt w a.us
 wh:SlT cLit w a.wh
 se:SlT cPut w a.se
 sp:SlT cInt w a.sp
 br:SlT cInt w a.br
def cAct:Cel Actn:=⟨8,fun a=>[.string a.nm,.int .i64 a.pl,.int .i64 a.lk,a.us.v,a.wh.v,a.se.v,a.sp.v,a.br.v],ActOk,fun _=>rfl,fun _ _ _ h hb=>⟨h.us.ext hb,h.wh.ext hb,h.se.ext hb,h.sp.ext hb,h.br.ext hb⟩,fun _ _ h v hv=>by
 simp at hv; rcases hv with rfl | rfl | rfl | rfl | rfl | rfl | rfl | rfl
 ·
  rfl
 ·
  rfl
 ·
  rfl
 ·
  exact Sl.one h.us
 ·
  exact Sl.one h.wh
 ·
  exact Sl.one h.se
 ·
  exact Sl.one h.sp
 exact Sl.one h.br⟩
structure RoomOk (w:World) (r:Room):Prop where
 pls:SlT cStr w r.pls
 ths:SlT Jn1 w r.ths
 prs:SlT cPro w r.prs
 wys:SlT cWay w r.wys
 acs:SlT cAct w r.acs
 aus:SlT Jpq w r.aus
 gl:SlT cLit w r.gl
theorem RoomOk.ext {w u:World} {r:Room} (h:RoomOk w r) (hb:Below w.heap.size w u):RoomOk u r:=⟨h.pls.ext hb,h.ths.ext hb,h.prs.ext hb,h.wys.ext hb,h.acs.ext hb,h.aus.ext hb,h.gl.ext hb⟩
theorem RoomOk.st {w u:World} {L:List SA} {r:Room} (h:RoomOk w r) (hu:St w.heap.size w L u):RoomOk u r:=h.ext hu.below
def Room.cells (r:Room):List Value:=[r.pls.v,r.ths.v,r.prs.v,r.wys.v,r.acs.v,r.aus.v,.int .i64 r.ply,r.gl.v]
structure SttOk (w:World) (s:Stt):Prop where
 ths:SlT cInt w s.ths
 prs:SlT cInt w s.prs
 pls:SlT cInt w s.pls
theorem SttOk.ext {w u:World} {r:Stt} (h:SttOk w r) (hb:Below w.heap.size w u):SttOk u r:=⟨h.ths.ext hb,h.prs.ext hb,h.pls.ext hb⟩
theorem SttOk.st {w u:World} {L:List SA} {r:Stt} (h:SttOk w r) (hu:St w.heap.size w L u):SttOk u r:=h.ext hu.below
def Stt.cells (s:Stt):List Value:=[s.ths.v,s.prs.v,s.pls.v]
def Sl.e {α β:Type} (f:α→β) (s:Sl α):Sl β:=⟨.slice none 0 0,s.l.map f⟩
def Pro.e (p:Pro):Pro:={ p with wh:=p.wh.e id }
def Way.e (p:Way):Way:={ p with wh:=p.wh.e id }
def Auto.e (p:Auto):Auto:={ p with wh:=p.wh.e id }
def Actn.e (p:Actn):Actn:={ p with us:=p.us.e id,wh:=p.wh.e id,se:=p.se.e id,sp:=p.sp.e id,br:=p.br.e id }
def Room.e (r:Room):Room:=⟨r.pls.e id,r.ths.e id,r.prs.e Pro.e,r.wys.e Way.e,r.acs.e Actn.e,r.aus.e Auto.e,r.ply,r.gl.e id⟩
def Stt.e (s:Stt):Stt:=⟨s.ths.e id,s.prs.e id,s.pls.e id⟩
def putB (ths:List Thing) (a b:Int):Bool:=(decide (0≤a) && decide (a≤ths.length - 1)) && (decide (0≤b) && decide (b≤IntKind.i64.wrap ((nth ths a).st - 1)))
structure Fill (k:Nat) (s n i m:Int) (xs:List Int):Prop where
 lo : -1≤i
 hi:i < k
 pos:0≤m∧m≤n
 ex:∃ T,xs=List.replicate (i+1).toNat 0++T∧digs k s n=digs (i+1).toNat s m++T
section
variable {k:Nat} {s n i m:Int} {xs:List Int}
theorem Fill.start {w:Int} (hk:(k:Int)=w) (hw:0≤w) (hn:0≤n):Fill k s n (w - 1) n (List.replicate w.toNat 0):=by
 subst hk
 refine ⟨by omega,by omega,⟨hn,Int.le_refl _⟩,[],?_,?_⟩ <;> simp
theorem Fill.len (h:Fill k s n i m xs):xs.length=k:=by
 obtain ⟨T,h1,h2⟩:=h.ex
 have:=congrArg List.length h2
 simp [Jb0] at this
 rw [h1]; simp; omega
theorem Fill.step (h:Fill k s n i m xs) (h0:0≤i) (hs:2≤s):Fill k s n (i - 1) (m / s) (xs.set i.toNat (m % s)):=by
 obtain ⟨T,h1,h2⟩:=h.ex
 have e:(i+1).toNat=i.toNat+1:=by omega
 have e2:(i - 1+1).toNat=i.toNat:=by omega
 have hp:=h.pos
 refine ⟨by omega,by have:=h.hi; omega,⟨Int.ediv_nonneg hp.1 (by omega),Int.le_trans (Int.ediv_le_self s hp.1) hp.2⟩,m % s::T,?_,?_⟩
 ·
  rw [h1,e,e2,List.replicate_succ',List.append_assoc]
  exact Jgv (by simp)
 rw [h2,e,e2,digs]; simp
theorem Fill.end_ (h:Fill k s n i m xs) (hi:i < 0):xs=digs k s n:=by
 obtain ⟨T,h1,h2⟩:=h.ex
 have e:(i+1).toNat=0:=by have:=h.lo; omega
 rw [h1,h2,e]; simp [digs]
theorem Fill.bd (h:Fill k s n i m xs) (h0:0≤i):0≤i∧i < xs.length:=by
 have:=h.len
 have:=h.hi
 omega
end
def comN (y x:List Int):Int:=Jbf y x 10 - Ja1 y x
def Jpb (L:List (List Int)) (x:List Int) (r c:Int):Int:=((L.filter fun y=>decide (Ja1 y x=r) && decide (comN y x=c)).length:Int)
def maxL:List Int→Int
 | []=>0
 | a::l=>max a (maxL l)
def cA (L:List (List Int)) (x y:List Int):Int:=Jpb L x (Ja1 y x) (comN y x)
def wN (L:List (List Int)) (x:List Int):Int:=maxL (L.map (cA L x))
def Jc6 (L:List (List Int)):Nat→Nat
 | 0=>0
 | i+1=>if i=0 then 0 else if wN L (nth L i) < wN L (nth L (Jc6 L i)) then i else Jc6 L i
theorem Jhj (L:List (List Int)):∀ i,0 < i→Jc6 L i < i
 | 0,h=>by omega
 | i+1,_=>by
  simp only [Jc6]
  split
  ·
   omega
  split
  ·
   omega
  have:=Jhj L i (by omega); omega
structure NextI (L:List (List Int)) (gs:List Value) (i:Int) (v:Value) (m:Int):Prop where
 lo:i=0→v = .slice none 0 0∧m=0
 hi:0 < i→v=nth gs (Jc6 L i.toNat)∧m=wN L (nth L (Jc6 L i.toNat))
def nilB:Value→Bool
 | .slice none _ _=>true
 | _=>false
theorem Ji5 {u:World} {v:Value} {xs:List Int} (h:SlI u v xs) (h0:0 < xs.length):nilB v=false∧∃ p n c,v = .slice p n c:=by
 obtain ⟨_,p,cap,rfl,_,h2⟩:=h
 rcases h2 with h2 | ⟨b,o,rfl,_⟩
 ·
  omega
 exact ⟨rfl,_,_,_,rfl⟩
section
variable {L:List (List Int)} {gs:List Value} {i m:Int} {v:Value}
theorem NextI.start:NextI L gs 0 (.slice none 0 0) 0:=⟨fun _=>⟨rfl,rfl⟩,fun h=>by omega⟩
theorem NextI.nil {u:World} {lv:Value} (h:NextI L gs i v m) (hs:SlL u lv L gs) (h0:0≤i) (h1:i≤L.length) (hp:∀ j:Int,0≤j→j < L.length→0 < (nth L j).length):nilB v=decide (i=0)∧∃ p n c,v = .slice p n c:=by
 by_cases hi:i=0
 ·
  obtain ⟨rfl,_⟩:=h.lo hi
  exact ⟨by simp [hi,nilB],_,_,_,rfl⟩
 obtain ⟨rfl,_⟩:=h.hi (by omega)
 have hb:=Jhj L i.toNat (by omega)
 have:=Ji5 (hs.el (Jc6 L i.toNat) (by omega) (by omega)) (hp _ (by omega) (by omega))
 exact ⟨by rw [this.1]; simp [hi],this.2⟩
theorem NextI.take (h:NextI L gs i v m) (h0:0≤i) (hc:nilB v=true∨wN L (nth L i) < m) (hn:nilB v=decide (i=0)):NextI L gs (i+1) (nth gs i) (wN L (nth L i)):=by
 have e:(i+1).toNat=i.toNat+1:=by omega
 have e2:((i.toNat:Nat):Int)=i:=by omega
 refine ⟨fun h=>by omega,fun _=>?_⟩
 have:Jc6 L (i+1).toNat=i.toNat:=by
  rw [e,Jc6]
  by_cases hi:i.toNat=0
  ·
   rw [if_pos hi,hi]
  rw [if_neg hi,if_pos]
  have h2:=(h.hi (by omega)).2
  rw [hn] at hc
  rcases hc with hc | hc
  ·
   simp at hc; omega
  rw [e2, ← h2]; exact hc
 rw [this,e2]
 exact ⟨rfl,rfl⟩
theorem NextI.leave (h:NextI L gs i v m) (h0:0≤i) (hc:nilB v=false∧¬ wN L (nth L i) < m) (hn:nilB v=decide (i=0)):NextI L gs (i+1) v m:=by
 have e:(i+1).toNat=i.toNat+1:=by omega
 have e2:((i.toNat:Nat):Int)=i:=by omega
 have hi:¬ i.toNat=0:=by rw [hn] at hc; simp at hc; omega
 refine ⟨fun h=>by omega,fun _=>?_⟩
 have h2:=h.hi (by omega)
 have:Jc6 L (i+1).toNat=Jc6 L i.toNat:=by
  rw [e,Jc6,if_neg hi,if_neg]
  rw [e2, ← h2.2]; exact hc.2
 rw [this]
 exact h2
end
end Go.Proofs.YtdpbapffdmahnaaGreatDoor
namespace Go.Proofs.YtdpbapffdmahnaaGreatDoor
set_option linter.unusedVariables false
set_option linter.unusedSimpArgs false
open Go.RowKit Go.Proofs
section
variable {P:Program} {ro:Option Nat} {n0:Nat} {w0:World} {ds:List Deferred} {ops:Array Oper} {Q:Exit→Act→World→Prop} {L:List SA}
 {rest:List Oper} {l:List Value} {d:Option Tmp} {ty:TypeId} {ps:String} {af:Array Edge} {g:Option (Nat × Bool)} {C:World→Prop} {u:World}
theorem St.setRow {b j:Nat} {c c':List Value} {e:TypeId} (h:St n0 w0 L u) (hj:L[j]? = some (Go.Proofs.YtdpbapffdmahnaaGreatDoor.blk b c e)):St n0 w0 (L.set j (Go.Proofs.YtdpbapffdmahnaaGreatDoor.blk b c' e)) (u.setRow b c'.toArray):=by
 obtain ⟨S,hS,⟨hS1,hb⟩,hupd⟩:=h.upd hj
 refine hupd _ _ (fun k=>k=b) ⟨rfl,rfl,rfl,by simp,fun k hk=>setRow_other u b k _ (fun e=>by have:=hS b ((hS1 b).2 rfl); omega)⟩ (fun k hk o' hcell=>?_) ⟨fun k=>Iff.rfl,?_⟩ (fun k hk=>by subst hk; exact ⟨hS _ ((hS1 _).2 rfl),.inl ((hS1 _).2 rfl)⟩)
 ·
  rw [setRow_other u b k _ (fun e=>hk.2.2 ((hS1 k).2 e))]; exact hcell
 exact setRow_heap u b c.toArray c'.toArray e _ hb
theorem ClS.one {w:World} {v:Value} {cs:List Clue} {gs:List Value} (h:ClS w v cs gs):∀ g∈gs,g.oneCell'=true:=by
 intro g hg
 obtain ⟨i,h0,h1,rfl⟩:=Jgn hg
 obtain ⟨_,p,cap,h2,_⟩:=h.el i h0 (by have:=h.len; omega)
 rw [h2]; rfl
end
def Jdw {α:Type} [Inhabited α] (cs:List α) (ns:List Nat):List α:=ns.map fun k=>cs.getD k default
section
variable {α:Type} [Inhabited α] {cs:List α} {ns ms:List Nat}
theorem Jf6:(Jdw cs ns).length=ns.length:=by simp [Jdw]
end
theorem ClS.pick {u:World} {v v':Value} {cs:List Clue} {gs:List Value} (h:ClS u v cs gs) {ns:List Nat} (hn:∀ k∈ns,k < cs.length) (hs:SlC u v' (Jdw cs ns).length 7 (Jc3 (Jdw cs ns) (Jdw gs ns))):ClS u v' (Jdw cs ns) (Jdw gs ns):=by
 refine ⟨hs,by simp [Jf6],fun i h0 h1=>?_⟩
 rw [Jf6] at h1
 have hlt:i.toNat < ns.length:=by omega
 have hk:=hn _ (List.getElem_mem hlt)
 have e1:nth (Jdw cs ns) i=nth cs ((ns[i.toNat]:Nat):Int):=by simp [nth,List.getD,Jdw,hlt]
 have e2:nth (Jdw gs ns) i=nth gs ((ns[i.toNat]:Nat):Int):=by simp [nth,List.getD,Jdw,hlt]
 rw [e1,e2]
 exact h.el _ (by omega) (by omega)
section
variable {P:Program} {ro:Option Nat} {n0:Nat} {w0:World} {ds:List Deferred} {ops:Array Oper} {Q:Exit→Act→World→Prop} {L:List SA}
 {rest:List Oper} {l:List Value} {d:Option Tmp} {ty:TypeId} {ps:String} {af:Array Edge} {g:Option (Nat × Bool)} {C:World→Prop}
theorem Jj6 {x:Operand} {v:Value} {c b:Bool} (hg:c=true) (h:evo l x=some (cond (c && (b == true)) v undef)):evo l x=some (cond b v undef):=by subst hg; cases b <;> exact h
theorem SlI.none (u:World):SlI u (.slice none 0 0) []:=⟨by simp,Option.none,0,rfl,by simp,Or.inl rfl⟩
end
end Go.Proofs.YtdpbapffdmahnaaGreatDoor
namespace Go.Proofs.YtdpbapffdmahnaaGreatDoor
set_option linter.unusedVariables false
set_option linter.unusedSimpArgs false
open Go.RowKit
def placeB (r:Room) (n:Int):Bool:=decide (0≤n) && decide (n≤r.pls.l.length - 1)
def thB (r:Room) (x:Thing):Bool:=placeB r x.pl && ((decide (2≤x.st) && decide (x.st≤6)) && (decide (0≤x.sr) && decide (x.sr≤x.st - 1)))
def upd (vs:Nat→Value) (i:Nat) (v:Value):Nat→Value:=fun j=>if j=i then v else vs j
theorem Jho {vs:Nat→Value} {i:Nat} {v:Value}:upd vs i v i=v:=by simp [upd]
theorem Jjc {vs:Nat→Value} {i j:Nat} {v:Value} (h:j≠i):upd vs i v j=vs j:=by simp [upd,h]
def Jie {α:Type} (l:List α) (d:Nat→Nat) (f:Nat→α):List Nat→Option (List α)
 | []=>some l
 | i::is=>match Jie l d f is with
  | some r=>lset r (d i) (f i)
  | none=>none
theorem Jcz {α:Type} {l:List α} {d:Nat→Nat} {f:Nat→α}:∀ {is:List Nat} {r:List α},Jie l d f is=some r→is.Nodup→(∀ i∈is,∀ k∈is,d i=d k→i=k) →
  r.length=l.length∧(∀ k,(∀ i∈is,d i≠k)→r[k]? = l[k]?)∧∀ i∈is,d i < l.length→r[d i]? = some (f i)
 | [],r,h,_,_=>by simp [Jie] at h; subst h; exact ⟨rfl,fun _ _=>rfl,fun i hi=>by simp at hi⟩
 | i::is,r,h,hn,hd=>by
  unfold Jie at h
  split at h
  ·
   rename_i r1 h1
   have h2:=Jak h
   subst h2
   rw [List.nodup_cons] at hn
   obtain ⟨e1,e2,e3⟩:=Jcz h1 hn.2 fun a ha b hb e=>hd a (List.mem_cons_of_mem _ ha) b (List.mem_cons_of_mem _ hb) e
   refine ⟨by simpa using e1,fun k hk=>?_,fun j hj hlt=>?_⟩
   ·
    rw [List.getElem?_set_ne (hk i List.mem_cons_self)]
    exact e2 k fun a ha=>hk a (List.mem_cons_of_mem _ ha)
   by_cases hji:j=i
   ·
    subst hji
    rw [List.getElem?_set_self (by omega)]
   rcases List.mem_cons.1 hj with hj' | hj'
   ·
    exact (hji hj').elim
   rw [List.getElem?_set_ne (fun e=>hji (hd i List.mem_cons_self j hj e).symm)]
   exact e3 j hj' hlt
  cases h
def live (is:List Nat) (R:Nat→Value→List SA) (vs:Nat→Value) (p:Nat→Bool):List SA:=is.flatMap fun j=>if p j=true then R j (vs j) else []
theorem Jbe {is:List Nat} {R:Nat→Value→List SA} {vs vs':Nat→Value} {p p':Nat→Bool} (h:∀ j∈is,p j=p' j∧(p j=true→vs j=vs' j)):live is R vs p=live is R vs' p':=by
 induction is with
 | nil=>rfl
 | cons a is ih =>
  have h1:=h a List.mem_cons_self
  have h2:=ih fun j hj=>h j (List.mem_cons_of_mem _ hj)
  simp only [live,List.flatMap_cons] at h2 ⊢
  rw [h2, ← h1.1]
  congr 1
  split
  ·
   rename_i hp; rw [h1.2 hp]
  rfl
theorem Jeu (is:List Nat) (R:Nat→Value→List SA) (vs:Nat→Value) (p q:Nat→Bool):(live is R vs p).Perm (live is R vs (fun j=>p j && q j)++live is R vs (fun j=>p j && !q j)):=by
 induction is with
 | nil=>exact List.Perm.refl _
 | cons a is ih =>
  simp only [live,List.flatMap_cons] at ih ⊢
  by_cases hp:p a=true
  ·
   by_cases hq:q a=true
   ·
    simpa [hp,hq,List.append_assoc] using List.Perm.append_left (R a (vs a)) ih
   simp only [hp,hq,if_true,Bool.and_false,Bool.false_eq_true,if_false,List.nil_append,Bool.true_and,Bool.not_false]
   refine (List.Perm.append_left _ ih).trans ?_
   rw [← List.append_assoc, ← List.append_assoc]
   exact List.Perm.append_right _ List.perm_append_comm
  simpa [hp] using ih
theorem Jez {R:Nat→Value→List SA} {vs:Nat→Value}:∀ {is:List Nat},live is R vs (fun _=>false)=[]
 | []=>rfl
 | a::is=>by
  have:=Jez (R:=R) (vs:=vs) (is:=is)
  simp only [live,List.flatMap_cons] at this ⊢
  rw [this]; simp
theorem Je7 {R:Nat→Value→List SA} {vs:Nat→Value} {c:Nat}:∀ {is:List Nat},is.Nodup→c∈is→live is R vs (fun j=>decide (j=c))=R c (vs c)
 | [],_,h=>by simp at h
 | a::is,hn,h=>by
  rw [List.nodup_cons] at hn
  simp only [live,List.flatMap_cons]
  by_cases hac:a=c
  ·
   subst hac
   have:live is R vs (fun j=>decide (j=a))=live is R vs fun _=>false:=Jbe fun j hj=>⟨by simp; rintro rfl; exact hn.1 hj,fun _=>rfl⟩
   simp only [live] at this
   rw [this]
   simp
  have hc:c∈is:=by rcases List.mem_cons.1 h with e | e; exact (hac e.symm).elim; exact e
  have:=Je7 (R:=R) (vs:=vs) hn.2 hc
  simp only [live] at this
  rw [this]
  simp [hac]
theorem Jhd {p:Nat→Bool} {i:Nat}:∀ {is:List Nat},is.Nodup→i∈is→p i=true→(is.filter p).length=(is.filter fun k=>p k && !decide (k=i)).length+1
 | [],_,h,_=>by simp at h
 | a::is,hn,h,hp=>by
  rw [List.nodup_cons] at hn
  by_cases hai:a=i
  ·
   subst hai
   have:is.filter p=is.filter fun k=>p k && !decide (k=a):=List.filter_congr fun k hk=>by
    have:k≠a:=by rintro rfl; exact hn.1 hk
    simp [this]
   simp [List.filter_cons,hp,this]
  have hi:i∈is:=by rcases List.mem_cons.1 h with e | e; exact (hai e.symm).elim; exact e
  have ih:=Jhd hn.2 hi hp
  simp only [List.filter_cons,hai,decide_false,Bool.not_false,Bool.and_true]
  cases hpa:p a with
  | true=>simp [ih]
  | false=>simpa using ih
def Jf4 (ops:Array Oper) (bl:List Bool) (is:List Nat) (d:Nat→Nat) (dep:Nat→List Nat) (cs:Nat→Option Nat) (n:Nat):Bool :=
 (is.all fun i=>bl[i]? == some false && (match ops[i]? with
  | some o=>o.dst == some (d i) && decide (d i < n) && ((dep i).all fun j=>is.contains j && o.after.toList.any fun e=>Region.binds .any e && e.on == j) &&
    (o.after.toList.all fun e => !Region.binds .any e || (is.contains e.on && decide (e.on < i)) || bl[e.on]? == some true)
  | none=>false) && (match cs i with | some c=>(dep i).contains c | none=>true) && is.all fun k=>k == i || (!(d k == d i) && !((cs i).isSome && cs k == cs i))) &&
 (List.range bl.length).all fun k=>is.contains k || bl[k]? == some true || (match ops[k]? with
  | some o=>is.all fun i=>o.after.toList.any fun e=>Region.binds .any e && e.on == i
  | none=>false)
structure ManyAt (ops:Array Oper) (bl:List Bool) (is:List Nat) (d:Nat→Nat) (dep:Nat→List Nat) (cs:Nat→Option Nat) (n i:Nat) (o:Oper):Prop where
 op:ops[i]? = some o
 un:bl[i]? = some false
 dst:o.dst=some (d i)
 lt:d i < n
 deps:∀ j∈dep i,j∈is∧∃ e∈o.after,Region.binds .any e=true∧e.on=j
 aft:∀ e∈o.after,Region.binds .any e=true→(e.on∈is∧e.on < i)∨bl[e.on]? = some true
 csd:∀ c,cs i=some c→c∈dep i
 inj:∀ k∈is,k≠i→d k≠d i∧(∀ c,cs i=some c→cs k≠some c)
theorem Ja5 {ops:Array Oper} {bl:List Bool} {is:List Nat} {d:Nat→Nat} {dep:Nat→List Nat} {cs:Nat→Option Nat} {n:Nat} (h:Jf4 ops bl is d dep cs n=true) {i:Nat} (hi:i∈is):∃ o,ManyAt ops bl is d dep cs n i o:=by
 unfold Jf4 at h
 rw [Bool.and_eq_true,List.all_eq_true] at h
 have h1:=h.1 i hi
 cases ho:ops[i]? with
 | none=>simp [ho] at h1
 | some o =>
  simp only [ho,Bool.and_eq_true,List.all_eq_true,beq_iff_eq,decide_eq_true_eq,List.contains_iff_mem,List.any_eq_true,Bool.or_eq_true,Bool.not_eq_true'] at h1
  obtain ⟨⟨⟨h1,⟨⟨h2,h3⟩,h4⟩,h5⟩,h6⟩,h7⟩:=h1
  refine ⟨o,ho,h1,h2,h3,fun j hj=>?_,fun e he hb=>?_,fun c hc=>?_,fun k hk hki=>?_⟩
  ·
   obtain ⟨a,e,he,hb,hj⟩:=h4 j hj
   exact ⟨a,e,by simpa using he,hb,hj⟩
  ·
   rcases h5 e (by simpa using he) with (h | h) | h
   ·
    rw [hb] at h; cases h
   ·
    exact .inl h
   exact .inr h
  ·
   rw [hc] at h6; simpa using h6
  rcases h7 k hk with h | h
  ·
   exact (hki h).elim
  refine ⟨by simpa using h.1,fun c hc hck=>?_⟩
  have:=h.2
  rw [hc,hck] at this
  simp at this
theorem Jik {ops:Array Oper} {bl:List Bool} {is:List Nat} {d:Nat→Nat} {dep:Nat→List Nat} {cs:Nat→Option Nat} {n:Nat} (h:Jf4 ops bl is d dep cs n=true) {k:Nat} (hk:k ∉ is) (hb:bl[k]? = some false) {o:Oper} (ho:ops[k]? = some o) {i:Nat} (hi:i∈is) :
  ∃ e∈o.after,Region.binds .any e=true∧e.on=i:=by
 unfold Jf4 at h
 rw [Bool.and_eq_true,List.all_eq_true,List.all_eq_true] at h
 have hlt:k < bl.length:=(List.getElem?_eq_some_iff.1 hb).1
 have h1:=h.2 k (List.mem_range.2 hlt)
 simp only [ho,Bool.or_eq_true,List.contains_iff_mem,hk,hb,false_or,List.all_eq_true,List.any_eq_true,Bool.and_eq_true,beq_iff_eq] at h1
 rcases h1 with h1 | h1
 ·
  cases h1
 obtain ⟨e,he,hb,hj⟩:=h1 i hi
 exact ⟨e,by simpa using he,hb,hj⟩
section
variable {P:Program} {ro:Option Nat} {n0:Nat} {w0:World} {ds:List Deferred} {ops:Array Oper} {Q:Exit→Act→World→Prop} {L:List SA} {l:List Value} {C:World→Prop}
theorem St.sel0 {u:World} (A:List SA) (h:St n0 w0 (A++L) u):St n0 w0 L u:=St.sub (List.sublist_append_right _ _) h
def Jds (is:List Nat) (cs:Nat→Option Nat) (b:Nat→Bool) (j:Nat):Bool:=b j && !(is.any fun i=>b i && decide (cs i=some j))
structure ManyInv (n0:Nat) (w0:World) (L:List SA) (l:List Value) (bl:List Bool) (is:List Nat) (d:Nat→Nat) (dep:Nat→List Nat) (cs:Nat→Option Nat) (R:Nat→Value→List SA) (V:Nat→(Nat→Value)→Prop)
  (bl':List Bool) (l':List Value) (vs:Nat→Value) (u:World):Prop where
 bn:bl'.length=bl.length
 bo:∀ k,k ∉ is→bl'[k]? = bl[k]?
 bi:∀ k∈is,bl'[k]? = some true∨bl'[k]? = some false
 ln:l'.length=l.length
 lo:∀ k,(∀ j∈is,d j≠k)→l'[k]? = l[k]?
 li:∀ j∈is,bl'[j]? = some true→l'[d j]? = some (vs j)∧V j vs∧∀ k∈dep j,bl'[k]? = some true
 st:St n0 w0 (live is R vs (Jds is cs fun j=>decide (bl'[j]? = some true))++L) u
def Jkj (P:Program) (ro:Option Nat) (n0:Nat) (w0:World) (ds:List Deferred) (ops:Array Oper) (L:List SA) (l:List Value) (is:List Nat) (d:Nat→Nat) (dep:Nat→List Nat) (cs:Nat→Option Nat) (R:Nat→Value→List SA) (V:Nat→(Nat→Value)→Prop) (i:Nat) (o:Oper):Prop :=
 ∀ (Q:Exit→Act→World→Prop) (vs:Nat→Value) (l':List Value) (M:List SA),l'.length=l.length→(∀ j∈dep i,l'[d j]? = some (vs j)∧V j vs)→(∀ k,(∀ j∈is,d j≠k)→l'[k]? = l[k]?) →
  (∀ v,V i (upd vs i v)→QS n0 w0 ds Q .normal (R i v++M) (l'.set (d i) v))→WS P ro n0 w0 ds ops Q ((match cs i with | some c=>R c (vs c) | none=>[])++M) [o] l'
theorem AS.many {bl be:List Bool} {fuel nn:Nat} {le:(Nat→Value)→List Value} {L':(Nat→Value)→List SA} (is:List Nat) (d:Nat→Nat) (dep:Nat→List Nat) (cs:Nat→Option Nat) (R:Nat→Value→List SA) (V:Nat→(Nat→Value)→Prop)
  (hok:Jf4 ops bl is d dep cs l.length=true) (hnd:is.Nodup) (hnn:is.length=nn) (hbe:Jie bl id (fun _=>true) is=some be) (hC:∀ u,St n0 w0 L u→C u)
  (hV:∀ i∈is,∀ vs vs',(∀ j∈i::dep i,vs j=vs' j)→V i vs→V i vs')
  (hle:∀ vs,Jie l d vs is=some (le vs)) (hL':∀ vs,live is R vs (fun j => !(is.any fun i=>decide (cs i=some j)))++L=L' vs)
  (step:∀ i∈is,∀ o,ops[i]? = some o→Jkj P ro n0 w0 ds ops L l is d dep cs R V i o)
  (fin:∀ vs,(∀ i∈is,V i vs)→AS P ro n0 w0 ds ops Q C (L' vs) fuel be (le vs)) :
  AS P ro n0 w0 ds ops Q C L (fuel+nn) bl l:=by
 subst hnn
 have hdj:∀ i∈is,∀ k∈is,d i=d k→i=k:=fun i hi k hk e=>by
  by_cases hki:k=i
  ·
   exact hki.symm
  obtain ⟨o,ho⟩:=Ja5 hok hi
  exact ((ho.inj k hk hki).1 e.symm).elim
 have main:∀ (n:Nat) (bl':List Bool) (l':List Value) (vs:Nat→Value) (u:World),ManyInv n0 w0 L l bl is d dep cs R V bl' l' vs u→(is.filter fun k=>decide (bl'[k]? = some false)).length=n →
   AH P ro ops (NP Q) C (fuel+n) bl'.toArray ⟨l'.toArray,ds⟩ u:=by
  intro n
  induction n with
  | zero =>
   intro bl' l' vs u hI hn
   have hall:∀ k∈is,bl'[k]? = some true:=fun k hk=>by
    rcases hI.bi k hk with h | h
    ·
     exact h
    have:=List.filter_eq_nil_iff.1 (List.length_eq_zero_iff.1 hn) k hk
    simp [h] at this
   have e1:bl'=be:=by
    obtain ⟨q1,q2,q3⟩:=Jcz hbe hnd fun a _ b _ e=>e
    apply List.ext_getElem?
    intro k
    by_cases hk:k∈is
    ·
     have hlt:k < bl.length:=by
      have:=(List.getElem?_eq_some_iff.1 (hall k hk)).1
      rw [hI.bn] at this; exact this
     rw [hall k hk]; exact (q3 k hk hlt).symm
    rw [hI.bo k hk,q2 k fun i hi e=>hk (by simp at e; rw [← e]; exact hi)]
   have e2:l'=le vs:=by
    obtain ⟨q1,q2,q3⟩:=Jcz (hle vs) hnd hdj
    apply List.ext_getElem?
    intro k
    by_cases hk:∃ j∈is,d j=k
    ·
     obtain ⟨j,hj,rfl⟩:=hk
     obtain ⟨o,ho⟩:=Ja5 hok hj
     rw [(hI.li j hj (hall j hj)).1,q3 j hj ho.lt]
    have hk':∀ j∈is,d j≠k:=fun j hj e=>hk ⟨j,hj,e⟩
    rw [hI.lo k hk',q2 k hk']
   subst e1 e2
   refine fin vs (fun i hi=>(hI.li i hi (hall i hi)).2.1) u ?_
   rw [← hL' vs]
   have:live is R vs (Jds is cs fun j=>decide (bl'[j]? = some true))=live is R vs (fun j => !(is.any fun i=>decide (cs i=some j))):=Jbe fun j hj=>by
    refine ⟨?_,fun _=>rfl⟩
    simp only [Jds]
    rw [decide_eq_true (hall j hj),Bool.true_and]
    congr 1
    have:∀ (ks:List Nat),(∀ k∈ks,k∈is)→(ks.any fun i=>decide (bl'[i]? = some true) && decide (cs i=some j))=ks.any fun i=>decide (cs i=some j):=fun ks=>by
     induction ks with
     | nil=>intro _; rfl
     | cons a ks ih=>intro h; simp only [List.any_cons]; rw [ih fun k hk=>h k (List.mem_cons_of_mem _ hk),decide_eq_true (hall a (h a List.mem_cons_self)),Bool.true_and]
    exact this is fun _ h=>h
   rw [← this]
   exact hI.st
  | succ n ih =>
   intro bl' l' vs u hI hn u' hu'
   have hI':ManyInv n0 w0 L l bl is d dep cs R V bl' l' vs u':={ hI with st:=hI.st.ext hu' }
   -- the Jms that is not over
   have hex:∃ k,k∈is∧bl'[k]? = some false:=by
    cases hf:is.filter fun k=>decide (bl'[k]? = some false) with
    | nil=>rw [hf] at hn; simp at hn
    | cons a r =>
     have:a∈is.filter fun k=>decide (bl'[k]? = some false):=by rw [hf]; exact List.mem_cons_self
     rw [List.mem_filter] at this
     exact ⟨a,this.1,by simpa using this.2⟩
   obtain ⟨m,⟨hm,hmf⟩,hmin⟩:=Jms hex
   have hgd:∀ k,bl'.toArray.getD k true=false ↔ bl'[k]? = some false:=fun k=>by
    cases h:bl'[k]? with
    | none=>simp [Array.getD_eq_getD_getElem?,h]
    | some x=>simp [Array.getD_eq_getD_getElem?,h]
   have hgt:∀ k,bl'.toArray.getD k false=true ↔ bl'[k]? = some true:=fun k=>by
    cases h:bl'[k]? with
    | none=>simp [Array.getD_eq_getD_getElem?,h]
    | some x=>simp [Array.getD_eq_getD_getElem?,h]
   have hnin:∀ {k:Nat},bl[k]? = some true→bl'[k]? = some true:=fun {k} hk=>by
    by_cases hki:k∈is
    ·
     obtain ⟨o,ho⟩:=Ja5 hok hki
     rw [ho.un] at hk; cases hk
    rw [hI.bo k hki]; exact hk
   refine ⟨hC _ (hI'.st.sel0 _),fun h0=>?_,fun i hi=>?_⟩
   ·
    exfalso
    obtain ⟨o,ho⟩:=Ja5 hok hm
    have:m∈Region.ready .any ops bl'.toArray:=mem_ready.2 ⟨(hgd m).2 hmf,o,ho.op,fun e he hb=>(hgt _).2 (by
     rcases ho.aft e he hb with ⟨h1,h2⟩ | h1
     ·
      rcases hI.bi _ h1 with h | h
      ·
       exact h
      have:=hmin _ ⟨h1,h⟩; omega
     exact hnin h1)⟩
    rw [h0] at this
    cases this
   obtain ⟨hun,o,ho,hall⟩:=mem_ready.1 hi
   have hif:bl'[i]? = some false:=(hgd i).1 hun
   have hin:i∈is:=by
    by_cases hin:i∈is
    ·
     exact hin
    exfalso
    obtain ⟨e,he,hb,hj⟩:=Jik hok hin (by rw [← hI.bo i hin]; exact hif) ho hm
    have:=(hgt _).1 (hall e he hb)
    rw [hj,hmf] at this
    cases this
   obtain ⟨o',hM⟩:=Ja5 hok hin
   obtain rfl:o=o':=by have:=hM.op; rw [ho] at this; exact Option.some.inj this
   have hdep:∀ j∈dep i,j∈is∧bl'[j]? = some true:=fun j hj=>by
    obtain ⟨h1,e,he,hb,hj'⟩:=hM.deps j hj
    exact ⟨h1,by rw [← hj']; exact (hgt _).1 (hall e he hb)⟩
   let p:Nat→Bool:=Jds is cs fun j=>decide (bl'[j]? = some true)
   -- nobody who is over waits for i
   have hno:∀ k∈is,bl'[k]? = some true→i ∉ dep k:=fun k hk hkt hik=>by
    have:=(hI.li k hk hkt).2.2 i hik
    rw [hif] at this; cases this
   have hpi:p i=false:=by simp [p,Jds,hif]
   let q:Nat→Bool:=fun j=>decide (cs i=some j)
   have hpc:∀ c,cs i=some c→p c=true:=fun c hc=>by
    have hcd:=hdep c (hM.csd c hc)
    simp only [p,Jds,hcd.2,decide_true,Bool.true_and,Bool.not_eq_true',List.any_eq_false,Bool.and_eq_true,decide_eq_true_eq,not_and]
    intro k hk hkt hck
    by_cases hki:k=i
    ·
     subst hki; rw [hif] at hkt; cases hkt
    exact (hM.inj k hk hki).2 c hc hck
   have e1:live is R vs (fun j=>p j && q j)=(match cs i with | some c=>R c (vs c) | none=>[]):=by
    cases hc:cs i with
    | none =>
     have:live is R vs (fun j=>p j && q j)=live is R vs fun _=>false:=Jbe fun j _=>⟨by simp [q,hc],fun _=>rfl⟩
     rw [this,Jez]
    | some c =>
     have:live is R vs (fun j=>p j && q j)=live is R vs fun j=>decide (j=c):=Jbe fun j _=>⟨by
      by_cases hjc:j=c
      ·
       subst hjc; simp [q,hc,hpc j hc]
      simp [q,hc,hjc,Ne.symm hjc],fun _=>rfl⟩
     rw [this,Je7 hnd (hdep c (hM.csd c hc)).1]
   have hst1:St n0 w0 ((match cs i with | some c=>R c (vs c) | none=>[])++(live is R vs (fun j=>p j && !q j)++L)) u':=by
    rw [← e1, ← List.append_assoc]
    exact hI'.st.perm (List.Perm.append_right _ (Jeu is R vs p q))
   have hW:=step i hin o ho (Exit.then (AH P ro ops (NP Q) C (fuel+n) (bl'.set i true).toArray) (NP Q)) vs l' (live is R vs (fun j=>p j && !q j)++L) hI.ln (fun j hj=>by
     have:=hI.li j (hdep j hj).1 (hdep j hj).2
     exact ⟨this.1,this.2.1⟩) hI.lo (fun v hv=>by
    intro u2 hu2
    refine ih (bl'.set i true) (l'.set (d i) v) (upd vs i v) u2 ?_ ?_
    ·
     have hilt:i < bl'.length:=(List.getElem?_eq_some_iff.1 hif).1
     have hbs:∀ k,(bl'.set i true)[k]? = some true ↔ (k=i∨bl'[k]? = some true):=fun k=>by
      by_cases hk:k=i
      ·
       subst hk; simp [hilt]
      rw [List.getElem?_set_ne (Ne.symm hk)]; simp [hk]
     refine ⟨by simpa using hI.bn,fun k hk=>?_,fun k hk=>?_,by simpa using hI.ln,fun k hk=>?_,fun j hj hjt=>?_,?_⟩
     ·
      rw [List.getElem?_set_ne (by rintro rfl; exact hk hin)]; exact hI.bo k hk
     ·
      by_cases hki:k=i
      ·
       subst hki; exact .inl ((hbs k).2 (.inl rfl))
      rw [List.getElem?_set_ne (Ne.symm hki)]; exact hI.bi k hk
     ·
      rw [List.getElem?_set_ne (hk i hin)]; exact hI.lo k hk
     ·
      by_cases hji:j=i
      ·
       subst hji
       refine ⟨by rw [List.getElem?_set_self (by rw [hI.ln]; exact hM.lt),Jho],hv,fun k hk=>(hbs k).2 (.inr (hdep k hk).2)⟩
      have hjt':bl'[j]? = some true:=by rcases (hbs j).1 hjt with h | h; exact (hji h).elim; exact h
      obtain ⟨a1,a2,a3⟩:=hI.li j hj hjt'
      refine ⟨by rw [List.getElem?_set_ne (Ne.symm (hM.inj j hj hji).1),Jjc hji]; exact a1,?_,fun k hk=>(hbs k).2 (.inr (a3 k hk))⟩
      refine hV j hj vs _ (fun k hk=>?_) a2
      rw [Jjc]
      rintro rfl
      rcases List.mem_cons.1 hk with h | h
      ·
       exact hji h.symm
      exact hno j hj hjt' h
     let p':Nat→Bool:=Jds is cs fun j=>decide ((bl'.set i true)[j]? = some true)
     have hp'i:p' i=true:=by
      simp only [p',Jds,(hbs i).2 (.inl rfl),decide_true,Bool.true_and,Bool.not_eq_true',List.any_eq_false,Bool.and_eq_true,decide_eq_true_eq,not_and]
      intro k hk hkt hck
      obtain ⟨ok,hok'⟩:=Ja5 hok hk
      have hid:=hok'.csd i hck
      rcases (hbs k).1 hkt with h | h
      ·
       subst h
       have:=(hdep k hid).2
       rw [hif] at this; cases this
      exact hno k hk h hid
     have e2:live is R (upd vs i v) (fun j=>p' j && decide (j=i))=R i v:=by
      have:live is R (upd vs i v) (fun j=>p' j && decide (j=i))=live is R (upd vs i v) fun j=>decide (j=i):=Jbe fun j _=>⟨by
       by_cases hj:j=i
       ·
        subst hj; simp [hp'i]
       simp [hj],fun _=>rfl⟩
      rw [this,Je7 hnd hin,Jho]
     have e3:live is R (upd vs i v) (fun j=>p' j && !decide (j=i))=live is R vs (fun j=>p j && !q j):=Jbe fun j hj=>by
      by_cases hji:j=i
      ·
       subst hji; simp [hpi]
      refine ⟨?_,fun _=>Jjc hji⟩
      have h1:decide ((bl'.set i true)[j]? = some true)=decide (bl'[j]? = some true):=by
       rw [List.getElem?_set_ne (Ne.symm hji)]
      have h2:(is.any fun k=>decide ((bl'.set i true)[k]? = some true) && decide (cs k=some j))=((is.any fun k=>decide (bl'[k]? = some true) && decide (cs k=some j)) || decide (cs i=some j)):=by
       rw [Bool.eq_iff_iff]
       simp only [List.any_eq_true,Bool.and_eq_true,Bool.or_eq_true,decide_eq_true_eq]
       constructor
       ·
        rintro ⟨k,hk,hkt,hck⟩
        rcases (hbs k).1 hkt with h | h
        ·
         subst h; exact .inr hck
        exact .inl ⟨k,hk,h,hck⟩
       rintro (⟨k,hk,hkt,hck⟩ | h)
       ·
        exact ⟨k,hk,(hbs k).2 (.inr hkt),hck⟩
       exact ⟨i,hin,(hbs i).2 (.inl rfl),h⟩
      simp only [p',p,q,Jds,h1,h2,hji,decide_false,Bool.not_false,Bool.and_true,Bool.not_or,Bool.and_assoc]
     have hp:=List.Perm.append_right L (Jeu is R (upd vs i v) p' fun j=>decide (j=i))
     rw [e2,e3,List.append_assoc] at hp
     exact hu2.perm hp.symm
    have hf:(is.filter fun k=>decide (bl'[k]? = some false)).length=(is.filter fun k=>decide (bl'[k]? = some false) && !decide (k=i)).length+1:=Jhd hnd hin (by simp [hif])
    have:(is.filter fun k=>decide ((bl'.set i true)[k]? = some false))=is.filter fun k=>decide (bl'[k]? = some false) && !decide (k=i):=List.filter_congr fun k _=>by
     by_cases hki:k=i
     ·
      subst hki
      have hilt:k < bl'.length:=(List.getElem?_eq_some_iff.1 hif).1
      simp [hilt]
     rw [List.getElem?_set_ne (Ne.symm hki)]; simp [hki]
    rw [this]
    omega) 
   have h3:=Jbd ho (hW u' hst1)
   simpa using h3
 intro u hu
 have hfl:is.filter (fun k=>decide (bl[k]? = some false))=is:=List.filter_eq_self.2 fun k hk=>by
  obtain ⟨o,ho⟩:=Ja5 hok hk
  simp [ho.un]
 refine main is.length bl l (fun _=>undef) u ⟨rfl,fun _ _=>rfl,fun k hk=>?_,rfl,fun _ _=>rfl,fun j hj hjt=>?_,?_⟩ (by rw [hfl])
 ·
  obtain ⟨o,ho⟩:=Ja5 hok hk
  exact .inr ho.un
 ·
  obtain ⟨o,ho⟩:=Ja5 hok hj
  rw [ho.un] at hjt; cases hjt
 have:live is R (fun _=>undef) (Jds is cs fun j=>decide (bl[j]? = some true))=live is R (fun _=>undef) fun _=>false:=Jbe fun j hj=>by
  obtain ⟨o,ho⟩:=Ja5 hok hj
  exact ⟨by simp [Jds,ho.un],fun _=>rfl⟩
 rw [this,Jez]
 exact hu
end
section
variable {P:Program} {n0:Nat} {w0:World} {L:List SA} {l:List Value} {fn:Func}
theorem outR {R:Ending→World→Prop} {v:Value} (hr:Res P fn l L n0 w0 v) (hR:∀ u,St n0 w0 L u→R (.returned v) u):QS n0 w0 [] (bodyPost P fn R) .ret L l:=fun u hu=>⟨rfl,_,hr u hu,hR u hu⟩
theorem Ja6 {j b t:Nat} {ty e:TypeId} {c:List Value} (ht:l[t]? = some (.pointer (some ⟨b,0,none⟩))) (hj:L[j]? = some (blk b c e)) (hT:tk P ty=some (true,c.length)) :
  Rv P n0 w0 L l b t ty (.agg c.toArray):=⟨ht,fun u hu=>by
 have:=run_loadCells_list (P:=P) u ⟨b,0,none⟩ c fun j v h=>by rw [Ja2,Jbk (hu.blk hj).2]; simpa using h
 simp [loadVar,(Jb1 hT u).1,(Jb1 hT u).2,this]⟩
end
abbrev P3:=List Int × List Int × List Int
def Stt.x (z:Stt):P3:=(z.ths.l,z.prs.l,z.pls.l)
def Jf2 (n:Nat) (c:List Lit):Prop:=∀ x∈c,0≤x.t∧x.t < n
def Jmn (aus:List Auto) (n:Nat):Prop:=∀ a∈aus,(0≤a.t∧a.t < n)∧Jf2 n a.wh.l
structure ActIn (r:Room) (a:Actn):Prop where
 wh:Jf2 r.ths.l.length a.wh.l
 pl:0≤a.pl∧a.pl < r.pls.l.length
 us:∀ x∈a.us.l,0≤x∧x < r.prs.l.length
 sp:∀ x∈a.sp.l,0≤x∧x < r.prs.l.length
 br:∀ x∈a.br.l,0≤x∧x < r.prs.l.length
 se:∀ x∈a.se.l,putB r.ths.l x.t x.s=true
 lus:a.us.l.length≤r.prs.l.length
 lsp:a.sp.l.length≤r.prs.l.length
 lbr:a.br.l.length≤r.prs.l.length
 lse:a.se.l.length≤6
structure Ready (r:Room):Prop where
 ply:1≤r.ply∧r.ply≤4
 lens:1≤r.pls.l.length∧r.pls.l.length≤8∧r.ths.l.length≤12∧r.prs.l.length≤10∧r.wys.l.length≤16∧r.acs.l.length≤24∧r.aus.l.length≤12
 ths:∀ x∈r.ths.l,thB r x=true
 aus:Jmn r.aus.l r.ths.l.length
 aut:∀ a∈r.aus.l,putB r.ths.l a.t a.s=true
 prs:∀ p∈r.prs.l,Jf2 r.ths.l.length p.wh.l∧(p.pl = -1∨placeB r p.pl=true)
 wys:∀ x∈r.wys.l,Jf2 r.ths.l.length x.wh.l∧(0≤x.a∧x.a < r.pls.l.length)∧(0≤x.b∧x.b < r.pls.l.length)
 acs:∀ a∈r.acs.l,ActIn r a
 gl:Jf2 r.ths.l.length r.gl.l
theorem Jk4 {r:Room} {n:Int} (h:placeB r n=true):0≤n∧n < r.pls.l.length:=by
 simp only [placeB,Bool.and_eq_true,decide_eq_true_eq] at h
 omega
structure StIn (r:Room) (x:P3):Prop where
 lt:x.1.length=r.ths.l.length
 lp:x.2.1.length=r.prs.l.length
 ll:(x.2.2.length:Int)=r.ply
 th:∀ i:Int,0≤i→i < x.1.length→putB r.ths.l i (nth x.1 i)=true
 pr:∀ i:Int,0≤i→i < x.2.1.length→(placeB r (nth x.2.1 i) || (decide (nth x.2.1 i = -1) || (decide (-2 - r.ply+1≤nth x.2.1 i) && decide (nth x.2.1 i ≤ -2))))=true
 pl:∀ i:Int,0≤i→i < x.2.2.length→placeB r (nth x.2.2 i)=true
theorem StIn.at {r:Room} {x:P3} (hI:StIn r x) {i:Int} (h0:0≤i) (h1:i < x.2.2.length):0≤nth x.2.2 i∧nth x.2.2 i < r.pls.l.length:=Jk4 (hI.pl i h0 h1)
def oT {α:Type} (C:Cel α) (e:TypeId) (v:Value) (l:List α):SA:=osl e C.k v l.length (Ja8 C l)
section
variable {P:Program} {ro:Option Nat} {n0:Nat} {w0:World} {ds:List Deferred} {ops:Array Oper} {Q:Exit→Act→World→Prop} {L:List SA} {rest:List Oper} {l:List Value} {ty:TypeId} {ps:String} {af:Array Edge}
 {α:Type} {C:Cel α}
theorem WS.appendT1 {T e:TypeId} {by_ i j jz:Nat} {x y:Operand} {v z:Value} {a:α} {xs:List α} {zc:List Value} (hT:sl P T=some (e,C.k,by_)) (hz:zv P e=some zc) (hzl:zc.length=C.k) (hk:0 < C.k)
  (hx:evo l x=some v) (hj:L[j]? = some (oT C e v xs)) (hy:evo l y=some z) (hjz:L[jz]? = some (oT C e z [a])) {w:World} (h1:C.ok w a)
  (hm:xs.length+1≤9223372036854775807) (hb:(xs.length+1) * by_≤140737488355328)
  {l':Value→List Value} (hl:∀ v,lset l i v=some (l' v)) {L':Value→List SA} (hL:∀ v',lset L j (oT C e v' (xs++[a]))=some (L' v')) (k:∀ v',v'.oneCell'=true→WS P ro n0 w0 ds ops Q (L' v') rest (l' v')) :
  WS P ro n0 w0 ds ops Q L (⟨some i,.call ⟨.builtin .append, #[x,y], #[T,T]⟩,ty,ps,af,none⟩::rest) l:=by
 refine WS.append hT hz hzl hk hx hj hy (m:=1) (fun u hu=>Jbi hu hjz) (fun b hb'=>?_) hm hb hl (L':=L') (fun v'=>?_) fun v'=>?_
 ·
  rw [Ji6] at hb'; exact C.one w a h1 b hb'
 ·
  rw [← hL v',oT,Jjv]; simp
 have hjl:=(List.getElem?_eq_some_iff.1 hj).1
 have h2:=(Jak (hL v')).symm
 refine WS.oc (j:=j) (v:=v') (e:=e) (k:=C.k) (n:=(xs++[a]).length) (xs:=Ja8 C (xs++[a])) (by rw [h2,List.getElem?_set_self hjl]; rfl) (k v')
theorem Jlp {u:World} {e:TypeId} {v:Value} {xs:List α} {j:Nat} (hu:St n0 w0 L u) (hj:L[j]? = some (oT C e v xs)) (hk:∀ a∈xs,C.ok u a):SlT C u ⟨v,xs⟩:=⟨Jbi hu hj,hk⟩
end
theorem RetF.toRo {w:World} {v:Value} {A:SA} {p:World→Prop} (hp:∀ S u,A.h S u→p u) {e:Ending} {u:World} (h:RetF w v A e u):RetF w v (roS p) e u:=by
 obtain ⟨h1,h2,T,h3,h4⟩:=h
 exact ⟨h1,h2,T,⟨fun u' hk=>hp T u' (A.loc T u u' h3 hk),fun k hS=>A.dom T u k h3 hS⟩,h4⟩
theorem RetF.now {w:World} {v:Value} {p:World→Prop} {e:Ending} {u:World} (h:RetF w v (roS p) e u):p u:=by
 obtain ⟨_,_,T,h3,_⟩:=h
 exact roS.now h3
theorem StIn.held {r:Room} {x:P3} (hI:StIn r x) {i:Int} (h0:0≤i) (h1:i < x.2.1.length) (h2:nth x.2.1 i ≤ -2):0 ≤ -2 - nth x.2.1 i ∧ -2 - nth x.2.1 i < x.2.2.length:=by
 have:=hI.pr i h0 h1
 have h3:=hI.ll
 simp only [placeB,Bool.or_eq_true,Bool.and_eq_true,decide_eq_true_eq] at this
 omega
theorem Jew {α β:Type} {f:α→β} {l l':List α} (h:l.map f=l'.map f):l.length=l'.length:=by
 have:=congrArg List.length h
 simpa using this
theorem Jh2 {α β:Type} [Inhabited α] [Inhabited β] (f:α→β) (hd:f default=default) (l:List α) (i:Int):nth (l.map f) i=f (nth l i):=by
 unfold nth
 simp only [List.getD_eq_getElem?_getD,List.getElem?_map]
 cases h:l[i.toNat]? with
 | none=>simp [hd]
 | some a=>simp
structure Alike (c r:Room):Prop where
 pls:c.pls.l=r.pls.l
 ths:c.ths.l=r.ths.l
 lprs:c.prs.l.length=r.prs.l.length
 prs:c.prs.l.map Pro.e=r.prs.l.map Pro.e
 pr:∀ i,(nth c.prs.l i).nm=(nth r.prs.l i).nm∧(nth c.prs.l i).pl=(nth r.prs.l i).pl∧(nth c.prs.l i).wh.l=(nth r.prs.l i).wh.l
 lwys:c.wys.l.length=r.wys.l.length
 wy:∀ i,(nth c.wys.l i).a=(nth r.wys.l i).a∧(nth c.wys.l i).b=(nth r.wys.l i).b∧(nth c.wys.l i).wh.l=(nth r.wys.l i).wh.l
 lacs:c.acs.l.length=r.acs.l.length
 acs:c.acs.l.map Actn.e=r.acs.l.map Actn.e
 ac:∀ i,(nth c.acs.l i).e=(nth r.acs.l i).e
 laus:c.aus.l.length=r.aus.l.length
 aus:c.aus.l.map Auto.e=r.aus.l.map Auto.e
 au:∀ i,(nth c.aus.l i).t=(nth r.aus.l i).t∧(nth c.aus.l i).s=(nth r.aus.l i).s∧(nth c.aus.l i).wh.l=(nth r.aus.l i).wh.l
 ply:c.ply=r.ply
 gl:c.gl.l=r.gl.l
theorem Jh5 {α:Type} {a b:Sl α} (h:a.e (id:α→α)=b.e id):a.l=b.l:=by
 have:=congrArg Sl.l h
 simpa [Sl.e] using this
theorem Jca {α β:Type} {f:α→β} {a b:Sl α} (h:a.e f=b.e f):a.l.map f=b.l.map f:=congrArg Sl.l h
theorem Jkp {α β:Type} [Inhabited α] [Inhabited β] {f:α→β} (hd:f default=default) {l m:List α} (h:l.map f=m.map f) (i:Int):f (nth l i)=f (nth m i):=by
 rw [← Jh2 f hd, ← Jh2 f hd,h]
theorem Jpv {c r:Room} (h:c.e=r.e):Alike c r:=by
 have h1:c.pls.e id=r.pls.e id:=congrArg Room.pls h
 have h2:c.ths.e id=r.ths.e id:=congrArg Room.ths h
 have h3:c.prs.e Pro.e=r.prs.e Pro.e:=congrArg Room.prs h
 have h4:c.wys.e Way.e=r.wys.e Way.e:=congrArg Room.wys h
 have h5:c.acs.e Actn.e=r.acs.e Actn.e:=congrArg Room.acs h
 have h6:c.aus.e Auto.e=r.aus.e Auto.e:=congrArg Room.aus h
 have h7:c.gl.e id=r.gl.e id:=congrArg Room.gl h
 refine ⟨Jh5 h1,Jh5 h2,Jew (Jca h3),Jca h3,fun i=>?_,Jew (Jca h4),fun i=>?_,Jew (Jca h5),Jca h5,fun i=>Jkp (f:=Actn.e) rfl (Jca h5) i,Jew (Jca h6),Jca h6,fun i=>?_,(by have:=congrArg Room.ply h; exact this),Jh5 h7⟩
 ·
  have:=Jkp (f:=Pro.e) rfl (Jca h3) i
  have a1:=congrArg Pro.nm this
  have a2:=congrArg Pro.pl this
  have a3:=congrArg Pro.wh this
  exact ⟨a1,a2,Jh5 a3⟩
 ·
  have:=Jkp (f:=Way.e) rfl (Jca h4) i
  have a1:=congrArg Way.a this
  have a2:=congrArg Way.b this
  have a3:=congrArg Way.wh this
  exact ⟨a1,a2,Jh5 a3⟩
 have:=Jkp (f:=Auto.e) rfl (Jca h6) i
 have a1:=congrArg Auto.t this
 have a2:=congrArg Auto.s this
 have a3:=congrArg Auto.wh this
 exact ⟨a1,a2,Jh5 a3⟩
theorem Alike.placeB {c r:Room} (h:Alike c r) (n:Int):placeB c n=placeB r n:=by unfold Go.Proofs.YtdpbapffdmahnaaGreatDoor.placeB; rw [h.pls]
theorem Alike.symm {c r:Room} (h:c.e=r.e):Alike r c:=Jpv h.symm
theorem bq:(∀ (p:Prop) [Decidable p],(decide p=true)=p)∧(∀ (p:Prop) [Decidable p],(decide p=false)=¬ p)∧(∀ a b:Bool,((a && b)=true)=(a=true∧b=true))∧(∀ a b:Bool,((a || b)=true)=(a=true∨b=true)) ∧
  (∀ a b:Bool,((a && b)=false)=(a=false∨b=false))∧(∀ a b:Bool,((a || b)=false)=(a=false∧b=false))∧(∀ a:Bool,((!a)=true)=(a=false))∧(∀ a:Bool,((!a)=false)=(a=true))∧(∀ (α:Type) (a b:α),(a≠b)=¬ a=b)∧(∀ p:Prop,[Decidable p]→(¬ ¬ p)=p) ∧
  ((!true)=false)∧((!false)=true)∧(∀ (α:Type) [BEq α] [LawfulBEq α] (a b:α),((a != b)=true)=¬ a=b)∧(∀ (α:Type) [BEq α] [LawfulBEq α] (a b:α),((a != b)=false)=(a=b))∧(∀ (α:Type) [BEq α] [LawfulBEq α] (a b:α),((a == b)=true)=(a=b))∧(∀ (α:Type) [BEq α] [LawfulBEq α] (a b:α),((a == b)=false)=¬ a=b):=by
 refine ⟨fun p _=>by simp,fun p _=>by simp,fun a b=>by simp,fun a b=>by simp,fun a b=>by cases a <;> cases b <;> simp,fun a b=>by simp,fun a=>by simp,fun a=>by simp,fun α a b=>by simp,fun p=>by simp [Decidable.not_not],rfl,rfl,fun α _ _ a b=>by simp,fun α _ _ a b=>by simp,fun α _ _ a b=>by simp,fun α _ _ a b=>by simp⟩
inductive Tb (α:Type) where
 | o
 | n (l:Tb α) (k:Nat) (v:α) (r:Tb α)
def Tb.get {α:Type}:Tb α→Nat→Option α
 | .o,_=>none
 | .n l k v r,i=>match Nat.blt i k with
  | true=>l.get i
  | false=>match Nat.beq i k with
   | true=>some v
   | false=>r.get i
def Tb.all {α:Type} (p:Nat→α→Bool):Tb α→Bool
 | .o=>true
 | .n l k v r=>l.all p && p k v && r.all p
theorem Tb.get_all {α:Type} {p:Nat→α→Bool}:∀ {t:Tb α} {i:Nat} {v:α},t.all p=true→t.get i=some v→p i v=true
 | .o,_,_,_,h=>by simp [Tb.get] at h
 | .n l k x r,i,v,ha,h=>by
  simp only [Tb.all,Bool.and_eq_true] at ha
  unfold Tb.get at h
  split at h
  ·
   exact Tb.get_all ha.1.1 h
  split at h
  ·
   rename_i hb
   have:i=k:=Nat.eq_of_beq_eq_true hb
   cases h
   subst this
   exact ha.1.2
  exact Tb.get_all ha.2 h
class Fx (P:Program) where
 ft:Tb (List Nat)
 kt:Tb (Bool × Nat)
 st:Tb (TypeId × Nat × Nat)
 fk:ft.all (fun T l=>l.zipIdx.all fun x=>fo P T x.2 == some x.1)=true
 kk:kt.all (fun T r=>tk P T == some r)=true
 sk:st.all (fun T r=>sl P T == some r)=true
def fof (P:Program) [F:Fx P] (T i:Nat):Option Nat:=match F.ft.get T with
 | some l=>l[i]?
 | none=>none
def tkf (P:Program) [F:Fx P] (T:Nat):Option (Bool × Nat):=F.kt.get T
def slf (P:Program) [F:Fx P] (T:Nat):Option (TypeId × Nat × Nat):=F.st.get T
section
variable {P:Program} [Fx P]
theorem Jlv {T i m:Nat} (h:fof P T i=some m):fo P T i=some m:=by
 unfold fof at h
 split at h
 ·
  rename_i l hl
  have h1:=Tb.get_all (Fx.fk (P:=P)) hl
  rw [List.all_eq_true] at h1
  have h2:=h1 (m,i) (by rw [List.mk_mem_zipIdx_iff_getElem?]; exact h)
  simpa using h2
 simp at h
theorem Jcv {T:Nat} {r:Bool × Nat} (h:tkf P T=some r):tk P T=some r:=by
 have:=Tb.get_all (Fx.kk (P:=P)) h
 simpa using this
theorem Jeo {T:Nat} {r:TypeId × Nat × Nat} (h:slf P T=some r):sl P T=some r:=by
 have:=Tb.get_all (Fx.sk (P:=P)) h
 simpa using this
end
def ikq:IntKind→IntKind→Bool
 | .i64,.i64=>true
 | .u8,.u8=>true
 | .i32,.i32=>true
 | _,_=>false
theorem Jo0 {a b:IntKind} (h:ikq a b=true):a=b:=by cases a <;> cases b <;> first | rfl | cases h
def cmpf:BinOp→Int→Int→Option Bool
 | .eql,a,b=>some (decide (a=b))
 | .neq,a,b=>some (decide (a≠b))
 | .lss,a,b=>some (decide (a < b))
 | .leq,a,b=>some (decide (a≤b))
 | .gtr,a,b=>some (decide (b < a))
 | .geq,a,b=>some (decide (b≤a))
 | _,_,_=>none
def fv (P:Program) [Fx P] (l:List Value):Op→Option Value
 | .move x=>evo l x
 | .assign x=>evo l x
 | .fieldAddr T x f=>match evo l x with
  | some (.pointer (some ⟨b,o,none⟩))=>match fof P T f with
   | some m=>some (.pointer (some ⟨b,o+m,none⟩))
   | none=>none
  | _=>none
 | .binOp k _ x y _=>match evo l x,evo l y with
  | some (.int i a),some (.int j b)=>match ikq i j with
   | true=>match cmpf k a b with
    | some r=>some (.bool r)
    | none=>none
   | false=>none
  | _,_=>none
 | .unOp .not _ x=>match evo l x with
  | some (.bool a)=>some (.bool (!a))
  | _=>none
 | .extract x i=>match evo l x with
  | some (.tuple ⟨vs⟩)=>vs[i]?
  | _=>none
 | .nilCheck x=>match evo l x with
  | some (.pointer (some a))=>some (.pointer (some a))
  | _=>none
 | _=>none
def runF (P:Program) [Fx P]:Nat→List Oper→List Value→Option (List Oper × List Value)
 | 0,ops,l=>some (ops,l)
 | n+1,⟨some d,op,_,_,_,none⟩::ops,l=>match fv P l op with
  | some v=>match lset l d v with
   | some l'=>runF P n ops l'
   | none=>none
  | none=>none
 | _,_,_=>none
section
variable {P:Program} [Fx P] {C:World→Prop} {l:List Value} {d:Option Tmp} {ty:TypeId} {ps:String} {af:Array Edge} {g:Option (Nat × Bool)}
theorem Jhn {op:Op} {v:Value} (h:fv P l op=some v):Det P C ⟨d,op,ty,ps,af,g⟩ l v:=by
 unfold fv at h
 split at h
 ·
  exact Jfc h
 ·
  exact Jei h
 ·
  split at h
  ·
   rename_i b o hx
   split at h
   ·
    rename_i m hm
    cases h
    exact Jct hx (Jlv hm)
   cases h
  cases h
 ·
  split at h
  ·
   rename_i i a j b hx hy
   split at h
   ·
    rename_i hk
    have:=Jo0 hk
    subst this
    split at h
    ·
     rename_i r hr
     cases h
     unfold cmpf at hr
     split at hr
     ·
      cases hr; exact Jlz hx hy
     ·
      cases hr; exact Jl0 hx hy
     ·
      cases hr; exact Jog hx hy
     ·
      cases hr; exact Jlw hx hy
     ·
      cases hr; exact Jot hx hy
     ·
      cases hr; exact Jn5 hx hy
     cases hr
    cases h
   cases h
  cases h
 ·
  split at h
  ·
   rename_i a hx
   cases h
   exact Jgs hx
  cases h
 ·
  split at h
  ·
   rename_i vs hx
   exact Jgp (vs:=vs) hx h
  cases h
 ·
  split at h
  ·
   rename_i a hx
   cases h
   exact Jf1 hx
  cases h
 cases h
theorem Jm4 {op:Op} {v:Value} (h:fv P l op=some v):calm op=true:=by
 cases op <;> first | rfl | (simp [fv] at h)
end
section
variable {P:Program} [Fx P] {ro:Option Nat} {n0:Nat} {w0:World} {ds:List Deferred} {ops:Array Oper} {Q:Exit→Act→World→Prop} {L:List SA} {C:World→Prop}
theorem Wz:∀ (n:Nat) {rest rest':List Oper} {l l':List Value} (k:WS P ro n0 w0 ds ops Q L rest' l') (h:runF P n rest l=some (rest',l'):=by exact rfl),WS P ro n0 w0 ds ops Q L rest l
 | 0,_,_,_,_,k,h=>by cases h; exact k
 | n+1,rest,rest',l,l',k,h=>by
  unfold runF at h
  split at h
  ·
   cases h; exact k
  ·
   rename_i n' d op ty ps af os l0 hn
   cases hn
   split at h
   ·
    rename_i v hv
    split at h
    ·
     rename_i l1 hl
     exact WS.det (Jm4 hv) rfl rfl (Jhn hv) hl (Wz n k h)
    cases h
   cases h
  cases h
theorem Dz:∀ (n:Nat) {rest rest':List Oper} {l l':List Value} (k:DS P n0 w0 ds ops Q L rest' l') (h:runF P n rest l=some (rest',l'):=by exact rfl),DS P n0 w0 ds ops Q L rest l
 | 0,_,_,_,_,k,h=>by cases h; exact k
 | n+1,rest,rest',l,l',k,h=>by
  unfold runF at h
  split at h
  ·
   cases h; exact k
  ·
   rename_i n' d op ty ps af os l0 hn
   cases hn
   split at h
   ·
    rename_i v hv
    split at h
    ·
     rename_i l1 hl
     exact DS.det rfl rfl (Jhn hv) hl (Dz n k h)
    cases h
   cases h
  cases h
variable {rest rest':List Oper} {l l' l'':List Value} {o:Oper} {d j s:Nat} {v:Value} {b c x want:Bool} {bl bl' bl'':List Bool} {fuel fuel' na:Nat}
theorem Wk (n:Nat) (h:Det P (St n0 w0 L) o l v) (k:WS P ro n0 w0 ds ops Q L rest' l'') (hc:calm o.op=true:=by exact rfl) (hd:o.dst=some d:=by exact rfl) (hg:o.guard=none:=by exact rfl) (hl:lset l d v=some l':=by exact rfl) (hr:runF P n rest l'=some (rest',l''):=by exact rfl):WS P ro n0 w0 ds ops Q L (o::rest) l:=WS.det hc hd hg h hl (Wz n k hr)
theorem Wt (n:Nat) (hg:o.guard=some (j,true)) (hb:yielded ops l.toArray j=some b) (h:b=true→Det P (St n0 w0 L) o l v) (k:WS P ro n0 w0 ds ops Q L rest' l'') (hc:calm o.op=true:=by exact rfl) (hd:o.dst=some d:=by exact rfl) (hl:lset l d (cond b v undef)=some l':=by exact rfl) (hr:runF P n rest l'=some (rest',l''):=by exact rfl):WS P ro n0 w0 ds ops Q L (o::rest) l:=WS.guardT hc hd hg hb h hl (Wz n k hr)
theorem Wf (n:Nat) (hg:o.guard=some (j,false)) (hb:yielded ops l.toArray j=some b) (h:(!b)=true→Det P (St n0 w0 L) o l v) (k:WS P ro n0 w0 ds ops Q L rest' l'') (hc:calm o.op=true:=by exact rfl) (hd:o.dst=some d:=by exact rfl) (hl:lset l d (cond (!b) v undef)=some l':=by exact rfl) (hr:runF P n rest l'=some (rest',l''):=by exact rfl):WS P ro n0 w0 ds ops Q L (o::rest) l:=WS.guardF hc hd hg hb h hl (Wz n k hr)
theorem Wn (n:Nat) (hg:o.guard=some (j,want)) (hs:(ops[j]?).bind (·.dst)=some s) (hv:l[s]? = some (cond c (.bool x) undef)) (h:(c && (x == want))=true→Det P (St n0 w0 L) o l v) (k:WS P ro n0 w0 ds ops Q L rest' l'') (hc:calm o.op=true:=by exact rfl) (hd:o.dst=some d:=by exact rfl) (hl:lset l d (cond (c && (x == want)) v undef)=some l':=by exact rfl) (hr:runF P n rest l'=some (rest',l''):=by exact rfl):WS P ro n0 w0 ds ops Q L (o::rest) l:=WS.guardN hc hd hg hs hv h hl (Wz n k hr)
theorem Dk (n:Nat) (h:Det P (St n0 w0 L) o l v) (k:DS P n0 w0 ds ops Q L rest' l'') (hd:o.dst=some d:=by exact rfl) (hg:o.guard=none:=by exact rfl) (hl:lset l d v=some l':=by exact rfl) (hr:runF P n rest l'=some (rest',l''):=by exact rfl):DS P n0 w0 ds ops Q L (o::rest) l:=DS.det hd hg h hl (Dz n k hr)
theorem Dt (n:Nat) (hg:o.guard=some (j,true)) (hb:yielded ops l.toArray j=some b) (h:b=true→Det P (St n0 w0 L) o l v) (k:DS P n0 w0 ds ops Q L rest' l'') (hd:o.dst=some d:=by exact rfl) (hl:lset l d (cond b v undef)=some l':=by exact rfl) (hr:runF P n rest l'=some (rest',l''):=by exact rfl):DS P n0 w0 ds ops Q L (o::rest) l:=DS.guardT hd hg hb h hl (Dz n k hr)
def asOk (ops:Array Oper):List Nat→List Bool→Bool
 | [],_=>true
 | i::is,bl=>Region.free .any ops bl.toArray i && (Region.ready .any ops bl.toArray).contains i && asOk ops is (bl.set i true)
def atOk (ops:Array Oper) (na s:Nat):List Nat→List Bool→Bool
 | [],_=>true
 | i::is,bl=>Jg0 ops na i s && !(i == s) && Je3 ops bl.toArray && Region.free .any ops bl.toArray i && (Region.ready .any ops bl.toArray).contains i && atOk ops na s is (bl.set i true)
def runA (P:Program) [Fx P] (ops:Array Oper):List Nat→Nat→List Bool→List Value→Option (Nat × List Bool × List Value)
 | [],f,bl,l=>some (f,bl,l)
 | i::is,f+1,bl,l=>match ops[i]? with
  | some ⟨some d,op,_,_,_,none⟩=>match fv P l op with
   | some v=>match lset l d v with
    | some l'=>match lset bl i true with
     | some bl'=>runA P ops is f bl' l'
     | none=>none
    | none=>none
   | none=>none
  | _=>none
 | _,_,_,_=>none
theorem Az (hcalm:Ja4 ops=true):∀ (is:List Nat) {fuel fuel':Nat} {bl bl':List Bool} {l l':List Value} (hk:asOk ops is bl=true) (k:AS P ro n0 w0 ds ops Q C L fuel' bl' l')
  (h:runA P ops is fuel bl l=some (fuel',bl',l')),AS P ro n0 w0 ds ops Q C L fuel bl l
 | [],_,_,_,_,_,_,_,k,h=>by cases h; exact k
 | i::is,fuel,fuel',bl,bl',l,l',hk,k,h=>by
  unfold runA at h
  split at h
  ·
   rename_i he; cases he
  ·
   rename_i i' is' f bl0 l0 he
   cases he
   simp only [asOk,Bool.and_eq_true] at hk
   split at h
   ·
    rename_i d op ty ps af ho
    split at h
    ·
     rename_i v hv
     split at h
     ·
      rename_i l1 hl
      split at h
      ·
       rename_i bl1 hb
       have hb1:=Jak hb
       exact AS.take i ho hcalm hk.1.1 hk.1.2 rfl rfl (Jhn hv) hb hl (Az hcalm is (by rw [← hb1]; exact hk.2) k h)
      cases h
     cases h
    cases h
   cases h
  cases h
theorem Tz (hcalm:Ja4 ops=true) {na s:Nat}:∀ (is:List Nat) {fuel fuel':Nat} {bl bl':List Bool} {l l':List Value} (hk:atOk ops na s is bl=true) (k:AT P ro n0 w0 ds ops Q C s L fuel' bl' l')
  (h:runA P ops is fuel bl l=some (fuel',bl',l')),AT P ro n0 w0 ds ops Q C s L fuel bl l
 | [],_,_,_,_,_,_,_,k,h=>by cases h; exact k
 | i::is,fuel,fuel',bl,bl',l,l',hk,k,h=>by
  unfold runA at h
  split at h
  ·
   rename_i he; cases he
  ·
   rename_i i' is' f bl0 l0 he
   cases he
   simp only [atOk,Bool.and_eq_true] at hk
   split at h
   ·
    rename_i d op ty ps af ho
    split at h
    ·
     rename_i v hv
     split at h
     ·
      rename_i l1 hl
      split at h
      ·
       rename_i bl1 hb
       have hb1:=Jak hb
       exact AT.take i ho hcalm hk.1.1.1.1.1 (by simpa using hk.1.1.1.1.2) hk.1.1.1.2 hk.1.1.2 hk.1.2 rfl rfl (Jhn hv) hb hl (Tz hcalm is (by rw [← hb1]; exact hk.2) k h)
      cases h
     cases h
    cases h
   cases h
  cases h
theorem Ar (is:List Nat) (k:AS P ro n0 w0 ds ops Q C L fuel' bl' l') (hcalm:Ja4 ops=true:=by kernel_rfl) (hk:asOk ops is bl=true:=by kernel_rfl) (h:runA P ops is fuel bl l=some (fuel',bl',l'):=by exact rfl):AS P ro n0 w0 ds ops Q C L fuel bl l:=Az hcalm is hk k h
theorem Ak (i:Nat) (is:List Nat) (hi:ops[i]? = some o) (h:Det P C o l v) (k:AS P ro n0 w0 ds ops Q C L fuel' bl'' l'') (hcalm:Ja4 ops=true:=by kernel_rfl) (hk:asOk ops (i::is) bl=true:=by kernel_rfl)
  (hd:o.dst=some d:=by exact rfl) (hg:o.guard=none:=by exact rfl) (hb:lset bl i true=some bl':=by exact rfl) (hl:lset l d v=some l':=by exact rfl) (hr:runA P ops is fuel bl' l'=some (fuel',bl'',l''):=by exact rfl):AS P ro n0 w0 ds ops Q C L (fuel+1) bl l:=by
 simp only [asOk,Bool.and_eq_true] at hk
 exact AS.take i hi hcalm hk.1.1 hk.1.2 hd hg h hb hl (Az hcalm is (by rw [← Jak hb]; exact hk.2) k hr)
theorem Tk (na i:Nat) (is:List Nat) (hi:ops[i]? = some o) (h:Det P C o l v) (k:AT P ro n0 w0 ds ops Q C s L fuel' bl'' l'') (hcalm:Ja4 ops=true:=by kernel_rfl) (hk:atOk ops na s (i::is) bl=true:=by kernel_rfl)
  (hd:o.dst=some d:=by exact rfl) (hg:o.guard=none:=by exact rfl) (hb:lset bl i true=some bl':=by exact rfl) (hl:lset l d v=some l':=by exact rfl) (hr:runA P ops is fuel bl' l'=some (fuel',bl'',l''):=by exact rfl):AT P ro n0 w0 ds ops Q C s L (fuel+1) bl l:=by
 simp only [atOk,Bool.and_eq_true] at hk
 exact AT.take i hi hcalm hk.1.1.1.1.1 (by simpa using hk.1.1.1.1.2) hk.1.1.1.2 hk.1.1.2 hk.1.2 hd hg h hb hl (Tz hcalm is (by rw [← Jak hb]; exact hk.2) k hr)
theorem Dr {id:Nat} {os:List Oper} (hm:P.follows .mixedOrders=true) (n:Nat) (k:DS P n0 w0 ds os.toArray Q L rest' l') (hr:runF P n os l=some (rest',l'):=by exact rfl) (hB:Region.lexB .any os.toArray=true:=by kernel_rfl) (hcalm:Ja4 os.toArray=true:=by kernel_rfl) :
  CS P ro n0 w0 ds (.region id os.toArray true) Q L l:=CS.draw hm hB hcalm (Dz n k hr)
end
section
variable {P:Program} {ro:Option Nat} {n0:Nat} {w0:World} {ds:List Deferred} {ops:Array Oper} {Q:Exit→Act→World→Prop} {L:List SA} {C:World→Prop} {l:List Value} {o:Oper} {s:Nat} {bl bl':List Bool} {fuel:Nat}
theorem Ao (i:Nat) (hi:ops[i]? = some o) (k:WS P ro n0 w0 ds ops (Exit.then (AH P ro ops (NP Q) C fuel bl'.toArray) (NP Q)) L [o] l) (hr:Region.ready .any ops bl.toArray=[i]:=by kernel_rfl)
  (hC:∀ u,St n0 w0 L u→C u:=by first | exact fun _ h=>h | exact fun _ h=>h.sub (by repeat first | exact List.Sublist.refl _ | apply List.Sublist.cons_cons | apply List.Sublist.cons)) (hb:lset bl i true=some bl':=by exact rfl):AS P ro n0 w0 ds ops Q C L (fuel+1) bl l:=AS.one hr hi hC hb k
theorem Ae (k:QS n0 w0 ds Q .normal L l) (hr:Region.ready .any ops bl.toArray=[]:=by kernel_rfl)
  (hC:∀ u,St n0 w0 L u→C u:=by first | exact fun _ h=>h | exact fun _ h=>h.sub (by repeat first | exact List.Sublist.refl _ | apply List.Sublist.cons_cons | apply List.Sublist.cons)):AS P ro n0 w0 ds ops Q C L 0 bl l:=AS.done hr hC k
theorem To (i:Nat) (hi:ops[i]? = some o) (k:WS P ro n0 w0 ds ops (Exit.then (AZ P ro ops (NP Q) C s fuel bl'.toArray) (NP Q)) L [o] l) (hr:Region.ready .any ops bl.toArray=[i]:=by kernel_rfl)
  (hC:bl.toArray.getD s true=false→∀ u,St n0 w0 L u→C u:=by first | (intro h; exact absurd h (by decide)) | exact fun _ _ h=>h | exact fun _ _ h=>h.sub (by repeat first | exact List.Sublist.refl _ | apply List.Sublist.cons_cons | apply List.Sublist.cons)) (hb:lset bl i true=some bl':=by exact rfl):AT P ro n0 w0 ds ops Q C s L (fuel+1) bl l:=AT.one hr hi hC hb k
theorem Te (k:QS n0 w0 ds Q .normal L l) (hr:Region.ready .any ops bl.toArray=[]:=by kernel_rfl)
  (hC:bl.toArray.getD s true=false→∀ u,St n0 w0 L u→C u:=by first | (intro h; exact absurd h (by decide)) | exact fun _ _ h=>h | exact fun _ _ h=>h.sub (by repeat first | exact List.Sublist.refl _ | apply List.Sublist.cons_cons | apply List.Sublist.cons)):AT P ro n0 w0 ds ops Q C s L 0 bl l:=AT.done hr hC k
end
section
variable {P:Program} {C:World→Prop} {l:List Value} {d:Option Tmp} {ty:TypeId} {ps:String} {af:Array Edge} {g:Option (Nat × Bool)} {v:Value}
theorem op_ {x:Operand} (h:evo l x=some v:=by first | rfl | exact Jgx (by assumption) rfl | exact Jgx (Jpo (by assumption)) rfl):evo l x=some v:=h
variable {n0:Nat} {w0:World} {L:List SA} {T T' e e':TypeId} {x y z:Operand} {i b o a k q q' m n:Nat} {c cs:List Value} {vv:Value} {xs:List Int} {ii aa bb:Int} {w:World} {ik:IntKind} {ba bc br:Bool}
theorem Fm (h:evo l x=some v:=by exact op_):Det P C ⟨d,.move x,ty,ps,af,g⟩ l v:=Jfc h
theorem Fq (hx:evo l x=some (.int ik aa):=by exact op_) (hy:evo l y=some (.int ik bb):=by exact op_):Det P C ⟨d,.binOp .eql T x y T',ty,ps,af,g⟩ l (.bool (decide (aa=bb))):=Jlz hx hy
theorem Fr (hx:evo l x=some (.int ik aa):=by exact op_) (hy:evo l y=some (.int ik bb):=by exact op_):Det P C ⟨d,.binOp .neq T x y T',ty,ps,af,g⟩ l (.bool (decide (aa≠bb))):=Jl0 hx hy
theorem Fk (hx:evo l x=some (.int ik aa):=by exact op_) (hy:evo l y=some (.int ik bb):=by exact op_):Det P C ⟨d,.binOp .leq T x y T',ty,ps,af,g⟩ l (.bool (decide (aa≤bb))):=Jlw hx hy
theorem Fn (hx:evo l x=some (.bool ba):=by exact op_):Det P C ⟨d,.unOp .not T x,ty,ps,af,g⟩ l (.bool (!ba)):=Jgs hx
theorem Pa (hc:evo l x=some (.bool bc):=by exact op_) (hx:evo l y=some (cond bc (.bool br) undef):=by exact rfl) (hy:evo l z=some (.bool false):=by exact rfl):Det P C ⟨d,.pick x y z,ty,ps,af,g⟩ l (.bool (bc && br)):=Jb6 hc hx hy
theorem Po (hc:evo l x=some (.bool bc):=by exact op_) (hy:evo l z=some (cond (!bc) (.bool br) undef):=by exact rfl) (hx:evo l y=some (.bool true):=by exact rfl):Det P C ⟨d,.pick x y z,ty,ps,af,g⟩ l (.bool (bc || br)):=Jgr hc hy hx
theorem Za (hx:evo l x=some (.int .i64 aa):=by exact op_) (hy:evo l y=some (.int .i64 bb):=by exact op_) (h : -9223372036854775808≤aa+bb∧aa+bb≤9223372036854775807:=by (try simp only [bq] at hg); omega):Det P C ⟨d,.binOp .add T x y T',ty,ps,af,g⟩ l (.int .i64 (aa+bb)):=Jmb hx hy h
theorem Zb (hx:evo l x=some (.int .i64 aa):=by exact op_) (hy:evo l y=some (.int .i64 bb):=by exact op_) (h : -9223372036854775808≤aa - bb∧aa - bb≤9223372036854775807:=by (try simp only [bq] at hg); omega):Det P C ⟨d,.binOp .sub T x y T',ty,ps,af,g⟩ l (.int .i64 (aa - bb)):=Jgj hx hy h
theorem Db {pl:List (Nat × Operand)} {pls:List (Nat × Nat)} {zs:List Value} {parts:List (Nat × Value)} (hp:plc P T=some pls) (hz:zv P T=some zs) (hv:evp l pl=some parts:=by exact rfl) (hb:bld pls zs parts=some cs:=by exact rfl)
  (h1:∀ p∈parts,p.2.oneCell'=true:=by first | (simp [Value.oneCell']; done) | ((repeat (refine List.forall_mem_cons.2 ⟨by first | rfl | assumption,?_⟩)); exact fun _ h=>absurd h List.not_mem_nil)):Det P C ⟨d,.build T pl.toArray,ty,ps,af,g⟩ l (.agg cs.toArray):=Jh9 hp hz hv hb h1
theorem Cb {f:Operand} {args:List Operand} {ts:Array TypeId} {fn:FuncId} {cap:List Value} {vs:List Value} (hf:evo l f=some (.func (.func fn) #[] cap.toArray)) (hv:evs l args=some vs) (he:Ent P fn)
  (hc:∀ u,St n0 w0 L u→Calls P fn (vs++cap).toArray u (RetB u v)):Det P (St n0 w0 L) ⟨d,.call ⟨.value f,args.toArray,ts⟩,ty,ps,af,g⟩ l v:=Ji0 hf hv he hc
end
section
variable {P:Program} [Fx P] {C:World→Prop} {l:List Value} {d:Option Tmp} {ty:TypeId} {ps:String} {af:Array Edge} {g:Option (Nat × Bool)} {v:Value}
variable {n0:Nat} {w0:World} {L:List SA} {T T' e e':TypeId} {x y z:Operand} {i b o a k q q' m n:Nat} {c cs:List Value} {vv:Value} {xs:List Int} {ii aa bb:Int} {w:World} {ik:IntKind} {ba bc br:Bool}
theorem Ff {f:Nat} (hx:evo l x=some (.pointer (some ⟨b,o,none⟩)):=by exact op_) (hf:fof P T f=some m:=by exact rfl):Det P C ⟨d,.fieldAddr T x f,ty,ps,af,g⟩ l (.pointer (some ⟨b,o+m,none⟩)):=Jct hx (Jlv hf)
theorem Ba (j:Nat) (hx:evo l x=some (.pointer (some ⟨b,i,none⟩)):=by exact op_) (hj:L[j]? = some (blk b c e):=by exact rfl) (hv:c[i]? = some v:=by exact rfl) (hT:tkf P T=some (false,k):=by exact rfl):Det P (St n0 w0 L) ⟨d,.load T x,ty,ps,af,g⟩ l v:=Jaa hx hj hv (Jcv hT)
theorem Bb (j:Nat) (hx:evo l x=some (.pointer (some ⟨b,0,none⟩)):=by exact op_) (hj:L[j]? = some (blk b c e):=by exact rfl) (hT:tkf P T=some (true,c.length):=by exact rfl):Det P (St n0 w0 L) ⟨d,.load T x,ty,ps,af,g⟩ l (.agg c.toArray):=Jad hx hj (Jcv hT)
theorem Ga (hx:evo l x=some (.pointer (some ⟨b,i,none⟩)):=by exact op_) (hb:BlkAt w0 b c e:=by assumption) (hv:c[i]? = some v:=by exact rfl) (hT:tkf P T=some (false,k):=by exact rfl):Det P (St w0.heap.size w0 L) ⟨d,.load T x,ty,ps,af,g⟩ l v:=Jac hx hb hv (Jcv hT)
theorem Gb (hx:evo l x=some (.pointer (some ⟨b,0,none⟩)):=by exact op_) (hb:BlkAt w0 b c e:=by assumption) (hT:tkf P T=some (true,n):=by exact rfl) (hn:c.length=n:=by exact rfl):Det P (St w0.heap.size w0 L) ⟨d,.load T x,ty,ps,af,g⟩ l (.agg c.toArray):=Jag hx hb hn (Jcv hT)
theorem Ia (hx:evo l x=some (.pointer (some (sla vv ii.toNat))):=by exact op_) (hs:SlI w0 vv xs:=by assumption) (h:0≤ii∧ii < xs.length:=by (try simp only [bq] at hg); omega) (hT:tkf P T=some (false,q):=by exact rfl):Det P (St w0.heap.size w0 L) ⟨d,.load T x,ty,ps,af,g⟩ l (.int .i64 (nth xs ii)):=Jgq hx hs h (Jcv hT)
theorem Ib (j:Nat) (hx:evo l x=some (.pointer (some (sla vv ii.toNat))):=by exact op_) (hj:L[j]? = some (oints e vv xs):=by exact rfl) (h:0≤ii∧ii < xs.length:=by (try simp only [bq] at hg); omega) (hT:tkf P T=some (false,q):=by exact rfl):Det P (St n0 w0 L) ⟨d,.load T x,ty,ps,af,g⟩ l (.int .i64 (nth xs ii)):=Jhm hx hj h (Jcv hT)
theorem Xa (hx:evo l x=some vv:=by exact op_) (hy:evo l y=some (.int .i64 ii):=by exact op_) (hs:SlI w vv xs:=by assumption) (h0:0≤ii:=by (try simp only [bq] at hg); omega) (h1:ii < xs.length:=by (try simp only [bq] at hg); omega) (hT:slf P T=some (e,1,q):=by exact rfl):Det P C ⟨d,.indexAddr T x y,ty,ps,af,g⟩ l (.pointer (some (sla vv ii.toNat))):=Je2 (Jeo hT) hx hy hs h0 h1
theorem Xb (j:Nat) (hx:evo l x=some vv:=by exact op_) (hy:evo l y=some (.int .i64 ii):=by exact op_) (hj:L[j]? = some (oints e' vv xs):=by exact rfl) (h0:0≤ii:=by (try simp only [bq] at hg); omega) (h1:ii < xs.length:=by (try simp only [bq] at hg); omega) (hT:slf P T=some (e,1,q):=by exact rfl):Det P (St n0 w0 L) ⟨d,.indexAddr T x y,ty,ps,af,g⟩ l (.pointer (some (sla vv ii.toNat))):=Ji3 (Jeo hT) hx hy hj h0 h1
theorem Na (hx:evo l x=some vv:=by exact op_) (hs:SlI w vv xs:=by assumption) (hT:slf P T=some (e,a,q):=by exact rfl):Det P C ⟨d,.call ⟨.builtin .len, #[x], #[T]⟩,ty,ps,af,g⟩ l (.int .i64 xs.length):=Jbj (Jeo hT) hx hs
theorem Nb (j:Nat) (hx:evo l x=some vv:=by exact op_) (hj:L[j]? = some (oints e' vv xs):=by exact rfl) (hT:slf P T=some (e,a,q):=by exact rfl):Det P (St n0 w0 L) ⟨d,.call ⟨.builtin .len, #[x], #[T]⟩,ty,ps,af,g⟩ l (.int .i64 xs.length):=Jjj (Jeo hT) hx hj
section
variable {α:Type} {K:Cel α} {s:Sl α}
theorem Nc (hx:evo l x=some s.v:=by exact op_) (hs:SlT K w s:=by assumption) (hT:slf P T=some (e,a,q):=by exact rfl):Det P C ⟨d,.call ⟨.builtin .len, #[x], #[T]⟩,ty,ps,af,g⟩ l (.int .i64 s.l.length):=Jk5 (Jeo hT) hx hs
theorem Xc (hx:evo l x=some s.v:=by exact op_) (hy:evo l y=some (.int .i64 ii):=by exact op_) (hs:SlT K w s:=by assumption) (hT:slf P T=some (e,k,q):=by exact rfl) (hk:K.k=k:=by exact rfl) (h0:0≤ii:=by (try simp only [bq] at hg); omega) (h1:ii < s.l.length:=by (try simp only [bq] at hg); omega):Det P C ⟨d,.indexAddr T x y,ty,ps,af,g⟩ l (.pointer (some (sla s.v (ii.toNat * k)))):=Jlh (Jeo hT) hx hy hs hk h0 h1
variable [Inhabited α]
theorem Vb (jj:Nat) (hj:L[jj]? = some (roT K s)) (hx:evo l x=some (.pointer (some (sla s.v (ii.toNat * 1)))):=by exact op_) (hk:K.k=1:=by exact rfl) (h:0≤ii∧ii < s.l.length:=by (try simp only [bq] at hg); omega) (hc:(K.cells (nth s.l ii))[0]? = some v:=by exact rfl) (hT:tkf P T=some (false,q):=by exact rfl):Det P (St n0 w0 L) ⟨d,.load T x,ty,ps,af,g⟩ l v:=Jj8 hj hx rfl hk h hc (Jcv hT)
end
end
section
variable {P:Program} [Fx P] {ro:Option Nat} {n0:Nat} {w0:World} {ds:List Deferred} {ops:Array Oper} {Q:Exit→Act→World→Prop} {L L':List SA} {l l'':List Value} {T ty e:TypeId} {x y:Operand} {ps:String} {af:Array Edge} {b i q d:Nat} {bq_:Bool} {c c' vs:List Value} {v:Value} {rest rest':List Oper}
theorem Ws (n j:Nat) (k:WS P ro n0 w0 ds ops Q L' rest' l'') (hx:evo l x=some (.pointer (some ⟨b,i,none⟩)):=by exact rfl) (hj:L[j]? = some (blk b c e):=by exact rfl) (hi:i < c.length:=by first | decide | omega | (simp; done) | (simp; omega) | exact Nat.le_of_ble_eq_true rfl)
  (hy:evo l y=some v:=by exact rfl) (h1:v.oneCell'=true:=by first | rfl | assumption) (hT:tkf P T=some (bq_,1):=by exact rfl) (hc:lset c i v=some c':=by first | exact rfl | exact Jch _ _ _) (hL:lset L j (blk b c' e)=some L':=by exact rfl) (hr:runF P n rest l=some (rest',l''):=by exact rfl) :
  WS P ro n0 w0 ds ops Q L (⟨none,.store T x y,ty,ps,af,none⟩::rest) l:=WS.store hx hj hi hy h1 (Jcv hT) hc hL (Wz n k hr)
theorem Wv (n j:Nat) (k:WS P ro n0 w0 ds ops Q L' rest' l'') (hx:evo l x=some (.pointer (some ⟨b,0,none⟩)):=by exact rfl) (hj:L[j]? = some (blk b c e):=by exact rfl) (hy:evo l y=some (.agg vs.toArray):=by exact rfl) (hn:vs.length=c.length:=by exact rfl)
  (h1:∀ v∈vs,v.oneCell'=true:=by first | (simp [Value.oneCell']; done) | ((repeat (refine List.forall_mem_cons.2 ⟨by first | rfl | assumption,?_⟩)); exact fun _ h=>absurd h List.not_mem_nil) | exact Cel.one _ w _ (by first | assumption | exact trivial))
  (hT:tkf P T=some (true,q):=by exact rfl) (hnn:vs.length=q:=by exact rfl) (hL:lset L j (blk b vs e)=some L':=by exact rfl) (hr:runF P n rest l=some (rest',l''):=by exact rfl) :
  WS P ro n0 w0 ds ops Q L (⟨none,.store T x y,ty,ps,af,none⟩::rest) l:=WS.storeW hx hj hy hn h1 (Jcv hT) hnn hL (Wz n k hr)
variable {ll:Nat→List Value} {rr:Nat→List Oper} {lz:Nat→List Value}
theorem Wb (n:Nat) (hx:evo l x=some v) (hc:v.cells=c.toArray) (hl:∀ b,lset l d (.pointer (some ⟨b,0,none⟩))=some (ll b)) (hr:∀ b,runF P n rest (ll b)=some (rr b,lz b))
  (k:∀ b,n0≤b→WS P ro n0 w0 ds ops Q (blk b c T::L) (rr b) (lz b)):WS P ro n0 w0 ds ops Q L (⟨some d,.box T x,ty,ps,af,none⟩::rest) l:=WS.box hx hc hl fun b hb=>Wz n (k b hb) (hr b)
theorem Wl (n:Nat) (hz:zv P T=some c) (hl:∀ b,lset l d (.pointer (some ⟨b,0,none⟩))=some (ll b)) (hr:∀ b,runF P n rest (ll b)=some (rr b,lz b))
  (k:∀ b,n0≤b→WS P ro n0 w0 ds ops Q (blk b c T::L) (rr b) (lz b)):WS P ro n0 w0 ds ops Q L (⟨some d,.alloc T,ty,ps,af,none⟩::rest) l:=WS.alloc hz hl fun b hb=>Wz n (k b hb) (hr b)
theorem Nz (n:Nat) {id:Nat} {os:List Oper} {z:Code} (k:WS P ro n0 w0 ds os.toArray (Exit.then (z.wpIn (FW ro) 0 P Q) Q) L rest' l'') (hr:runF P n os l=some (rest',l''):=by exact rfl):CS P ro n0 w0 ds (.seq (.region id os.toArray false) z) Q L l:=CS.seq (CS.region (Wz n k hr))
theorem Ny (n:Nat) {id:Nat} {os:List Oper} (k:WS P ro n0 w0 ds os.toArray Q L rest' l'') (hr:runF P n os l=some (rest',l''):=by exact rfl):CS P ro n0 w0 ds (.region id os.toArray false) Q L l:=CS.region (Wz n k hr)
end
section
variable {P:Program} {ro:Option Nat} {n0:Nat} {w0:World} {ds:List Deferred} {ops:Array Oper} {Q:Exit→Act→World→Prop} {L:List SA} {C:World→Prop} {l:List Value} {o:Oper} {b:Bool} {rest:List Oper}
theorem eg_ {x:Operand} {v:Value} (hb:b=true) (h:evo l x=some (cond b v undef)):evo l x=some v:=Jgx hb h
theorem en_:evs l []=some []:=rfl
theorem ec_ {x:Operand} {xs:List Operand} {v:Value} {vs:List Value} (h:evo l x=some v) (h2:evs l xs=some vs):evs l (x::xs)=some (v::vs):=Jk0 h h2
theorem Ck (k:QS n0 w0 ds Q .normal L l):CS P ro n0 w0 ds .skip Q L l:=CS.skip k
theorem Cr (k:QS n0 w0 ds Q .ret L l):CS P ro n0 w0 ds .ret Q L l:=CS.ret k
theorem Cv {id:Nat} (k:QS n0 w0 ds Q (.exit id) L l):CS P ro n0 w0 ds (.exit id) Q L l:=CS.leave k
theorem Cs {x y:Code} (k:CS P ro n0 w0 ds x (Exit.then (y.wpIn (FW ro) 0 P Q) Q) L l):CS P ro n0 w0 ds (.seq x y) Q L l:=CS.seq k
theorem Ce {id:Nat} {c:Code} (k:CS P ro n0 w0 ds c (Exit.inBlock id Q) L l):CS P ro n0 w0 ds (.block id c) Q L l:=CS.block k
theorem Qc {y:Code} {Q':Exit→Act→World→Prop} (k:CS P ro n0 w0 ds y Q' L l):QS n0 w0 ds (Exit.then (y.wpIn (FW ro) 0 P Q') Q) .normal L l:=k
theorem Qr {K:Act→World→Prop} (k:QS n0 w0 ds Q .ret L l):QS n0 w0 ds (Exit.then K Q) .ret L l:=k
theorem Qe {K:Act→World→Prop} {i:Nat} (k:QS n0 w0 ds Q (.exit i) L l):QS n0 w0 ds (Exit.then K Q) (.exit i) L l:=k
theorem Qb {id:Nat} (k:QS n0 w0 ds Q .normal L l):QS n0 w0 ds (Exit.inBlock id Q) .normal L l:=k
theorem Qs {id:Nat} (k:QS n0 w0 ds Q .ret L l):QS n0 w0 ds (Exit.inBlock id Q) .ret L l:=k
theorem Qx {id:Nat} (k:QS n0 w0 ds Q .normal L l):QS n0 w0 ds (Exit.inBlock id Q) (.exit id) L l:=QS.block_exit k
theorem Wd (k:QS n0 w0 ds Q .normal L l):WS P ro n0 w0 ds ops Q L [] l:=WS.done k
theorem Dd (k:QS n0 w0 ds Q .normal L l):DS P n0 w0 ds ops Q L [] l:=k
theorem Qa {bl:List Bool} {fuel:Nat} (k:AS P ro n0 w0 ds ops Q C L fuel bl l):QS n0 w0 ds (Exit.then (AH P ro ops (NP Q) C fuel bl.toArray) (NP Q)) .normal L l:=QS.then_AS k
theorem Qt {bl:List Bool} {fuel s:Nat} (k:AT P ro n0 w0 ds ops Q C s L fuel bl l):QS n0 w0 ds (Exit.then (AZ P ro ops (NP Q) C s fuel bl.toArray) (NP Q)) .normal L l:=QS.then_AT k
theorem Wc {β:Type} {f:Operand} {args:List Operand} {ts:Array TypeId} {fn:FuncId} {cap:List Value} {vs:List Value} {v:β→Value} {A:β→SA} {p:β→Prop} {i:Nat} {l':β→List Value} {ty:TypeId} {ps:String} {af:Array Edge}
  (hf:evo l f=some (.func (.func fn) #[] cap.toArray)) (hv:evs l args=some vs) (he:Ent P fn)
  (hc:∀ u,St n0 w0 L u→Calls P fn (vs++cap).toArray u (fun e u'=>∃ x,p x∧RetF u (v x) (A x) e u'))
  (hl:∀ x,lset l i (v x)=some (l' x)) (k:∀ x,p x→WS P ro n0 w0 ds ops Q (A x::L) rest (l' x)) :
  WS P ro n0 w0 ds ops Q L (⟨some i,.call ⟨.value f,args.toArray,ts⟩,ty,ps,af,none⟩::rest) l:=WS.callF hf hv he hc hl k
end
end Go.Proofs.YtdpbapffdmahnaaGreatDoor
namespace Go.Proofs.YtdpbapffdmahnaaGreatDoor
set_option linter.unusedVariables false
set_option linter.unusedSimpArgs false
open Go.RowKit Go.Proofs
structure ChB (u:World) (b:Nat) (e:TypeId) (rows:List (List Bool)) (N:Int) (rv:Value) (gs:List Value):Prop where
 bk:BlkAt u b [rv,.int .i64 N] e
 sp:SlC u rv rows.length 1 gs
 el:∀ i:Int,0≤i→i < rows.length→SlC u (nth gs i) (nth rows i).length 1 ((nth rows i).map Value.bool)
theorem ChB.ext {w u:World} {b:Nat} {e:TypeId} {rows:List (List Bool)} {N:Int} {rv:Value} {gs:List Value} (h:ChB w b e rows N rv gs) (hb:Below w.heap.size w u):ChB u b e rows N rv gs :=
 ⟨h.bk.ext hb,h.sp.ext hb,fun i h0 h1=>(h.el i h0 h1).ext hb⟩
theorem ChB.st {w0 u:World} {L:List SA} {b:Nat} {e:TypeId} {rows:List (List Bool)} {N:Int} {rv:Value} {gs:List Value} (h:ChB w0 b e rows N rv gs) (hu:St w0.heap.size w0 L u):ChB u b e rows N rv gs:=h.ext hu.below
theorem St.toRoI {n0:Nat} {w0 u:World} {L:List SA} {e:TypeId} {v:Value} {xs:List Int} (h:St n0 w0 (oints e v xs::L) u):St n0 w0 (Go.Proofs.YtdpbapffdmahnaaGreatDoor.roI v xs::L) u :=
 St.toRo (A:=Go.Proofs.YtdpbapffdmahnaaGreatDoor.oints e v xs) (p:=fun u=>SlI u v xs) (fun S u hA=>Jbz hA.2) h
theorem St.nilRoI {n0:Nat} {w0 u:World} {L:List SA} (h:St n0 w0 L u):St n0 w0 (Go.Proofs.YtdpbapffdmahnaaGreatDoor.roI (.slice none 0 0) []::L) u :=
 St.toRo (p:=fun u=>SlI u (.slice none 0 0) []) (fun S u _=>SlI.none u) (h.osl0 (e:=0) (size:=1))
section
variable {P:Program} {l:List Value} {d:Option Tmp} {ty:TypeId} {ps:String} {af:Array Edge} {g:Option (Nat × Bool)} {C:World→Prop}
theorem Jby {T T':TypeId} {x y:Operand} {a b:ByteArray} (hx:evo l x=some (.string a)) (hy:evo l y=some (.string b)) (h:a.size+b.size≤9223372036854775807) :
  Det P C ⟨d,.binOp .add T x y T',ty,ps,af,g⟩ l (.string (a++b)):=fun u _=>by
 (replace hx:=Jah hx; replace hy:=Jah hy)
 have h2:¬ (9223372036854775807 < ((a.size:Nat):Int)+(b.size:Nat)):=by omega
 simp [execOp,Jae,hx,hy,eqGuard,binOp,Op.stringOp,h2]
theorem Jit {T:TypeId} {x y z:Operand} {a:ByteArray} {i j:Int} (hT:P.underlying T=some .string) (hx:evo l x=some (.string a)) (hy:evo l y=some (.int .i64 i)) (hz:evo l z=some (.int .i64 j))
  (h:0≤i∧i≤j∧j≤a.size):Det P C ⟨d,.slice T x (some y) (some z) none,ty,ps,af,g⟩ l (.string (a.extract i.toNat j.toNat)):=fun u _=>by
 (replace hx:=Jah hx; replace hy:=Jah hy; replace hz:=Jah hz)
 have e1:(0≤j∧j≤(a.size:Int)):=by omega
 have e2:0≤i∧i≤max j 0:=by omega
 simp [execOp,Jae,hx,hy,hz,Instr.sliceAt,Instr.slice,Instr.sliceBounds,Instr.sliceBound,asIntOf,run_underlying hT,e1,e2]
end
def digB (n:Int):ByteArray:=⟨(Lib.decDigits n.toNat).toArray⟩
def jnB (xs:List ByteArray):ByteArray:=⟨(Lib.join (xs.map (·.data.toList)) [32]).toArray⟩
structure Shown (r:Room) (x:P3):Prop where
 lt:x.1.length=r.ths.l.length
 lp:x.2.1.length=r.prs.l.length
 ll:1≤x.2.2.length∧x.2.2.length≤4
 th:∀ i:Int,0≤i→i < x.1.length→0≤nth x.1 i∧nth x.1 i < 10
 pr:∀ i:Int,0≤i→i < x.2.1.length→(0≤nth x.2.1 i∧nth x.2.1 i < r.pls.l.length)∨nth x.2.1 i = -1∨(-5≤nth x.2.1 i∧nth x.2.1 i ≤ -2)
 pl:∀ i:Int,0≤i→i < x.2.2.length→0≤nth x.2.2 i∧nth x.2.2 i < r.pls.l.length
theorem Jmo {n:Int} (h : -9223372036854775808≤n∧n≤9223372036854775807):IntKind.i64.wrap n=n:=IntWalk.i64_in _ h
theorem Jn6 {r:Room} {x:Thing} (h:thB r x=true):2≤x.st∧x.st≤6:=by
 simp only [thB,Bool.and_eq_true,decide_eq_true_eq] at h
 omega
theorem Shown.of {r:Room} {x:P3} (hR:Ready r) (hI:StIn r x):Shown r x:=by
 have hl:=hI.ll
 have hp:=hR.ply
 refine ⟨hI.lt,hI.lp,by omega,fun i h0 h1=>?_,fun i h0 h1=>?_,fun i h0 h1=>?_⟩
 ·
  have h:=hI.th i h0 h1
  have h2:=Jn6 (hR.ths _ (Jbc h0 (show i < (r.ths.l.length:Int) by rw [← hI.lt]; exact h1)))
  simp only [putB,Bool.and_eq_true,decide_eq_true_eq] at h
  rw [Jmo (by omega)] at h
  omega
 ·
  have h:=hI.pr i h0 h1
  simp only [placeB,Bool.or_eq_true,Bool.and_eq_true,decide_eq_true_eq] at h
  omega
 have h:=hI.pl i h0 h1
 simp only [placeB,Bool.and_eq_true,decide_eq_true_eq] at h
 omega
theorem Jhk {n:Int} (h:0≤n∧n < 10):(digB n).size=1:=by
 rcases (show n=0∨n=1∨n=2∨n=3∨n=4∨n=5∨n=6∨n=7∨n=8∨n=9 by omega) with rfl | rfl | rfl | rfl | rfl | rfl | rfl | rfl | rfl | rfl <;> decide +kernel
section
variable {P:Program} {ro:Option Nat} {n0:Nat} {w0:World} {ds:List Deferred} {ops:Array Oper} {Q:Exit→Act→World→Prop} {L:List SA} {rest:List Oper} {l:List Value} {ty:TypeId} {ps:String} {af:Array Edge}
theorem WS.buildS1 {T e:TypeId} {by_ i:Nat} {x:Operand} {b:ByteArray} {zc:List Value} (hT:sl P T=some (e,1,by_)) (hz:zv P e=some zc) (hx:evo l x=some (.string b))
  {l':Value→List Value} (hl:∀ v,lset l i v=some (l' v)) (kk:∀ v,WS P ro n0 w0 ds ops Q (oT cStr e v [b]::L) rest (l' v)) :
  WS P ro n0 w0 ds ops Q L (⟨some i,.buildSlice T 1 #[(0,x)],ty,ps,af,none⟩::rest) l :=
 WS.buildSlice1 (pl:=[(0,x)]) (vs:=[.string b]) hT hz (by simp [Jah hx]) rfl (by decide) (fun v hv=>by simp at hv; subst hv; rfl) hl kk
end
theorem Jid {w:World} {s:Sl ByteArray} (hk:SlT cStr w s) (hp:0 < s.l.length):∃ b o c,s.v = .slice (some ⟨b,o,none⟩) s.l.length c∧s.l.length≤c∧b < w.heap.size∧∀ (j:Nat) x,s.l[j]? = some x→w.cell? ⟨b,o+j,none⟩=some (.string x):=by
 obtain ⟨hl,p,cap,e,hc,h0 | ⟨b,o,rfl,h⟩⟩:=hk.sp
 ·
  omega
 have h1:∀ (j:Nat) x,s.l[j]? = some x→w.cell? ⟨b,o+j,none⟩=some (.string x):=fun j x hx=>by
  have hj:=(List.getElem?_eq_some_iff.1 hx).1
  have h2:=Jdf cStr (l:=s.l) (i:=(j:Int)) (by omega) (by omega) 0 (by decide)
  rw [show cStr.k=1 from rfl,Nat.mul_one,Nat.add_zero,show ((j:Int)).toNat=j by omega] at h2
  refine h j (.string x) ?_
  rw [h2]
  have e2:nth s.l (j:Int)=x:=by simp [nth,List.getD,hx]
  rw [e2]; rfl
 refine ⟨b,o,cap,e,hc.1,?_,h1⟩
 obtain ⟨x,hx⟩:∃ x,s.l[0]? = some x:=⟨s.l[0],List.getElem?_eq_getElem hp⟩
 exact World.block_lt_of_cell? w _ (h1 0 x hx)
theorem Jc5 (sep:List UInt8):∀ (xs:List (List UInt8)) (n:Nat),(∀ x∈xs,x.length≤n)→(Lib.joinTail sep xs).length≤(n+sep.length) * xs.length
 | [],n,_=>by simp [Lib.joinTail]
 | x::xs,n,h=>by
  have h1:=Jc5 sep xs n fun y hy=>h y (List.mem_cons_of_mem _ hy)
  have h2:=h x (List.mem_cons_self ..)
  have e:Lib.joinTail sep (x::xs)=sep++x++Lib.joinTail sep xs:=by simp [Lib.joinTail]
  rw [e]
  simp only [List.length_append,List.length_cons,Nat.mul_succ]
  omega
theorem Jhb {xs:List ByteArray} {n:Nat} (h:∀ x∈xs,x.size≤n):(Lib.join (xs.map (·.data.toList)) [32]).length≤(n+1) * xs.length:=by
 cases xs with
 | nil=>simp [Lib.join]
 | cons x r =>
  have h0:=Jc5 [32] ((x::r).map (·.data.toList)) n (fun y hy=>by
   obtain ⟨z,hz,rfl⟩:=List.mem_map.1 hy
   simpa using h z hz)
  have e:Lib.joinTail [32] ((x::r).map (·.data.toList))=32::Lib.join ((x::r).map (·.data.toList)) [32]:=by
   rw [List.map_cons,Lib.join_cons]; simp [Lib.joinTail]
  rw [e] at h0
  simp only [List.length_cons,List.length_map,List.length_nil,Nat.zero_add] at h0 ⊢
  omega
abbrev bl (t:ByteArray):List UInt8:=t.data.toList
abbrev ba (l:List UInt8):ByteArray:=⟨l.toArray⟩
theorem Jpx (t:ByteArray):ba (bl t)=t:=rfl
theorem Jbs (t:ByteArray):(bl t).length=t.size:=by simp
theorem Jdz {a b:ByteArray}:seq a b=true ↔ a=b:=Lib.bytes_beq_iff a b
theorem Jdj {t:ByteArray} {i:Nat} (h:i < t.size):byt t (i:Int)=(((bl t)[i]'(by rw [Jbs]; exact h)).toNat:Int):=by
 unfold byt
 rw [show ((i:Int)).toNat=i by omega]
 have e:t[i]? = some (t[i]'h):=by simp [h]
 rw [e]
 rfl
def Jax (c:UInt8):List UInt8→List (List UInt8)
 | []=>[[]]
 | b::r=>if b=c then []::Jax c r else match Jax c r with
  | x::xs=>(b::x)::xs
  | []=>[[b]]
theorem Jii (c:UInt8):∀ l,0 < (Jax c l).length
 | []=>by simp [Jax]
 | b::r=>by
  unfold Jax
  split
  ·
   simp
  split <;> simp
theorem Jd2 {c:UInt8}:∀ {l:List UInt8},c ∉ l→Jax c l=[l]
 | [],_=>rfl
 | b::r,h=>by
  have h1:¬ b=c:=fun e=>h (by simp [e])
  have h2:c ∉ r:=fun e=>h (by simp [e])
  unfold Jax
  rw [if_neg h1,Jd2 h2]
theorem Jec {c:UInt8}:∀ {l m:List UInt8},c ∉ l→Jax c (l++c::m)=l::Jax c m
 | [],m,_=>by simp [Jax]
 | b::r,m,h=>by
  have h1:¬ b=c:=fun e=>h (by simp [e])
  have h2:c ∉ r:=fun e=>h (by simp [e])
  rw [List.cons_append,Jax,if_neg h1,Jec h2]
def Jar (c:UInt8) (t:ByteArray):List ByteArray:=(Jax c (bl t)).map ba
theorem Jif (c:UInt8) (t:ByteArray):0 < (Jar c t).length:=by simp [Jar,Jii]
theorem Jeq (c:UInt8):∀ l:List UInt8,Lib.splitK [c] 0 (Lib.count l [c]) l=Jax c l
 | []=>by rw [Lib.count_one]; rfl
 | b::r=>by
  have ih:=Jeq c r
  by_cases h:b=c
  ·
   subst h
   rw [Lib.count_cons_eq,Nat.add_comm]
   unfold Lib.splitK Jax
   have hi:Lib.index (b::r) [b]=0:=by rw [Lib.index]; simp [List.isPrefixOf]
   rw [hi,if_neg (by decide),if_pos rfl]
   simp [ih]
  rw [Lib.count_cons_ne _ _ _ h]
  have hp:([c]:List UInt8).isPrefixOf (b::r)=false:=by simp [List.isPrefixOf,Ne.symm h]
  have hi:Lib.index (b::r) [c]=if Lib.index r [c] == -1 then -1 else Lib.index r [c]+1:=by rw [Lib.index,hp]; simp
  unfold Jax
  rw [if_neg h, ← ih]
  cases hk:Lib.count r [c] with
  | zero=>rfl
  | succ k =>
   have hne:¬ Lib.index r [c] = -1:=fun e=>by rw [Lib.count_miss e] at hk; cases hk
   have hge:=Lib.index_ge r [c]
   unfold Lib.splitK
   rw [hi,if_neg (show ¬ (Lib.index r [c] == -1)=true by simpa using hne),if_neg (show ¬ (Lib.index r [c]+1 == -1)=true by simp; omega)]
   have e1:(Lib.index r [c]+1).toNat=(Lib.index r [c]).toNat+1:=by omega
   simp only [e1,Nat.add_zero,List.take_succ_cons,List.length_cons,List.length_nil,Nat.zero_add,List.drop_succ_cons]
   rw [if_neg (show ¬ (Lib.index r [c] == -1)=true by simpa using hne)]
theorem Jen (c:UInt8) (s:ByteArray):Lib.splitB ⟨#[c]⟩ 0 (Lib.countB s ⟨#[c]⟩) s=Jar c s:=by
 have h:=Lib.splitB_data ⟨#[c]⟩ 0 (Lib.countB s ⟨#[c]⟩) s
 have h2:Lib.splitK [c] 0 (Lib.count (bl s) [c]) (bl s)=Jax c (bl s):=Jeq c (bl s)
 have h3:(Lib.splitB ⟨#[c]⟩ 0 (Lib.countB s ⟨#[c]⟩) s).map bl=Jax c (bl s):=h.trans h2
 unfold Jar
 rw [← h3,List.map_map]
 conv=>lhs; rw [← List.map_id (Lib.splitB ⟨#[c]⟩ 0 (Lib.countB s ⟨#[c]⟩) s)]
 rfl
theorem Jip (c:UInt8) (s:ByteArray):Lib.countB s ⟨#[c]⟩+1=(Jar c s).length:=by
 rw [← Jen,Lib.splitB_all ⟨#[c]⟩ (show 1≤1 by decide) 0 _ _ rfl]
def SplitI (c:UInt8) (t:ByteArray) (i f:Int) (xs:List ByteArray):Prop :=
 (0≤f∧f≤i∧i≤t.size∧c ∉ ((bl t).drop f.toNat).take (i.toNat - f.toNat)∧xs++(Jax c ((bl t).drop f.toNat)).map ba=Jar c t)∨(i=t.size+1∧xs=Jar c t)
theorem SplitI.start (c:UInt8) (t:ByteArray):SplitI c t 0 0 []:=.inl ⟨by omega,by omega,by omega,by simp,by simp [Jar]⟩
theorem SplitI.other {c:UInt8} {t:ByteArray} {i f:Int} {xs:List ByteArray} (h:SplitI c t i f xs) (hi:i < t.size) (hb:¬ byt t i=(c.toNat:Int)):SplitI c t (i+1) f xs:=by
 rcases h with ⟨h0,h1,h2,h3,h4⟩ | ⟨h1,_⟩
 ·
  refine .inl ⟨h0,by omega,by omega,?_,h4⟩
  rw [show (i+1).toNat - f.toNat=(i.toNat - f.toNat)+1 by omega]
  have hl:i.toNat - f.toNat < ((bl t).drop f.toNat).length:=by rw [List.length_drop,Jbs]; omega
  rw [List.take_succ_eq_append_getElem hl,List.mem_append,not_or]
  refine ⟨h3,fun hm=>hb ?_⟩
  rw [List.mem_singleton,List.getElem_drop] at hm
  have e:=Jdj (t:=t) (i:=i.toNat) (by omega)
  rw [show ((i.toNat:Nat):Int)=i by omega] at e
  rw [e,hm]
  congr 2
  congr 1
  omega
 omega
theorem SplitI.fin {c:UInt8} {t:ByteArray} {i f:Int} {xs:List ByteArray} (h:SplitI c t i f xs) (hi:¬ i≤t.size):xs=Jar c t:=by
 rcases h with ⟨h0,h1,h2,h3,h4⟩ | ⟨h1,h2⟩
 ·
  omega
 exact h2
theorem SplitI.bd {c:UInt8} {t:ByteArray} {i f:Int} {xs:List ByteArray} (h:SplitI c t i f xs) (hi:i≤t.size):0≤f∧f≤i:=by
 rcases h with ⟨h0,h1,_⟩ | ⟨h1,_⟩
 ·
  exact ⟨h0,h1⟩
 omega
theorem Jet (c:UInt8):∀ l:List UInt8,(Jax c l).length≤l.length+1
 | []=>by simp [Jax]
 | b::r=>by
  have ih:=Jet c r
  unfold Jax
  split
  ·
   simp; omega
  split
  ·
   rename_i x xs h
   rw [h] at ih
   simp at ih ⊢; omega
  simp
theorem Jes (c:UInt8) (t:ByteArray):(Jar c t).length≤t.size+1:=by
 have:=Jet c (bl t)
 simp only [Jar,List.length_map]
 rw [Jbs] at this
 exact this
theorem SplitI.len {c:UInt8} {t:ByteArray} {i f:Int} {xs:List ByteArray} (h:SplitI c t i f xs):xs.length≤t.size+1:=by
 have hl:=Jes c t
 rcases h with ⟨_,_,_,_,h4⟩ | ⟨_,h2⟩
 ·
  have:=congrArg List.length h4
  rw [List.length_append] at this
  omega
 rw [h2]; exact hl
theorem Jf3 (c:UInt8):∀ (l x:List UInt8),x∈Jax c l→x.length≤l.length
 | [],x,h=>by simp [Jax] at h; subst h; simp
 | b::r,x,h=>by
  have ih:=Jf3 c r
  unfold Jax at h
  split at h
  ·
   rcases List.mem_cons.1 h with rfl | h
   ·
    simp
   have:=ih x h; simp; omega
  split at h
  ·
   rename_i y ys hs
   rw [hs] at ih
   rcases List.mem_cons.1 h with rfl | h
   ·
    have:=ih y (by simp); simp; omega
   have:=ih x (by simp [h]); simp; omega
  rcases List.mem_cons.1 h with rfl | h
  ·
   simp
  cases h
theorem Jjw {c:UInt8} {t x:ByteArray} (h:x∈Jar c t):x.size≤t.size:=by
 obtain ⟨l,hl,rfl⟩:=List.mem_map.1 h
 have:=Jf3 c _ _ hl
 rw [Jbs] at this
 exact this
def Jbb (l:List UInt8):Bool:=l.all fun b=>decide (48≤b.toNat) && decide (b.toNat≤57)
def Jas (t:ByteArray) (most:Int):Bool:=(decide ((1:Int)≤t.size) && decide ((t.size:Int)≤most)) && Jbb (bl t)
theorem Jn2 {t:ByteArray} (h:Jbb (bl t)=true) {j:Int} (h0:0≤j) (h1:j < t.size):48≤byt t j∧byt t j≤57:=by
 have hj:j.toNat < t.size:=by omega
 have e:=Jdj hj
 rw [show ((j.toNat:Nat):Int)=j by omega] at e
 unfold Jbb at h
 have:=List.all_eq_true.1 h _ (List.getElem_mem (show j.toNat < (bl t).length by rw [Jbs]; exact hj))
 simp only [Bool.and_eq_true,decide_eq_true_eq] at this
 omega
def decL:List UInt8:=[48,49,50,51,52,53,54,55,56,57]
theorem Jje (b:UInt8):decL.contains b=(decide (48≤b.toNat) && decide (b.toNat≤57)):=by
 have h:∀ n:Nat,n < 256→∀ m:Nat,m < 256→(UInt8.ofNat n=UInt8.ofNat m ↔ n=m):=fun n hn m hm=>by
  rw [← UInt8.toNat_inj]; simp [Nat.mod_eq_of_lt hn,Nat.mod_eq_of_lt hm]
 rw [Bool.eq_iff_iff]
 simp only [decL,List.contains_cons,List.contains_nil,Bool.or_false,Bool.or_eq_true,beq_iff_eq,Bool.and_eq_true,decide_eq_true_eq, ← UInt8.toNat_inj]
 have:=b.toNat_lt
 have e:(48:UInt8).toNat=48∧(49:UInt8).toNat=49∧(50:UInt8).toNat=50∧(51:UInt8).toNat=51∧(52:UInt8).toNat=52∧(53:UInt8).toNat=53∧(54:UInt8).toNat=54∧(55:UInt8).toNat=55∧(56:UInt8).toNat=56∧(57:UInt8).toNat=57:=by decide
 omega
theorem Jc9 {p:UInt8→Bool}:∀ {l:List UInt8},l.dropWhile p=[] ↔ l.all p=true
 | []=>by simp
 | b::r=>by
  rw [List.dropWhile_cons]
  split
  ·
   rename_i h; rw [Jc9,List.all_cons,h,Bool.true_and]
  rename_i h; simp [h]
theorem Jk8 (l:List UInt8):(Lib.trimS l decL=[]) ↔ Jbb l=true:=by
 have e:∀ m:List UInt8,(m.all fun b=>decL.contains b)=Jbb m:=fun m=>by
  unfold Jbb
  congr 1
  funext b
  exact Jje b
 unfold Lib.trimS Lib.trimLeftS Lib.trimRightS
 rw [Jc9,List.all_reverse,e]
 constructor
 ·
  intro h
  by_cases hd:l.reverse.dropWhile (fun b=>decL.contains b)=[]
  ·
   rw [Jc9,List.all_reverse,e] at hd; exact hd
  exfalso
  have h1:=List.head_dropWhile_not (fun b=>decL.contains b) hd
  have h2:(l.reverse.dropWhile fun b=>decL.contains b).head hd∈l.reverse.dropWhile fun b=>decL.contains b:=List.head_mem hd
  have h3:=List.all_eq_true.1 h _ h2
  rw [Jje] at h1
  rw [h3] at h1
  cases h1
 intro h
 have:l.reverse.dropWhile (fun b=>decL.contains b)=[]:=by rw [Jc9,List.all_reverse,e]; exact h
 rw [this]; rfl
theorem Jkz (t:ByteArray):seq ⟨(Lib.trimS (bl t) decL).toArray⟩ ⟨#[]⟩=Jbb (bl t):=by
 rw [Bool.eq_iff_iff,Jdz, ← Jk8]
 constructor
 ·
  intro h
  have:=congrArg (fun x:ByteArray=>x.data.toList) h
  simpa using this
 intro h; rw [h]
def numL (l:List UInt8):Int:=l.foldl (fun n b=>10 * n+((b.toNat:Int) - 48)) 0
def numB (most:Int) (t:ByteArray):Option Int:=if Jas t most && !(decide (byt t 0=48) && decide ((1:Int) < t.size)) then some (numL (bl t)) else none
theorem Jhr:∀ (l:List UInt8) (acc:Nat),Jbb l=true→∃ n:Nat,Lib.decFrom acc l=some n∧(n:Int)=l.foldl (fun n b=>10 * n+((b.toNat:Int) - 48)) (acc:Int)
 | [],acc,_=>⟨acc,rfl,rfl⟩
 | b::r,acc,h=>by
  simp only [Jbb,List.all_cons,Bool.and_eq_true,decide_eq_true_eq] at h
  have hd:Lib.digitVal b=some (b.toNat - 48):=by unfold Lib.digitVal; rw [if_pos h.1]
  obtain ⟨n,h1,h2⟩:=Jhr r (acc * 10+(b.toNat - 48)) (by simpa [Jbb] using h.2)
  refine ⟨n,by unfold Lib.decFrom; rw [hd]; exact h1,?_⟩
  rw [h2,List.foldl_cons]
  congr 1
  omega
theorem Jkq {t:ByteArray} {most:Int} (h:Jas t most=true):Lib.atoi (bl t)=some (numL (bl t)):=by
 simp only [Jas,Bool.and_eq_true,decide_eq_true_eq] at h
 have hne:bl t≠[]:=fun e=>by have:=Jbs t; rw [e] at this; simp at this; omega
 obtain ⟨n,h1,h2⟩:=Jhr (bl t) 0 h.2
 cases hb:bl t with
 | nil=>exact absurd hb hne
 | cons b r =>
  rw [hb] at h1 h2
  have hd:=h.2
  rw [hb] at hd
  simp only [Jbb,List.all_cons,Bool.and_eq_true,decide_eq_true_eq] at hd
  have e1:(b == 45)=false:=by
   rw [beq_eq_false_iff_ne]; rintro rfl
   have:(45:UInt8).toNat=45:=by decide
   omega
  have e2:(b == 43)=false:=by
   rw [beq_eq_false_iff_ne]; rintro rfl
   have:(43:UInt8).toNat=43:=by decide
   omega
  simp only [Lib.atoi,e1,e2,Bool.false_eq_true,if_false,Lib.decNat,List.isEmpty_cons,h1,Option.map_some]
  rw [h2]; rfl
theorem Jiz (l:List UInt8) (b:UInt8):numL (l++[b])=10 * numL l+((b.toNat:Int) - 48):=by simp [numL]
theorem Ji7 {t:ByteArray} {m:Int} (h:Jas t m=true):(0:Int) < t.size∧(t.size:Int)≤m:=by
 simp only [Jas,Bool.and_eq_true,decide_eq_true_eq] at h
 omega
theorem Jnh {t:ByteArray} {m:Int} (h:Jas t m=true):Jbb (bl t)=true:=by
 simp only [Jas,Bool.and_eq_true,decide_eq_true_eq] at h
 exact h.2
theorem Jlu {t:ByteArray} {m:Int} (h:Jas t m=false∨byt t 0=48∧(1:Int) < t.size):numB m t=none:=by
 unfold numB
 rcases h with h | h
 ·
  rw [h]; rfl
 rw [if_neg]; simp [h.1,h.2]
theorem Jjm {t:ByteArray} {m:Int} (h:Jas t m=true) (h2:byt t 0=48→¬ (1:Int) < t.size):numB m t=some (numL (bl t)):=by
 unfold numB
 rw [if_pos]
 simp only [h,Bool.true_and,Bool.not_eq_true',Bool.and_eq_false_iff,decide_eq_false_iff_not]
 by_cases hb:byt t 0=48
 ·
  exact .inr (h2 hb)
 exact .inl hb
theorem Jhy {t:ByteArray} (h:byt t 0=48) (h1:(0:Int) < t.size):seq t ⟨#[48]⟩ = !decide ((1:Int) < t.size):=by
 rw [Bool.eq_iff_iff,Jdz]
 simp only [Bool.not_eq_true',decide_eq_false_iff_not]
 constructor
 ·
  rintro rfl; decide
 intro h2
 have hl:(bl t).length=1:=by rw [Jbs]; omega
 obtain ⟨b,hb⟩:=List.length_eq_one_iff.1 hl
 have e:=Jdj (t:=t) (i:=0) (by omega)
 have e2:(bl t)[0]'(by omega)=b:=by simp [hb]
 rw [e2] at e
 have h5:(48:UInt8).toNat=48:=by decide
 have h4:byt t ((0:Nat):Int)=48:=h
 have e3:b=48:=UInt8.toNat_inj.1 (by omega)
 subst e3
 rw [← Jpx t,hb]
def cU8:Cel Int:=⟨1,fun x=>[.int .u8 x],fun _ _=>True,fun _=>rfl,fun _ _ _ _ _=>trivial,fun _ _ _ v hv=>by simp at hv; subst hv; rfl⟩
def byts (t:ByteArray):List Int:=(bl t).map fun b=>(b.toNat:Int)
theorem Jcs (t:ByteArray):(byts t).length=t.size:=by simp [byts]
theorem Jhx {t:ByteArray} {i:Int} (h0:0≤i) (h1:i < t.size):nth (byts t) i=byt t i:=by
 have h2:i.toNat < (bl t).length:=by rw [Jbs]; omega
 have e:=Jdj (t:=t) (i:=i.toNat) (by omega)
 rw [show ((i.toNat:Nat):Int)=i by omega] at e
 rw [e]
 simp only [byts,nth,List.getD,List.getElem?_map,List.getElem?_eq_getElem h2,Option.map_some,Option.getD_some]
def RetL (w:World) (xs:List ByteArray):Ending→World→Prop:=fun e w'=>∃ v:Value,(∃ u0,SlT cStr u0 ⟨v,xs⟩)∧RetF w v (roT cStr ⟨v,xs⟩) e w'
theorem Jhw (xs:List ByteArray):Ja8 cStr xs=xs.map Value.string:=by
 unfold Ja8
 induction xs with
 | nil=>rfl
 | cons x xs ih=>rw [List.map_cons,List.flatten_cons,ih]; rfl
theorem Jff {u:World} {b:Nat} {xs:List ByteArray} {e:TypeId} (hb:u.heap[b]? = some (.cells (xs.map Value.string).toArray e (0,0))) (h:xs.length≤9223372036854775807) :
  SlT cStr u ⟨.slice (some ⟨b,0,none⟩) xs.length xs.length,xs⟩:=by
 refine ⟨⟨by rw [Jb5],some ⟨b,0,none⟩,xs.length,rfl,⟨Nat.le_refl _,h⟩,.inr ⟨b,0,rfl,fun m x hx=>?_⟩⟩,fun _ _=>trivial⟩
 simp only at hx
 rw [Jhw] at hx
 rw [Nat.zero_add,Jbk hb m]
 exact hx
theorem Jil {w:World} {xs:List ByteArray} {e:TypeId} (h:xs.length≤9223372036854775807) :
  RetL w xs (.returned (.slice (some ⟨w.heap.size,0,none⟩) xs.length xs.length)) (w.alloc (.cells (xs.map Value.string).toArray e)):=by
 have h0:(w.alloc (.cells (xs.map Value.string).toArray e)).heap[w.heap.size]? = some (.cells (xs.map Value.string).toArray e (0,0)):=World.alloc_heap_new w _
 refine ⟨_,⟨_,Jff h0 h⟩,rfl,(Below.refl _ w).alloc (Nat.le_refl _) _,fun k=>k=w.heap.size,⟨fun u' hk=>Jff (hk _ rfl _ h0) h,fun k hk=>?_⟩,fun k hk=>by omega⟩
 subst hk
 exact (Array.getElem?_eq_some_iff.1 h0).1
theorem Jpp {w0 u:World} {L:List SA} {e:TypeId} {j:Nat} {v:Value} {xs:List ByteArray} (hj:L[j]? = some (oT cStr e v xs)) (hu:St w0.heap.size w0 L u):RetL w0 xs (.returned v) u :=
 ⟨v,⟨u,Jlp hu hj (fun _ _=>trivial)⟩,retR (p:=fun u=>SlT cStr u ⟨v,xs⟩) (fun S u hs=>⟨Star.osl hj hs,fun _ _=>trivial⟩) u hu⟩
section
variable {P:Program} {ro:Option Nat} {n0:Nat} {w0:World} {ds:List Deferred} {ops:Array Oper} {Q:Exit→Act→World→Prop} {L:List SA} {rest:List Oper} {l:List Value} {d:Option Tmp} {ty:TypeId} {ps:String} {af:Array Edge} {g:Option (Nat × Bool)} {C:World→Prop}
theorem Jgu {T T':TypeId} {x:Operand} (hT:P.underlying T=some (.interface (P.methodsAt T))) (hx:evo l x=some .nilIface):Det P C ⟨d,.binOp .eql T x (.const .nilIface) T',ty,ps,af,g⟩ l (.bool true):=fun u _=>by
 replace hx:=Jah hx
 have h:=run_equal_nil_nil u T hT
 have hy:ev l (.const .nilIface) = .nilIface:=rfl
 simp [execOp,Jae,hx,hy,eqGuard,binOp,h]
theorem Jjd {T T':TypeId} {x y:Operand} {a b:Int} (hx:evo l x=some (.int .u8 a)) (hy:evo l y=some (.int .u8 b)) (h:0≤a - b∧a - b≤255) :
  Det P C ⟨d,.binOp .sub T x y T',ty,ps,af,g⟩ l (.int .u8 (a - b)):=fun u _=>by
 (replace hx:=Jah hx; replace hy:=Jah hy)
 simp [execOp,Jae,hx,hy,eqGuard,binOp,Op.intArith,IntWalk.u8_in _ h]
theorem Jig {T T':TypeId} {x:Operand} {a:Int} (hT:P.underlying T=some (.int .u8)) (hT':P.underlying T'=some (.int .i64)) (hx:evo l x=some (.int .u8 a)) (h:0≤a∧a≤255) :
  Det P C ⟨d,.convert T T' x,ty,ps,af,g⟩ l (.int .i64 a):=fun u _=>by
 (replace hx:=Jah hx)
 simp [execOp,Jae,hx,convert,run_underlying hT,run_underlying hT',Conv.intToInt,IntWalk.i64_in a (by omega)]
theorem Jf7 {u:World} {b:Nat} {t:ByteArray} {w:World} {e:TypeId} (hb:∀ j,j < t.size→u.cell? ⟨b,j,none⟩=some (.int .u8 (t.data.toList.getD j 0).toNat)) (h:t.size≤maxLen) :
  SlT cU8 u ⟨.slice (some ⟨b,0,none⟩) t.size (grownCap w t.size 0 e),byts t⟩:=by
 refine ⟨⟨by rw [Jb5],some ⟨b,0,none⟩,grownCap w t.size 0 e,by simp only [Jcs],⟨by simp only [Jcs]; exact grownCap_ge .., ?_⟩,.inr ⟨b,0,rfl,fun m x hx=>?_⟩⟩,fun _ _=>trivial⟩
 ·
  have:=grownCap_le_maxLen w t.size 0 e h
  unfold maxLen at this
  omega
 simp only at hx
 have hm:=(List.getElem?_eq_some_iff.1 hx).1
 rw [Jb5,Jcs,show cU8.k=1 from rfl,Nat.mul_one] at hm
 have h2:=Jdf cU8 (l:=byts t) (i:=(m:Int)) (by omega) (by rw [Jcs]; omega) 0 (by decide)
 rw [show cU8.k=1 from rfl,Nat.mul_one,Nat.add_zero,show ((m:Int)).toNat=m by omega,hx] at h2
 rw [Nat.zero_add,hb m hm,h2]
 have e1:nth (byts t) (m:Int)=((t.data.toList.getD m 0).toNat:Int):=by
  rw [Jhx (by omega) (by omega),Jdj hm]
  congr 2
  rw [List.getD,List.getElem?_eq_getElem (by rw [Jbs]; exact hm)]; rfl
 rw [e1]; rfl
theorem WS.bytes {T T' e:TypeId} {i:Nat} {x:Operand} {t:ByteArray} (hT:P.underlying T=some .string) (hT':P.underlying T'=some (.slice e)) (he:P.underlying e=some (.int .u8)) (hx:evo l x=some (.string t)) (h:t.size≤maxLen)
  {l':Value→List Value} (hl:∀ v,lset l i v=some (l' v)) (k:∀ v,(∃ u0,SlT cU8 u0 ⟨v,byts t⟩)→WS P ro n0 w0 ds ops Q (roT cU8 ⟨v,byts t⟩::L) rest (l' v)) :
  WS P ro n0 w0 ds ops Q L (⟨some i,.convert T T' x,ty,ps,af,none⟩::rest) l:=by
 refine WS.world rfl rfl fun u hu=>?_
 replace hx:=Jah hx
 refine ⟨.slice (some ⟨u.heap.size,0,none⟩) t.size (grownCap u t.size 0 e),Lib.bytesWorld u e t,?_,?_⟩
 ·
  have h1:(convert T T' (.string t)).run P u=_:=Lib.run_convert_string_bytes u T T' e t hT hT' he
  simp [execOp,hx,h1]
 show wpListIn (FW ro) 0 P ops Q rest ((Act.mk l.toArray ds).put (some i) _) _
 rw [Jat,Jak (hl _)]
 have hc:∀ j,j < t.size→(Lib.bytesWorld u e t).cell? ⟨u.heap.size,j,none⟩=some (.int .u8 (t.data.toList.getD j 0).toNat):=Lib.bytesWorld_cell u e t
 have hat:=Lib.bytesWorld_at_new u e t
 refine k _ ⟨_,Jf7 hc h⟩ _ (hu.cons (T:=fun k=>k=u.heap.size) (Lib.bytesWorld_below u e t) ⟨fun u' hk=>Jf7 (fun j hj=>?_) h,fun k hk=>?_⟩ fun k hk=>by omega)
 ·
  rw [← hc j hj]
  have h3:=hk _ rfl _ hat
  simp [World.cell?,h3,hat]
 subst hk
 exact (Array.getElem?_eq_some_iff.1 hat).1
end
def kindL:List ByteArray:=[⟨#[]⟩,⟨#[97,116]⟩,⟨#[115,117,109]⟩,⟨#[108,101,115,115]⟩,⟨#[115,97,109,101]⟩,⟨#[104,97,115]⟩,⟨#[114,105,103,104,116]⟩,⟨#[114,101,109,97,105,110]⟩]
def notW:ByteArray:=⟨#[110,111,116]⟩
def Jaw (t:ByteArray):Int:=if seq ⟨#[97,116]⟩ t then 1 else if seq ⟨#[115,117,109]⟩ t then 2 else if seq ⟨#[108,101,115,115]⟩ t then 3 else if seq ⟨#[115,97,109,101]⟩ t then 4 else if seq ⟨#[104,97,115]⟩ t then 5
 else if seq ⟨#[114,105,103,104,116]⟩ t then 6 else if seq ⟨#[114,101,109,97,105,110]⟩ t then 7 else 0
theorem Jhv (t:ByteArray):0≤Jaw t∧Jaw t≤7:=by
 unfold Jaw
 repeat' split
 all_goals omega
theorem Je0 {t:ByteArray} {k:Int} (h0:1≤k) (h1:k < 8):seq (nth kindL k) t=decide (Jaw t=k):=by
 have e:kindL.length=8:=rfl
 by_cases h:seq (nth kindL k) t=true
 ·
  rw [h]
  rw [Jdz] at h
  subst h
  rcases (show k=1∨k=2∨k=3∨k=4∨k=5∨k=6∨k=7 by omega) with rfl | rfl | rfl | rfl | rfl | rfl | rfl <;> decide +kernel
 rw [Bool.not_eq_true] at h
 rw [h]
 symm
 rw [decide_eq_false_iff_not]
 intro hk
 subst hk
 revert h h0 h1
 unfold Jaw
 repeat' split
 all_goals (intro h0 h1 h)
 all_goals first | omega | (rename_i hh; exact absurd (hh.symm.trans h) (by decide))
theorem Jkw {t:ByteArray} (h:seq t ⟨#[]⟩=false):Lib.idxOfS kindL t=if Jaw t=0 then -1 else Jaw t:=by
 have h0:¬ (⟨#[]⟩:ByteArray)=t:=fun e=>by subst e; exact absurd h (by rw [Jdb]; decide)
 have hb:=Jhv t
 have hd:∀ j,j < 8→kindL.getD j ByteArray.empty=nth kindL (j:Int):=fun j hj=>by
  rcases (show j=0∨j=1∨j=2∨j=3∨j=4∨j=5∨j=6∨j=7 by omega) with rfl | rfl | rfl | rfl | rfl | rfl | rfl | rfl <;> rfl
 by_cases hk:Jaw t=0
 ·
  rw [if_pos hk]
  have hn:∀ k:Int,1≤k→k < 8→¬ nth kindL k=t:=fun k a b e=>by
   have:=Je0 (t:=t) a b
   rw [Jdz.2 e] at this
   have:=of_decide_eq_true this.symm
   omega
  have n1:=hn 1 (by decide) (by decide); have n2:=hn 2 (by decide) (by decide); have n3:=hn 3 (by decide) (by decide); have n4:=hn 4 (by decide) (by decide)
  have n5:=hn 5 (by decide) (by decide); have n6:=hn 6 (by decide) (by decide); have n7:=hn 7 (by decide) (by decide)
  have e:∀ k:Nat,k < 8→kindL[k]? = some (nth kindL (k:Int)):=fun k hk=>by
   rcases (show k=0∨k=1∨k=2∨k=3∨k=4∨k=5∨k=6∨k=7 by omega) with rfl | rfl | rfl | rfl | rfl | rfl | rfl | rfl <;> rfl
  have a1:nth kindL 1=(⟨#[97,116]⟩:ByteArray):=rfl
  have a2:nth kindL 2=(⟨#[115,117,109]⟩:ByteArray):=rfl
  have a3:nth kindL 3=(⟨#[108,101,115,115]⟩:ByteArray):=rfl
  have a4:nth kindL 4=(⟨#[115,97,109,101]⟩:ByteArray):=rfl
  have a5:nth kindL 5=(⟨#[104,97,115]⟩:ByteArray):=rfl
  have a6:nth kindL 6=(⟨#[114,105,103,104,116]⟩:ByteArray):=rfl
  have a7:nth kindL 7=(⟨#[114,101,109,97,105,110]⟩:ByteArray):=rfl
  rw [a1] at n1; rw [a2] at n2; rw [a3] at n3; rw [a4] at n4; rw [a5] at n5; rw [a6] at n6; rw [a7] at n7
  simp only [Lib.idxOfS,kindL,Lib.idxFromS,h0,n1,n2,n3,n4,n5,n6,n7,if_false]
 rw [if_neg hk]
 have h1:=Je0 (t:=t) (k:=Jaw t) (by omega) (by omega)
 rw [decide_eq_true rfl,Jdz] at h1
 have hh:=Lib.idxFromS_hit t kindL (Jaw t).toNat 0 (by show (Jaw t).toNat < 8; omega) (by rw [hd _ (by omega),show (((Jaw t).toNat:Nat):Int)=Jaw t by omega]; exact h1) fun j hj=>by
  rw [hd j (by omega)]
  rcases Nat.eq_zero_or_pos j with rfl | hj0
  ·
   exact h0
  intro e
  have:=Je0 (t:=t) (k:=(j:Int)) (by omega) (by omega)
  rw [Jdz.2 e] at this
  have:=of_decide_eq_true this.symm
  omega
 unfold Lib.idxOfS
 rw [hh]
 omega
def offK (k:Int):List Nat:=if k=1 then [1,3] else if k=2 then [1,2,3] else if k=3∨k=4 then [1,2] else if k=5∨k=6 then [3,4] else [1,3,4]
def setF (k:Int) (ns:List Int) (g:List Int) (nt:Bool):Clue :=
 if k=1 then ⟨k,nth ns 0,0,nth ns 1,0,g,nt⟩ else if k=2 then ⟨k,nth ns 0,nth ns 1,nth ns 2,0,g,nt⟩ else if k=3∨k=4 then ⟨k,nth ns 0,nth ns 1,0,0,g,nt⟩
 else if k=5∨k=6 then ⟨k,0,0,nth ns 0,nth ns 1,g,nt⟩ else ⟨k,nth ns 0,0,nth ns 1,nth ns 2,g,nt⟩
theorem Jnz (k:Int) (ns g:List Int) (nt:Bool):(setF k ns g nt).g=g:=by
 unfold setF
 repeat' split
 all_goals rfl
def setC (cs:List Value) (os:List Nat) (ns:List Int):List Value:=(os.zip ns).foldl (fun c p=>c.set p.1 (.int .i64 p.2)) cs
theorem Jdu {cs:List Value}:∀ {os:List Nat} {ns:List Int} {o:Nat} {n:Int},os[ns.length]? = some o→(setC cs os ns).set o (.int .i64 n)=setC cs os (ns++[n])
 | [],ns,o,n,h=>by simp at h
 | p::os,[],o,n,h=>by
  simp at h
  subst h
  simp [setC]
 | p::os,m::ns,o,n,h=>by
  have:=Jdu (cs:=cs.set p (.int .i64 m)) (os:=os) (ns:=ns) (o:=o) (n:=n) (by simpa using h)
  simpa [setC] using this
theorem Jle (cs:List Value) (os:List Nat):setC cs os []=cs:=by cases os <;> rfl
theorem Jbm:∀ (os:List Nat) (ns:List Int) (cs:List Value),(setC cs os ns).length=cs.length
 | [],ns,cs=>by simp [setC]
 | p::os,[],cs=>by simp [setC]
 | p::os,m::ns,cs=>by
  have:=Jbm os ns (cs.set p (.int .i64 m))
  simpa [setC] using this
theorem Jdc:∀ (os:List Nat) (ns:List Int) (cs:List Value),(∀ v∈cs,v.oneCell'=true)→∀ v∈setC cs os ns,v.oneCell'=true
 | [],ns,cs,h=>by simpa [setC] using h
 | p::os,[],cs,h=>by simpa [setC] using h
 | p::os,m::ns,cs,h=>by
  have:=Jdc os ns (cs.set p (.int .i64 m)) fun v hv=>by
   rcases List.mem_or_eq_of_mem_set hv with h1 | rfl
   ·
    exact h v h1
   rfl
  simpa [setC] using this
theorem Ji2 {k:Int} {ns g:List Int} {gv:Value} {nt:Bool} (h:ns.length=(offK k).length):setC (Jai ⟨k,0,0,0,0,g,nt⟩ gv) (offK k) ns=Jai (setF k ns g nt) gv:=by
 revert h
 unfold offK setF
 repeat' split
 all_goals intro h
 all_goals match ns,h with
  | [a,b],_=>rfl
  | [a,b,c],_=>rfl
theorem Jdg (k:Int):2≤(offK k).length∧(offK k).length≤3:=by
 unfold offK
 repeat' split
 all_goals decide
theorem Jjz (k:Int):∀ o∈offK k,o < 7:=by
 unfold offK
 repeat' split
 all_goals decide
def Jb4 (m:Int):List ByteArray→Option (List Int)
 | []=>some []
 | x::r=>match numB m x,Jb4 m r with
  | some n,some ns=>some (n::ns)
  | _,_=>none
theorem Jed {m:Int}:∀ {xs:List ByteArray} {x:ByteArray} {ns:List Int} {n:Int},Jb4 m xs=some ns→numB m x=some n→Jb4 m (xs++[x])=some (ns++[n])
 | [],x,ns,n,h,h2=>by
  simp [Jb4] at h; subst h
  simp [Jb4,h2]
 | y::xs,x,ns,n,h,h2=>by
  unfold Jb4 at h
  split at h
  ·
   rename_i k ks hk hks
   cases h
   rw [List.cons_append]
   unfold Jb4
   rw [hk,Jed hks h2]; rfl
  cases h
theorem Jfw {m:Int}:∀ {xs:List ByteArray} {x:ByteArray},x∈xs→numB m x=none→Jb4 m xs=none
 | y::xs,x,h,h2=>by
  unfold Jb4
  rcases List.mem_cons.1 h with rfl | h
  ·
   rw [h2]
  rw [Jfw h h2]; cases numB m y <;> rfl
theorem Jfz {m:Int}:∀ {xs:List ByteArray} {ns:List Int},Jb4 m xs=some ns→ns.length=xs.length
 | [],ns,h=>by simp [Jb4] at h; subst h; rfl
 | y::xs,ns,h=>by
  unfold Jb4 at h
  split at h
  ·
   rename_i k ks hk hks
   cases h
   rw [List.length_cons,Jfz hks,List.length_cons]
  cases h
def Jbt (t:ByteArray):List Int:=(bl t).map fun b=>(b.toNat:Int) - 48
theorem Jc2 (t:ByteArray):(Jbt t).length=t.size:=by simp [Jbt]
theorem Jdp {t:ByteArray} {i:Int} (h0:0≤i) (h1:i < t.size):(Jbt t).take (i+1).toNat=(Jbt t).take i.toNat++[byt t i - 48]:=by
 have hl:i.toNat < (bl t).length:=by rw [Jbs]; omega
 have e:=Jdj (t:=t) (i:=i.toNat) (by omega)
 rw [show ((i.toNat:Nat):Int)=i by omega] at e
 rw [show (i+1).toNat=i.toNat+1 by omega,List.take_succ_eq_append_getElem (by simpa [Jbt] using hl)]
 congr 2
 rw [e]
 simp [Jbt]
def rdN (nt:Bool) (k:Int) (r:List ByteArray) (g:List Int):Option Clue:=if r.length=(offK k).length then (Jb4 3 r).map fun ns=>setF k ns g nt else none
def Jdr (nt:Bool) (k:Int) (r:List ByteArray):Option Clue :=
 if k=0 then none else if k=6 then (if r.length=3∧Jas (nth r 2) 4=true then rdN nt 6 (r.take 2) (Jbt (nth r 2)) else none) else rdN nt k r []
def Jd1 (nt:Bool):List ByteArray→Option Clue
 | []=>none
 | k0::r=>Jdr nt (Jaw k0) r
theorem Jh7 {nt:Bool} {l:List ByteArray} (h:0 < l.length):Jd1 nt l=Jdr nt (Jaw (nth l 0)) l.tail:=by
 cases l with
 | nil=>cases h
 | cons k r=>rfl
theorem Jh6 {nt:Bool} {l:List ByteArray} (h:(l.length:Int)=0∨seq (nth l 0) ⟨#[]⟩=true):Jd1 nt l=none:=by
 cases l with
 | nil=>rfl
 | cons k r =>
  rcases h with h | h
  ·
   simp at h; omega
  have e:k=⟨#[]⟩:=Jdz.1 h
  subst e
  rw [Jd1,show Jaw ⟨#[]⟩=0 by decide +kernel]
  rfl
theorem Jfv {nt:Bool} {k:Int} {r:List ByteArray} (hk:k=6) (hl:r.length=3) (hd:Jas (nth r 2) 4=true):Jdr nt k r=rdN nt k (r.take 2) (Jbt (nth r 2)):=by
 subst hk
 unfold Jdr
 rw [if_neg (by decide),if_pos rfl,if_pos ⟨hl,hd⟩]
theorem Jer {nt:Bool} {k:Int} {r:List ByteArray} (hk:k=6) (h:¬ (r.length=3∧Jas (nth r 2) 4=true)):Jdr nt k r=none:=by
 subst hk
 unfold Jdr
 rw [if_neg (by decide),if_pos rfl,if_neg h]
theorem Jdt {nt:Bool} {k:Int} {r:List ByteArray} (h0:¬ k=0) (hk:¬ k=6):Jdr nt k r=rdN nt k r []:=by
 unfold Jdr
 rw [if_neg h0,if_neg hk]
theorem Jm8 {nt:Bool} {k:Int} {r:List ByteArray} {g:List Int} (h:¬ r.length=(offK k).length):rdN nt k r g=none:=if_neg h
theorem Jmd {nt:Bool} {k:Int} {r:List ByteArray} {g:List Int} {x:ByteArray} (h:x∈r) (hx:numB 3 x=none):rdN nt k r g=none:=by
 unfold rdN
 rw [Jfw h hx]
 split <;> rfl
theorem Jg1 {nt:Bool} {k:Int} {r:List ByteArray} {g ns:List Int} (h:r.length=(offK k).length) (hn:Jb4 3 r=some ns):rdN nt k r g=some (setF k ns g nt):=by
 unfold rdN
 rw [if_pos h,hn]; rfl
def Jbq (t:ByteArray):Option Clue :=
 if seq (nth (Jar 32 t) 0) notW then Jd1 true (Jar 32 t).tail else Jd1 false (Jar 32 t)
theorem Jmc {t:ByteArray} {nt:Bool} {l:List ByteArray} (h1:nt=seq (nth (Jar 32 t) 0) notW) (h2:l=if nt then (Jar 32 t).tail else Jar 32 t):Jbq t=Jd1 nt l:=by
 unfold Jbq
 rw [← h1,h2]
 cases nt <;> rfl
theorem Jht {α:Type} (l:List α):(l.drop 1).take (l.length - 1)=l.tail:=by
 rw [List.take_of_length_le (by simp),List.drop_one]
theorem St.roCut {α:Type} {C:Cel α} {n0:Nat} {w0 u:World} {L:List SA} {s:Sl α} {lo hi:Nat} (h:St n0 w0 (roT C s::L) u) (h0:lo≤hi) (h1:hi≤s.l.length):St n0 w0 (roT C (s.cut C.k lo hi)::L) u :=
 St.toRo (A:=roT C s) (p:=fun u=>SlT C u (s.cut C.k lo hi)) (fun S u h=>(roS.now h).cut h0 h1) h
def Jd9:Clue:=⟨0,0,0,0,0,[],false⟩
def Jb2 (lw ls:Int) (t:ByteArray):Int × Clue :=
 if Jap lw ls=false then (10,Jd9) else if 65536 < (t.size:Int) then (2,Jd9) else match Jbq t with
  | none=>(4,Jd9)
  | some c=>if Jao lw ls c then (0,c) else (11,Jd9)
def Jni (w:World) (r:Option Clue):Ending→World→Prop:=fun e w' =>
 ∃ x:List Value × Value,(x.1.length=7∧(∀ v∈x.1,v.oneCell'=true)∧∀ c,r=some c→x.1=Jai c x.2∧∃ u0,SlI u0 x.2 c.g)∧RetF w (.tuple #[.agg x.1.toArray,.bool r.isSome]) (roS fun u=>∀ c,r=some c→SlI u x.2 c.g) e w'
theorem Jep {w0 u:World} {L:List SA} {r:Option Clue} {cs:List Value} (h:r=none) (hl:cs.length=7) (h1:∀ v∈cs,v.oneCell'=true) (hu:St w0.heap.size w0 L u):Jni w0 r (.returned (.tuple #[.agg cs.toArray,.bool false])) u:=by
 subst h
 exact ⟨(cs,.nilIface),⟨hl,h1,fun c h=>by cases h⟩,retR (p:=fun u=>∀ c,(none:Option Clue)=some c→SlI u .nilIface c.g) (fun S u hs c h=>by cases h) u hu⟩
theorem Jbr {c:Clue} {gv:Value} (h:gv.oneCell'=true):∀ v∈Jai c gv,v.oneCell'=true:=by
 intro v hv
 simp only [Jai,List.mem_cons,List.not_mem_nil,or_false] at hv
 rcases hv with rfl | rfl | rfl | rfl | rfl | rfl | rfl <;> first | rfl | exact h
theorem Job {w0 u:World} {L:List SA} {r:Option Clue} {c:Clue} {gv:Value} {j:Nat} (h:r=some c) (hg:gv.oneCell'=true) (hj:L[j]? = some (roI gv c.g)) (hu:St w0.heap.size w0 L u):Jni w0 r (.returned (.tuple #[.agg (Jai c gv).toArray,.bool true])) u:=by
 subst h
 refine ⟨(Jai c gv,gv),⟨rfl,Jbr hg,fun d hd=>?_⟩,retR (p:=fun u=>∀ d,some c=some d→SlI u gv d.g) (fun S u hs d hd=>?_) u hu⟩
 ·
  cases hd; exact ⟨rfl,u,hu.roI hj⟩
 cases hd; exact hs.ro hj
def ptrL (b:Nat) (os:List Nat):List Value:=os.map fun o=>.pointer (some ⟨b,o,none⟩)
def Jn7 (e:TypeId) (w:World) (b:Nat) (os:List Nat):Ending→World→Prop:=fun en w'=>∃ v:Value,v.oneCell'=true∧RetF w v (osl e 1 v os.length (ptrL b os)) en w'
theorem Jge {e:TypeId} {w0 u:World} {L:List SA} {b j:Nat} {os os':List Nat} {v:Value} (h:os=os') (hv:v.oneCell'=true) (hj:L[j]? = some (osl e 1 v os'.length (ptrL b os'))) (hu:St w0.heap.size w0 L u):Jn7 e w0 b os (.returned v) u:=by
 subst h
 exact ⟨v,hv,retF hj u hu⟩
theorem Jlr {b:Nat} {os:List Nat} {i:Nat} {o:Nat} (h:os[i]? = some o):(ptrL b os)[i]? = some (.pointer (some ⟨b,o,none⟩)):=by simp [ptrL,h]
theorem Jbx (b:Nat) (os:List Nat):∀ v∈ptrL b os,v.oneCell'=true:=by
 intro v hv
 obtain ⟨o,_,rfl⟩:=List.mem_map.1 hv
 rfl
def Jam (c:Clue):List Int:=if c.k=1 then [c.a,c.n] else if c.k=2 then [c.a,c.b,c.n] else if c.k=3∨c.k=4 then [c.a,c.b] else if c.k=5∨c.k=6 then [c.n,c.m] else [c.a,c.n,c.m]
theorem Jbh (c:Clue):(Jam c).length=(offK c.k).length:=by
 unfold Jam offK
 repeat' split
 all_goals rfl
def RetI (e:TypeId) (w:World) (xs:List Int):Ending→World→Prop:=fun en w'=>∃ v:Value,v.oneCell'=true∧RetF w v (oints e v xs) en w'
theorem Jgh {e:TypeId} {w0 u:World} {L:List SA} {j:Nat} {xs xs':List Int} {v:Value} (h:xs=xs') (hv:v.oneCell'=true) (hj:L[j]? = some (oints e v xs')) (hu:St w0.heap.size w0 L u):RetI e w0 xs (.returned v) u:=by
 subst h
 exact ⟨v,hv,retF hj u hu⟩
def Jno (w:World) (x:Int × Clue):Ending→World→Prop:=fun e w'=>∃ gv:Value,(gv.oneCell'=true∧∃ u0,SlI u0 gv x.2.g)∧RetF w (.tuple #[.agg (Jai x.2 gv).toArray,.int .i64 x.1]) (roI gv x.2.g) e w'
theorem Jhi {w0 u:World} {L:List SA} {x:Int × Clue} {e:Int} (h:x=(e,Jd9)) (hu:St w0.heap.size w0 L u):Jno w0 x (.returned (.tuple #[.agg (Jai Jd9 (.slice none 0 0)).toArray,.int .i64 e])) u:=by
 subst h
 exact ⟨_,⟨rfl,u,SlI.nil u⟩,retR (p:=fun u=>SlI u (.slice none 0 0) []) (fun S u hs=>SlI.nil u) u hu⟩
theorem Jo2 {w0 u:World} {L:List SA} {x:Int × Clue} {e:Int} {c:Clue} {gv:Value} (h:x=(e,c)) (hg:gv.oneCell'=true) (hp:∀ S u,Star L S u→SlI u gv c.g) (hu:St w0.heap.size w0 L u):Jno w0 x (.returned (.tuple #[.agg (Jai c gv).toArray,.int .i64 e])) u:=by
 subst h
 exact ⟨_,⟨hg,u,hp _ u hu.star⟩,retR (p:=fun u=>SlI u gv c.g) hp u hu⟩
theorem Jpa {c:Clue} {gv:Value} (h:∀ v∈Jai c gv,v.oneCell'=true):gv.oneCell'=true:=h gv (by simp [Jai])
theorem Jgt {lw ls:Int} {t:ByteArray} (h:¬ Jbo lw ls=0):Jb2 lw ls t=(Jbo lw ls,Jd9):=by
 unfold Jbo at h ⊢
 unfold Jb2
 cases hb:Jap lw ls with
 | true=>rw [hb] at h; simp at h
 | false=>rfl
theorem Jgi {lw ls:Int} {t:ByteArray} (hL:Jap lw ls=true) (h:65536 < (t.size:Int)):Jb2 lw ls t=(2,Jd9):=by
 unfold Jb2
 rw [if_neg (by simp [hL]),if_pos h]
theorem Jf8 {lw ls:Int} {t:ByteArray} (hL:Jap lw ls=true) (h:¬ 65536 < (t.size:Int)) (hr:Jbq t=none):Jb2 lw ls t=(4,Jd9):=by
 unfold Jb2
 rw [if_neg (by simp [hL]),if_neg h,hr]
theorem Jh8 {lw ls:Int} {t:ByteArray} {c:Clue} (hL:Jap lw ls=true) (h:¬ 65536 < (t.size:Int)) (hr:Jbq t=some c) (hc:Jao lw ls c=false):Jb2 lw ls t=(11,Jd9):=by
 unfold Jb2
 rw [if_neg (by simp [hL]),if_neg h,hr]
 simp [hc]
theorem Jfn {lw ls:Int} {t:ByteArray} {c:Clue} (hL:Jap lw ls=true) (h:¬ 65536 < (t.size:Int)) (hr:Jbq t=some c) (hc:Jao lw ls c=true):Jb2 lw ls t=(0,c):=by
 unfold Jb2
 rw [if_neg (by simp [hL]),if_neg h,hr]
 simp [hc]
theorem Jl5 {lw ls:Int} (h:Jbo lw ls=0):Jap lw ls=true:=by
 unfold Jbo at h
 cases hb:Jap lw ls with
 | true=>rfl
 | false=>rw [hb] at h; simp at h
section
variable {P:Program} {l:List Value} {d:Option Tmp} {ty:TypeId} {ps:String} {af:Array Edge} {g:Option (Nat × Bool)} {C:World→Prop}
theorem Jm6 {T e:TypeId} {gl n k:Nat} (hT:P.underlying T=some (.array n e)) (hk:∃ i,P.info? e=some i∧i.size=k) (hn:n≠0):Det P C ⟨d,.slice T (.global gl) none none none,ty,ps,af,g⟩ l (.slice (some ⟨gl,0,none⟩) n n):=fun u _=>by
 obtain ⟨i,h1,h2⟩:=hk
 have hx:ev l (.global gl) = .pointer (some ⟨gl,0,none⟩):=rfl
 simp [execOp,Jae,hx,Instr.sliceAt,Instr.sureAddr,run_underlying hT,Instr.sliceBounds,Instr.sliceBound,hn,sizeOf,run_typeInfo u h1,Ja2]
end
theorem Jof (a b:List UInt8):ba a++ba b=ba (a++b):=by
 apply ByteArray.ext
 apply Array.toList_inj.1
 simp [ByteArray.data_append]
theorem Jg5 (n:Int):bl (digB n)=Lib.decDigits n.toNat:=rfl
theorem Jjn {n:Int} (h:10≤n):digB n=digB (n / 10)++digB (n % 10):=by
 have h1:¬ n.toNat < 10:=by omega
 have e1:(n / 10).toNat=n.toNat / 10:=by omega
 have e2:(n % 10).toNat=n.toNat % 10:=by omega
 unfold digB
 rw [Jof,e1,e2,Lib.decDigits_one (i:=n.toNat % 10) (by omega)]
 conv=>lhs; rw [Lib.decDigits,dif_neg h1]
theorem Jg7 {d:Int} (h:0≤d∧d < 10):(⟨#[48,49,50,51,52,53,54,55,56,57]⟩:ByteArray).extract d.toNat (d+1).toNat=digB d:=by
 unfold digB
 rw [Lib.decDigits_one (by omega)]
 rcases (show d=0∨d=1∨d=2∨d=3∨d=4∨d=5∨d=6∨d=7∨d=8∨d=9 by omega) with rfl | rfl | rfl | rfl | rfl | rfl | rfl | rfl | rfl | rfl <;> decide +kernel
theorem Jmp:∀ (u:Nat),(Lib.decDigits u).length≤u+1:=by
 intro u
 refine Nat.strongRecOn u ?_
 intro u ih
 by_cases h:u < 10
 ·
  rw [Lib.decDigits_one h]; simp
 rw [Lib.decDigits,dif_neg h]
 have:=ih (u / 10) (by omega)
 simp only [List.length_append,List.length_singleton]
 omega
theorem Jdi (n:Int):(digB n).size≤n.toNat+1:=by
 rw [← Jbs,Jg5]
 exact Jmp _
theorem Jlk {u:Nat} (h:u < 1000):1≤(Lib.decDigits u).length∧(Lib.decDigits u).length≤3:=by
 have h1:∀ {u:Nat},¬ u < 10→(Lib.decDigits u).length=(Lib.decDigits (u / 10)).length+1:=fun {u} h=>by
  conv=>lhs; rw [Lib.decDigits,dif_neg h]
  simp
 have h2:∀ {u:Nat},u < 10→(Lib.decDigits u).length=1:=fun {u} h=>by rw [Lib.decDigits_one h]; rfl
 by_cases a:u < 10
 ·
  rw [h2 a]; omega
 rw [h1 a]
 by_cases b:u / 10 < 10
 ·
  rw [h2 b]; omega
 rw [h1 b,h2 (show u / 10 / 10 < 10 by omega)]; omega
theorem Jfq {d:Nat} (h:d < 10):(UInt8.ofNat (48+d)).toNat=48+d:=by
 simp [Nat.mod_eq_of_lt (show 48+d < 256 by omega)]
theorem Jgd:∀ (u:Nat),Jbb (Lib.decDigits u)=true∧numL (Lib.decDigits u)=u:=by
 intro u
 refine Nat.strongRecOn u ?_
 intro u ih
 by_cases h:u < 10
 ·
  rw [Lib.decDigits_one h]
  have:=Jfq h
  refine ⟨?_,?_⟩
  ·
   simp only [Jbb,List.all_cons,List.all_nil,Bool.and_true,Bool.and_eq_true,decide_eq_true_eq]; omega
  simp only [numL,List.foldl_cons,List.foldl_nil]; omega
 rw [Lib.decDigits,dif_neg h]
 obtain ⟨h1,h2⟩:=ih (u / 10) (by omega)
 have:=Jfq (show u % 10 < 10 by omega)
 refine ⟨?_,?_⟩
 ·
  unfold Jbb at h1 ⊢
  rw [List.all_append,h1]
  simp only [List.all_cons,List.all_nil,Bool.and_true,Bool.true_and,Bool.and_eq_true,decide_eq_true_eq]; omega
 rw [Jiz,h2]; omega
theorem Jku:∀ (u:Nat),0 < u→(Lib.decDigits u)[0]? ≠ some 48:=by
 intro u
 refine Nat.strongRecOn u ?_
 intro u ih h0
 by_cases h:u < 10
 ·
  rw [Lib.decDigits_one h]
  intro e
  have e2:=Option.some.inj e
  have:=congrArg UInt8.toNat e2
  rw [Jfq h] at this
  have:(48:UInt8).toNat=48:=by decide
  omega
 rw [Lib.decDigits,dif_neg h]
 have hl:=Jgd (u / 10)
 have hne:0 < (Lib.decDigits (u / 10)).length:=by
  by_cases b:u / 10 < 10
  ·
   rw [Lib.decDigits_one b]; simp
  rw [Lib.decDigits,dif_neg b]; simp
 rw [List.getElem?_append_left hne]
 exact ih (u / 10) (by omega) (by omega)
theorem Jmj {n:Int} (h:0≤n∧n < 1000):numB 3 (digB n)=some n:=by
 have h1:=Jlk (u:=n.toNat) (by omega)
 have h2:=Jgd n.toNat
 have hs:(digB n).size=(Lib.decDigits n.toNat).length:=by rw [← Jbs,Jg5]
 have hd:Jas (digB n) 3=true:=by
  simp only [Jas,Bool.and_eq_true,decide_eq_true_eq]
  refine ⟨?_,h2.1⟩
  omega
 rw [Jjm hd fun hb=>?_]
 ·
  rw [Jg5,h2.2]; congr 1; omega
 intro hs1
 have hn:¬ n.toNat < 10:=fun hn=>by
  rw [Lib.decDigits_one hn] at hs
  simp at hs
  omega
 have hh:=Jku n.toNat (by omega)
 have e:=Jdj (t:=digB n) (i:=0) (by omega)
 rw [show byt (digB n) ((0:Nat):Int)=48 from hb] at e
 have h48:(48:UInt8).toNat=48:=by decide
 have e3:((bl (digB n))[0]'(by rw [Jbs]; omega))=(Lib.decDigits n.toNat)[0]'(by omega):=rfl
 rw [e3] at e
 refine hh ?_
 rw [List.getElem?_eq_getElem (show 0 < (Lib.decDigits n.toNat).length by omega)]
 congr 1
 exact UInt8.toNat_inj.1 (by omega)
theorem Jhp {l:List UInt8} (h:Jbb l=true):(32:UInt8) ∉ l:=fun hm=>by
 unfold Jbb at h
 have:=List.all_eq_true.1 h _ hm
 simp at this
theorem Jln (ws:List ByteArray):bl (jnB ws)=Lib.join (ws.map bl) [32]:=rfl
theorem Jeb:∀ (r:List (List UInt8)) (x:List UInt8),(32:UInt8) ∉ x→(∀ y∈r,(32:UInt8) ∉ y)→Jax 32 (x++Lib.joinTail [32] r)=x::r
 | [],x,hx,_=>by simp [Lib.joinTail,Jd2 hx]
 | y::r,x,hx,h=>by
  have ih:=Jeb r y (h y (by simp)) fun z hz=>h z (by simp [hz])
  have e:x++Lib.joinTail [32] (y::r)=x++32::(y++Lib.joinTail [32] r):=by simp [Lib.joinTail]
  rw [e,Jec hx,ih]
theorem Jlm {ws:List ByteArray} (h0:ws≠[]) (h:∀ x∈ws,(32:UInt8) ∉ bl x):Jar 32 (jnB ws)=ws:=by
 cases ws with
 | nil=>exact absurd rfl h0
 | cons x r =>
  unfold Jar
  rw [Jln,List.map_cons,Lib.join_cons,Jeb _ _ (h x (by simp)) (fun y hy=>by obtain ⟨z,hz,rfl⟩:=List.mem_map.1 hy; exact h z (by simp [hz]))]
  rw [← List.map_cons (f:=bl),List.map_map]
  conv=>rhs; rw [← List.map_id (x::r)]
  rfl
theorem Jl1 (x:ByteArray):jnB [x]=x:=by
 unfold jnB
 rw [List.map_singleton,Lib.join_cons]
 simp [Lib.joinTail]
theorem Jgy {ws:List ByteArray} {p:ByteArray} (h:ws≠[]):jnB (ws++[p])=jnB ws++(⟨#[32]⟩:ByteArray)++p:=by
 cases ws with
 | nil=>exact absurd rfl h
 | cons x r =>
  have e:∀ (r:List (List UInt8)) (q:List UInt8),Lib.joinTail [32] (r++[q])=Lib.joinTail [32] r++([32]++q):=fun r q=>by simp [Lib.joinTail]
  apply ByteArray.ext
  apply Array.toList_inj.1
  show bl (jnB (x::r++[p]))=_
  rw [Jln,List.cons_append,List.map_cons,Lib.join_cons,List.map_append,List.map_singleton,e]
  have e2:bl (jnB (x::r))=bl x++Lib.joinTail [32] (r.map bl):=by rw [Jln,List.map_cons,Lib.join_cons]
  simp only [ByteArray.data_append,Array.toList_append]
  rw [show (jnB (x::r)).data.toList=bl (jnB (x::r)) from rfl,e2]
  simp
theorem Jmt {ws:List ByteArray} {n:Nat} (h:∀ x∈ws,x.size≤n):(jnB ws).size≤(n+1) * ws.length:=by
 rw [← Jbs,Jln]
 exact Jhb h
def Jaz (g:List Int):ByteArray:=(g.map digB).foldl (· ++ ·) ⟨#[]⟩
theorem Jee {g:List Int} {i:Int} (h0:0≤i) (h1:i < g.length):Jaz (g.take (i+1).toNat)=Jaz (g.take i.toNat)++digB (nth g i):=by
 rw [Jaq g h0 h1]
 simp [Jaz]
theorem Jg9:∀ (g:List Int) (a:ByteArray),bl ((g.map digB).foldl (· ++ ·) a)=bl a++g.flatMap fun n=>Lib.decDigits n.toNat
 | [],a=>by simp
 | x::g,a=>by
  rw [List.map_cons,List.foldl_cons,Jg9 g,List.flatMap_cons]
  simp only [bl,ByteArray.data_append,Array.toList_append,List.append_assoc]
  rfl
theorem Jd0 {g:List Int} (h:∀ x∈g,0≤x∧x < 10):bl (Jaz g)=g.map fun n=>UInt8.ofNat (48+n.toNat):=by
 unfold Jaz
 rw [Jg9]
 show []++_=_
 rw [List.nil_append]
 induction g with
 | nil=>rfl
 | cons x g ih =>
  rw [List.flatMap_cons,List.map_cons,ih fun y hy=>h y (by simp [hy]),Lib.decDigits_one (by have:=h x (by simp); omega)]
  rfl
theorem Jdh {g:List Int} (h:∀ x∈g,0≤x∧x < 10):(Jaz g).size=g.length:=by rw [← Jbs,Jd0 h]; simp
theorem Jir {g:List Int} (h:∀ x∈g,0≤x∧x < 10):Jbt (Jaz g)=g:=by
 unfold Jbt
 rw [Jd0 h,List.map_map]
 conv=>rhs; rw [← List.map_id g]
 refine List.map_congr_left fun x hx=>?_
 have h1:=h x hx
 have:=Jfq (d:=x.toNat) (by omega)
 show ((UInt8.ofNat (48+x.toNat)).toNat:Int) - 48=x
 omega
theorem Jfm {g:List Int} (h:∀ x∈g,0≤x∧x < 10):Jbb (bl (Jaz g))=true:=by
 rw [Jd0 h]
 unfold Jbb
 rw [List.all_eq_true]
 intro b hb
 obtain ⟨x,hx,rfl⟩:=List.mem_map.1 hb
 have h1:=h x hx
 have:=Jfq (d:=x.toNat) (by omega)
 simp only [Bool.and_eq_true,decide_eq_true_eq]
 omega
def preW (c:Clue):List ByteArray:=(if c.nt then [notW] else [])++[nth kindL c.k]
def fmtW (c:Clue):List ByteArray:=preW c++(Jam c).map digB++(if c.k=6 then [Jaz c.g] else [])
def Jbg (lw ls:Int) (c:Clue):Int × ByteArray:=if Jb3 lw ls c=0 then (0,jnB (fmtW c)) else (Jb3 lw ls c,⟨#[]⟩)
structure Fine (c:Clue):Prop where
 k:1≤c.k∧c.k≤7
 f:∀ n∈Jam c,0≤n∧n≤100
 g:∀ x∈c.g,0≤x∧x < 10
 gl:c.g.length≤4
 g6:c.k=6→1≤c.g.length
 set:setF c.k (Jam c) c.g c.nt=c
 g0:¬ c.k=6→c.g=[]
theorem Jgf {lw ls:Int} {c:Clue} (hL:Jap lw ls=true) (h:Jao lw ls c=true):Fine c:=by
 have hb:=Jbl hL
 obtain ⟨k,a,b,n,m,g,nt⟩:=c
 unfold Jao at h
 simp only [Jab,Bool.and_eq_true,decide_eq_true_eq] at h
 repeat' split at h
 ·
  simp only [Bool.and_eq_true,decide_eq_true_eq] at h
  rename_i hk
  obtain ⟨h1,rfl,rfl,rfl⟩:=h
  subst hk
  refine ⟨by simp,fun x hx=>?_,by simp,by simp,by simp,rfl,fun _=>rfl⟩
  simp [Jam] at hx
  omega
 ·
  simp only [Bool.and_eq_true,decide_eq_true_eq] at h
  rename_i hk
  obtain ⟨h1,rfl,rfl⟩:=h
  subst hk
  refine ⟨by simp,fun x hx=>?_,by simp,by simp,by simp,rfl,fun _=>rfl⟩
  simp [Jam] at hx
  omega
 ·
  simp only [Bool.and_eq_true,decide_eq_true_eq] at h
  rename_i hk
  obtain ⟨h1,rfl,rfl,rfl⟩:=h
  refine ⟨by rcases hk with rfl | rfl <;> simp,fun x hx=>?_,by simp,by simp,by rcases hk with rfl | rfl <;> simp,by rcases hk with rfl | rfl <;> rfl,fun _=>rfl⟩
  rcases hk with rfl | rfl <;> (simp [Jam] at hx; omega)
 ·
  simp only [Bool.and_eq_true,decide_eq_true_eq] at h
  rename_i hk
  obtain ⟨h1,rfl,rfl,rfl⟩:=h
  subst hk
  refine ⟨by simp,fun x hx=>?_,by simp,by simp,by simp,rfl,fun _=>rfl⟩
  simp [Jam] at hx
  omega
 ·
  simp only [Bool.and_eq_true,decide_eq_true_eq] at h
  rename_i hk
  obtain ⟨⟨h1,hg⟩,rfl,rfl⟩:=h
  subst hk
  have hc:=Jci hg
  refine ⟨by simp,fun x hx=>?_,fun x hx=>?_,?_,fun _=>?_,rfl,fun h=>absurd rfl h⟩
  ·
   simp [Jam] at hx
   omega
  ·
   have:=hc.2 x hx
   omega
  ·
   show g.length≤4
   omega
  show 1≤g.length
  omega
 ·
  simp only [Bool.and_eq_true,decide_eq_true_eq] at h
  rename_i hk
  obtain ⟨h1,rfl,rfl⟩:=h
  subst hk
  refine ⟨by simp,fun x hx=>?_,by simp,by simp,by simp,rfl,fun _=>rfl⟩
  simp [Jam] at hx
  omega
 cases h
theorem Je9:∀ (ns:List Int),(∀ n∈ns,0≤n∧n≤100)→Jb4 3 (ns.map digB)=some ns
 | [],_=>rfl
 | n::ns,h=>by
  have h1:=h n (by simp)
  rw [List.map_cons,Jb4,Jmj (by omega),Je9 ns fun y hy=>h y (by simp [hy])]
theorem Jfl {k:Int} (h0:1≤k) (h1:k≤7):Jaw (nth kindL k)=k:=by
 have:=Je0 (t:=nth kindL k) h0 (show k < 8 by omega)
 rw [Jdb] at this
 exact of_decide_eq_true this.symm
theorem Jd7 {k:Int} (h0:1≤k) (h1:k≤7):seq (nth kindL k) notW=false∧(32:UInt8) ∉ bl (nth kindL k)∧(nth kindL k).size≤6:=by
 rcases (show k=1∨k=2∨k=3∨k=4∨k=5∨k=6∨k=7 by omega) with rfl | rfl | rfl | rfl | rfl | rfl | rfl <;> decide +kernel
theorem Jll {c:Clue} (h:Fine c):∀ x∈fmtW c,(32:UInt8) ∉ bl x:=by
 have hw:=Jd7 h.k.1 h.k.2
 intro x hx
 unfold fmtW preW at hx
 simp only [List.mem_append,List.mem_map] at hx
 rcases hx with ((hx | hx) | ⟨n,_,rfl⟩) | hx
 ·
  split at hx
  ·
   simp at hx; subst hx; decide +kernel
  cases hx
 ·
  simp at hx; subst hx; exact hw.2.1
 ·
  exact Jhp (Jgd _).1
 split at hx
 ·
  simp at hx; subst hx; exact Jhp (Jfm h.g)
 cases hx
theorem Jis {c:Clue} (h:Fine c):(∀ x∈fmtW c,x.size≤101)∧(fmtW c).length≤6∧0 < (fmtW c).length:=by
 have hw:=Jd7 h.k.1 h.k.2
 have hf:=Jbh c
 have ho:=Jdg c.k
 refine ⟨fun x hx=>?_,?_,?_⟩
 ·
  unfold fmtW preW at hx
  simp only [List.mem_append,List.mem_map] at hx
  rcases hx with ((hx | hx) | ⟨n,hn,rfl⟩) | hx
  ·
   split at hx
   ·
    simp at hx; subst hx; decide +kernel
   cases hx
  ·
   simp at hx; subst hx; omega
  ·
   have:=Jdi n
   have:=h.f n hn
   omega
  split at hx
  ·
   simp at hx; subst hx; rw [Jdh h.g]; have:=h.gl; omega
  cases hx
 ·
  unfold fmtW preW
  simp only [List.length_append,List.length_map,List.length_singleton]
  have h1:(if c.nt=true then [notW] else []).length≤1:=by split <;> simp
  have h2:(if c.k=6 then [Jaz c.g] else []).length≤1∧(c.k=6→(offK c.k).length=2):=by
   refine ⟨by split <;> simp,fun hk=>by rw [hk]; rfl⟩
  by_cases hk:c.k=6
  ·
   have:=h2.2 hk; omega
  rw [if_neg hk]; simp; omega
 unfold fmtW preW
 simp only [List.length_append,List.length_singleton]
 omega
theorem Jk1 {c:Clue} (h:Fine c):Jbq (jnB (fmtW c))=some c:=by
 have hw:=Jd7 h.k.1 h.k.2
 have hsp:=Jlm (ws:=fmtW c) (fun e=>by have:=(Jis h).2.2; rw [e] at this; cases this) (Jll h)
 have hR:Jdr c.nt c.k ((Jam c).map digB++(if c.k=6 then [Jaz c.g] else []))=some c:=by
  by_cases hk:c.k=6
  ·
   rw [if_pos hk]
   have hl:(Jam c).length=2:=by rw [Jbh,hk]; rfl
   have hg2:nth ((Jam c).map digB++[Jaz c.g]) 2=Jaz c.g:=by
    simp only [nth,List.getD]
    rw [show (2:Int).toNat=2 from rfl,List.getElem?_append_right (by simp [hl]),List.length_map,hl]; rfl
   have hd:Jas (Jaz c.g) 4=true:=by
    simp only [Jas,Bool.and_eq_true,decide_eq_true_eq,Jfm h.g,and_true,Jdh h.g]
    have:=h.g6 hk
    have:=h.gl
    omega
   rw [Jfv hk (by simp [hl]) (by rw [hg2]; exact hd),hg2,Jir h.g]
   have ht:((Jam c).map digB++[Jaz c.g]).take 2=(Jam c).map digB:=by rw [List.take_append_of_le_length (by simp [hl]),List.take_of_length_le (by simp [hl])]
   rw [ht,Jg1 (by rw [List.length_map,Jbh]) (Je9 _ h.f),h.set]
  rw [if_neg hk,List.append_nil,Jdt (by have:=h.k; omega) hk,Jg1 (by rw [List.length_map,Jbh]) (Je9 _ h.f)]
  have e:=h.set
  rw [h.g0 hk] at e
  rw [e]
 unfold Jbq
 rw [hsp]
 unfold fmtW preW
 cases hn:c.nt with
 | true =>
  rw [hn] at hR
  rw [if_pos rfl]
  show (if seq notW notW=true then Jd1 true (nth kindL c.k::((Jam c).map digB++_)) else _)=_
  rw [if_pos (Jdb _),Jd1,Jfl h.k.1 h.k.2]
  exact hR
 | false =>
  rw [hn] at hR
  rw [show (if false=true then [notW] else [])=([]:List ByteArray) from rfl]
  show (if seq (nth kindL c.k) notW=true then _ else Jd1 false (nth kindL c.k::((Jam c).map digB++_)))=_
  rw [if_neg (by rw [hw.1]; decide),Jd1,Jfl h.k.1 h.k.2]
  exact hR
theorem Jdx {lw ls:Int} {c:Clue} (h:Jb3 lw ls c=0):Jap lw ls=true∧Jao lw ls c=true:=by
 unfold Jb3 at h
 cases hl:Jap lw ls with
 | false=>rw [hl] at h; simp at h
 | true =>
  cases hc:Jao lw ls c with
  | false=>rw [hl,hc] at h; simp at h
  | true=>exact ⟨rfl,rfl⟩
theorem Jiw {lw ls:Int} {c:Clue} (h:Jb3 lw ls c=0):Jb2 lw ls (jnB (fmtW c))=(0,c):=by
 obtain ⟨hL,hc⟩:=Jdx h
 have hf:=Jgf hL hc
 have hs:=Jis hf
 have:=Jmt hs.1
 have h3:(101+1) * (fmtW c).length≤(101+1) * 6:=Nat.mul_le_mul_left _ hs.2.1
 exact Jfn hL (by omega) (Jk1 hf) hc
theorem Jly (c:Clue) (l:List ByteArray):preW c++l≠[]:=by unfold preW; simp
theorem Jnj (a:ByteArray):a++Jaz ([].take 0)=a:=by
 apply ByteArray.ext
 apply Array.toList_inj.1
 simp [Jaz,ByteArray.data_append]
theorem Jkb (x:ByteArray):jnB ([notW]++[x])=(⟨#[110,111,116,32]⟩:ByteArray)++x:=by
 rw [Jgy (by simp),Jl1,show notW++(⟨#[32]⟩:ByteArray)=⟨#[110,111,116,32]⟩ by decide +kernel]
theorem Jlb {c:Clue} {gv:Value} {i o:Nat} (h:(offK c.k)[i]? = some o):(Jai c gv)[o]? = some (.int .i64 (nth (Jam c) (i:Int))):=by
 have h2:∀ (a b:Nat) (x y:Value),([a,b]:List Nat)[i]? = some o→(Jai c gv)[a]? = some x→(Jai c gv)[b]? = some y→(Jai c gv)[o]? = ([x,y]:List Value)[i]?:=fun a b x y h ha hb=>by
  match i,h with
  | 0,h=>simp at h; subst h; rw [ha]; rfl
  | 1,h=>simp at h; subst h; rw [hb]; rfl
  | n+2,h=>simp at h
 have h3:∀ (a b d:Nat) (x y z:Value),([a,b,d]:List Nat)[i]? = some o→(Jai c gv)[a]? = some x→(Jai c gv)[b]? = some y→(Jai c gv)[d]? = some z→(Jai c gv)[o]? = ([x,y,z]:List Value)[i]?:=fun a b d x y z h ha hb hd=>by
  match i,h with
  | 0,h=>simp at h; subst h; rw [ha]; rfl
  | 1,h=>simp at h; subst h; rw [hb]; rfl
  | 2,h=>simp at h; subst h; rw [hd]; rfl
  | n+3,h=>simp at h
 have e:∀ xs:List Int,xs.length=(offK c.k).length→(xs.map fun x=>Value.int .i64 x)[i]? = some (.int .i64 (nth xs (i:Int))):=fun xs hl=>by
  have hi:=(List.getElem?_eq_some_iff.1 h).1
  rw [List.getElem?_map,List.getElem?_eq_getElem (by omega)]
  simp [nth,List.getD,show i < xs.length by omega]
 rw [← e _ (Jbh c)]
 by_cases h1:c.k=1
 ·
  rw [show offK c.k=[1,3] from if_pos h1] at h
  rw [show Jam c=[c.a,c.n] from if_pos h1]
  exact h2 _ _ _ _ h rfl rfl
 by_cases h4:c.k=2
 ·
  rw [show offK c.k=[1,2,3] from (if_neg h1).trans (if_pos h4)] at h
  rw [show Jam c=[c.a,c.b,c.n] from (if_neg h1).trans (if_pos h4)]
  exact h3 _ _ _ _ _ _ h rfl rfl rfl
 by_cases h5:c.k=3∨c.k=4
 ·
  rw [show offK c.k=[1,2] from (if_neg h1).trans ((if_neg h4).trans (if_pos h5))] at h
  rw [show Jam c=[c.a,c.b] from (if_neg h1).trans ((if_neg h4).trans (if_pos h5))]
  exact h2 _ _ _ _ h rfl rfl
 by_cases h6:c.k=5∨c.k=6
 ·
  rw [show offK c.k=[3,4] from (if_neg h1).trans ((if_neg h4).trans ((if_neg h5).trans (if_pos h6)))] at h
  rw [show Jam c=[c.n,c.m] from (if_neg h1).trans ((if_neg h4).trans ((if_neg h5).trans (if_pos h6)))]
  exact h2 _ _ _ _ h rfl rfl
 rw [show offK c.k=[1,3,4] from (if_neg h1).trans ((if_neg h4).trans ((if_neg h5).trans (if_neg h6)))] at h
 rw [show Jam c=[c.a,c.n,c.m] from (if_neg h1).trans ((if_neg h4).trans ((if_neg h5).trans (if_neg h6)))]
 exact h3 _ _ _ _ _ _ h rfl rfl rfl
end Go.Proofs.YtdpbapffdmahnaaGreatDoor
namespace Go.Proofs.YtdpbapffdmahnaaGreatDoor
set_option linter.unusedVariables false
set_option linter.unusedSimpArgs false
open Go.ChangeShapes Go.WideShapes Go.ChangeAt Go.RowKit Go.Deep Go.Joins
section
variable {H:Type} {enc:TypeId × Value→H} {P:Program} {w:World} {base:Nat}
theorem Jcp (hl:laidOutB P=true) {W W':World} {sp:Nat→Bool}:∀ {ts:List TypeId} {vs:List Value} {ds:List (DataW H)} {ps:List MemPlace},(∀ t∈ts,P.readableRec t=true∧t < P.types.size) →
  DataW.TrodAll enc P W base (fun _=>true) true ts vs ds ps→(∀ p∈ps,W.sameAt W' p)→(∀ p∈ps,sp p.block=true)→DataW.TrodAll enc P W' base sp true ts vs ds ps
 | [],[],[],ps,_,h,_,_=>h
 | t::ts,v::vs,d::ds,ps,hr,⟨p,q,h1,h2,e⟩,hs,hsp=>by
  subst e
  exact ⟨p,q,WideElems.Trod_stays hl (hr t (by simp)).1 (hr t (by simp)).2 h1 (fun x hx=>hs x (by simp [hx])) (fun x hx=>hsp x (by simp [hx])),
   Jcp hl (fun t ht=>hr t (by simp [ht])) h2 (fun x hx=>hs x (by simp [hx])) (fun x hx=>hsp x (by simp [hx])),rfl⟩
 | [],[],_::_,_,_,h,_,_=>h.elim
 | [],_::_,_,_,_,h,_,_=>h.elim
 | _::_,[],_,_,_,h,_,_=>h.elim
 | _::_,_::_,[],_,_,h,_,_=>h.elim
theorem Jkl {f:Func} {s:ChangeSpec} {apart fresh handsOn again:Bool} {W W':World} {args:Array Value} {ds:List (DataW H)} {gs:List (DataW H)} {before:List MemPlace} {tb:TypeId}
  (hl:laidOutB P=true) (hr0:(f.params.toList.all fun t=>P.readableRec t && decide (t < P.types.size))=true) (hrt:f.resultTypes = #[tb]) (htb:P.underlying tb=some .bool)
  (hW:DataW.Whole enc P f.params.toList s.vars apart W args.toList ds gs before) (hv:s.vars=[]) (hb:Below W.heap.size W W')
  (hres:(s.fn H (ds++gs)).results=[.lit (.bool true)]) (hargs:(s.fn H (ds++gs)).args=ds) (hvars:(s.fn H (ds++gs)).vars=[]):s.post enc P f apart fresh handsOn again W args (.bool true) W':=by
 have hr:∀ t∈f.params.toList,P.readableRec t=true∧t < P.types.size:=fun t ht=>by
  have:=List.all_eq_true.1 hr0 t ht
  simpa using this
 have hlt:∀ p∈before,p.block < W.heap.size:=fun p hp=>hW.lt p hp
 have hW0:=hW
 obtain ⟨p,q,hA,hV,rfl,hfz,hnd⟩:=hW
 rw [hv] at hV
 obtain ⟨rfl,rfl⟩:=trodVars_none hV
 have hone:∀ (b:Nat) (sp:Nat→Bool) (hd:Bool),DataW.TrodAll enc P W' b sp hd [tb] [.bool true] [.lit (.bool true)] []:=fun b sp hd =>
  trodAll_mk1 ⟨1,by simp [DataW.trod,Value.cells,htb]⟩
 have hall:∀ sp:Nat→Bool,(∀ x∈p,sp x.block=true)→DataW.TrodAll enc P W' 0 sp true f.params.toList args.toList ds p:=fun sp hsp =>
  Jcp hl hr hA (fun x hx=>hb.same (hlt x (by simp [hx]))) hsp
 refine ⟨ds,[],p++[],[],p,[],hW0,?_,?_,?_,hb.frame _,fun _=>⟨?_,.lit (.bool true)::ds,[],[]++p++[],?_,?_⟩⟩
 ·
  rw [hres,hrt]; exact hone _ _ _
 ·
  rw [hargs]; exact hall _ (fun x hx=>by simpa using hlt x (by simp [hx]))
 ·
  rw [hvars,hv]; rfl
 ·
  rw [hrt]
  intro j t r h1 h2
  have hj:j=0:=by
   have:=(Array.getElem?_eq_some_iff.1 h1).1
   simpa using this
  subst hj
  simp at h1
  simp [Value.resultList] at h2
  subst h1; subst h2
  simp [Value.okWide,htb,Cell.okWide,Cell.ok]
 ·
  rw [hrt,hv]
  refine ⟨[]++p,[],trodAll_append (hall _ (fun _ _=>rfl)) (hone _ _ _),rfl,rfl,?_,?_⟩
  ·
   intro b off hx
   rw [hb.frozen (p:=⟨b,off,none⟩) (hlt (.cell b off) (by simpa using hx))]
   exact hfz b off (by simpa using hx)
  intro ha
  have:=hnd ha
  simpa using this
 intro x hx _
 simpa using hx
end
section
variable {H:Type} {enc:TypeId × Value→H} {P:Program} {w:World} {base:Nat} {held:Bool}
def Rd (enc:TypeId × Value→H) (P:Program) (w:World) (base:Nat) (held:Bool) (t:TypeId) {α:Type} (C:Cel α):Prop :=
 ∀ (fuel:Nat) (cs:List Value) (x:DataW H × List MemPlace),DataW.trod enc P w base (fun _=>true) held fuel t cs=some x→∃ a,cs=C.cells a∧C.ok w a
theorem Jc4 {t:TypeId} (ht:P.underlying t=some (.int .i64)):Rd enc P w base held t cInt:=fun _ _ _ h=>let ⟨n,e,_⟩:=DataW.trod_int ht h; ⟨n,e,trivial⟩
theorem Jnd {t:TypeId} (ht:P.underlying t=some .bool):Rd enc P w base held t cBool:=fun _ _ _ h=>let ⟨n,e,_⟩:=DataW.trod_bool ht h; ⟨n,e,trivial⟩
theorem Jkv {α:Type} [Inhabited α] {C:Cel α} {t s:TypeId} (ht:P.underlying t=some (.slice s)) (hC:P.cellsOf s=C.k) (h0:0 < C.k) (hr:Rd enc P w base held s C):Rd enc P w base held t (cSl C):=by
 intro fuel cs x h
 rcases open_slice ht h with ⟨h1,_⟩ | ⟨a,len,cap,m,n,D,Pl,h1,_,hl,hm,hmm,_,hcell⟩
 ·
  subst h1
  exact ⟨⟨.slice none 0 0,[]⟩,rfl,SlT.nil C w⟩
 subst h1
 simp at hmm
 have hm':cap≤9223372036854775807:=hm
 rw [hC] at hcell
 obtain ⟨f,hf⟩:=choose_lt (α:=α) (n:=len) (p:=fun i c=>w.cells? base (a.add (i * C.k)) C.k=some (C.cells c)∧C.ok w c) (fun i hi=>by
  obtain ⟨cs',k1,k2⟩:=hcell i (by omega)
  obtain ⟨c,rfl,k3⟩:=hr _ _ _ k2
  exact ⟨c,k1,k3⟩)
 have hlen:((List.range len).map f).length=len:=by simp
 refine ⟨⟨.slice (some a) len cap,(List.range len).map f⟩,rfl,⟨⟨?_,some a,cap,by simp,⟨by simpa using hl,hm'⟩,?_⟩,?_⟩⟩
 ·
  rw [Jb5]
 ·
  rcases Nat.eq_zero_or_pos len with hz | hz
  ·
   left; simpa using hz
  right
  obtain ⟨b,o,s'⟩:=a
  have hs:s'=none:=by
   have:=(World.cells?_some (hf 0 hz).1).2.2 0 h0
   rw [List.getElem?_eq_getElem (by rw [C.len]; exact h0)] at this
   simpa [Addr.add] using World.cell?_spot this
  subst hs
  refine ⟨b,o,rfl,fun k y hy=>?_⟩
  have hk:k < len * C.k:=by
   have h1:=(List.getElem?_eq_some_iff.1 hy).1
   simp only [Jb5,hlen] at h1
   exact h1
  obtain ⟨q,hq⟩:∃ q,q=k / C.k:=⟨_,rfl⟩
  obtain ⟨r,hrr⟩:∃ r,r=k % C.k:=⟨_,rfl⟩
  have hql:q < len:=by rw [hq]; exact (Nat.div_lt_iff_lt_mul h0).2 hk
  have hr:r < C.k:=by rw [hrr]; exact Nat.mod_lt _ h0
  have e:k=q * C.k+r:=by rw [hq,hrr,Nat.mul_comm]; exact (Nat.div_add_mod k C.k).symm
  clear hq hrr
  subst e
  have hat:=Jdf C (l:=(List.range len).map f) (i:=(q:Int)) (by omega) (by rw [hlen]; omega) r hr
  rw [show ((q:Int)).toNat=q by omega] at hat
  simp only at hy
  rw [hat] at hy
  have hn:nth ((List.range len).map f) (q:Int)=f q:=by
   simp [nth,List.getD,hql]
  rw [hn] at hy
  have:=(World.cells?_some (hf _ hql).1).2.2 r hr
  rw [hy] at this
  rw [Ja2,Ja2] at this
  simpa [Nat.add_assoc] using this
 intro c hc
 obtain ⟨i,hi,rfl⟩:=List.mem_map.1 hc
 exact (hf i (List.mem_range.1 hi)).2
end
end Go.Proofs.YtdpbapffdmahnaaGreatDoor
namespace Go.Proofs.YtdpbapffdmahnaaGreatDoor
set_option linter.unusedVariables false
set_option linter.unusedSimpArgs false
open Go.RowKit Go.Proofs
theorem Je4 {H:Type} {enc:TypeId × Value→H} {a:Assume} {C:Checked} {os:Os} {f:FuncId} {fn:Func} {s:ChangeSpec} {conds:List PathCond} {apart fresh handsOn again:Bool} {X:World→Array Value→Prop}
  (hX:∀ (w w':World) (args:Array Value),w.heap=w'.heap→X w args→X w' args)
  (own:ownKnob C.prog.godebug=none) (started:os.Started) (noInit:C.prog.inits.idxOf? f=none) (hfn:C.prog.funcs[f]? = some fn)
  (witness:∃ (w:World) (tape:Tape) (i:Input),w.os=os∧(w.forCall tape i).Shaped C.prog∧i.vars=[]∧Input.okWide C.prog (w.forCall tape i) .any w.heap.size f i ∧
   ((s.pre enc C.prog fn conds apart (w.forCall tape i).memory i.args∧X (w.forCall tape i).memory i.args)∧sizedMet enc C.prog fn (OpenSpec.ofChange s) apart (w.forCall tape i).memory i.args)∧a.holds C.prog (lone (Frame.enter C.prog f i.args .normal) [] (w.forCall tape i)))
  (contract:∀ (W:World) (base:Nat) (args:Array Value) (ds gs:List (DataW H)) (before:List MemPlace),W.ShapedOpen C.prog →
   (∀ (j:Nat) t v,fn.params[j]? = some t→args[j]? = some v→Value.okWide C.prog W .any base t v) →
   DataW.Whole enc C.prog fn.params.toList s.vars apart W args.toList ds gs before →
   X W args →
   Calls C.prog f args W fun e W'=>∃ v,e = .returned v∧s.post enc C.prog fn apart fresh handsOn again W args v W') :
  ReturnsInHanded a C os f .any (fun w args=>(s.pre enc C.prog fn conds apart w args∧X w args)∧sizedMet enc C.prog fn (OpenSpec.ofChange s) apart w args) (s.post enc C.prog fn apart fresh handsOn again):=by
 refine returnsInHanded_of_calls own started noInit witness fun w tape i _ hsh _ hok hpre _=>?_
 obtain ⟨_,_,_,fn',hfn',_,_,_,_,hval⟩:=hok
 obtain rfl:fn'=fn:=Option.some.inj (hfn'.symm.trans hfn)
 obtain ⟨⟨⟨ds,gs,before,hw,_⟩,hx⟩,_⟩:=hpre
 refine (contract (w.forCall tape i) w.heap.size i.args ds gs before hsh hval (DataW.Whole.of_heap (w':=w.forCall tape i) (by rfl) hw) (hX _ _ _ (by rfl) hx)).mono fun e W' ⟨v,he,hp⟩=>?_
 subst he
 exact ChangeSpec.post_blind hp
theorem Jf0 {P:Program} {W:World} {name:String} {zs:List (List UInt8)} {rest:List (String × DataW Unit)} {g:Nat} {t e:TypeId} {n:Nat}
  (hg:P.globalNamed name=some g) (hty:(P.globals[g]?).map (·.type)=some t) (ht:P.underlying t=some (.array n e)) (he:P.underlying e=some .string) (hce:P.cellsOf e=1) (hct:P.cellsOf t=n)
  (h:laidMet P ((name,.agg (zs.map fun z=>.lit (.string z)))::rest) W):∀ j,j < n→W.cell? ⟨g,j,none⟩=some (.string ⟨(zs.getD j []).toArray⟩):=by
 obtain ⟨ps,⟨g',t',cs,fuel,p,q,hg',ht',hvar,hd,_,_⟩,_⟩:=h
 obtain rfl:=Option.some.inj (hg.symm.trans hg')
 obtain rfl:=Option.some.inj (hty.symm.trans ht')
 intro j hj
 obtain ⟨xs,m,_,hx,hl,hxl,hi⟩:=DataW.trod_array ht hd
 have h1:=hi j hj
 rw [hce,Nat.mul_one] at h1
 have hj2:j < xs.length:=by omega
 rw [List.getElem?_eq_getElem hj2] at h1
 obtain ⟨s,e1,e2,_⟩:=DataW.trod_string he h1
 have e3:xs.map (·.1)=zs.map fun z=>DataW.lit (.string z):=by
  have:=congrArg Prod.fst hx
  exact (DataW.agg.inj this).symm
 have e4:(DataW.lit (.string s.data.toList):DataW Unit) = .lit (.string (zs.getD j [])):=by
  have a1:(xs.map (·.1))[j]? = some (.lit (.string s.data.toList)):=by rw [List.getElem?_map,List.getElem?_eq_getElem hj2,e2]; rfl
  rw [e3,List.getElem?_map] at a1
  cases hz:zs[j]? with
  | none=>rw [hz] at a1; cases a1
  | some z =>
   rw [hz] at a1
   have:=Option.some.inj a1
   rw [← this,List.getD,hz]; rfl
 have e5:s.data.toList=zs.getD j []:=by
  injection e4 with e6
  injection e6
 rw [World.var?_cell hg hvar j]
 have hc:cs.toList[j]? = some (.string s):=by
  have:=congrArg (fun l:List Value=>l[0]?) e1
  simp only [List.getElem?_take,List.getElem?_drop] at this
  simpa using this
 rw [← Array.getElem?_toList,hc, ← e5]
end Go.Proofs.YtdpbapffdmahnaaGreatDoor
