/- Merged texts of this proof. -/
import Derived.RangeFuncNested
import Derived.OrdersIn
import Derived.Still
import Derived.TacticsIn
import Derived.WalkKit
import Derived.Deep.Quiet
import Derived.RangeFuncLeaves
import Derived.RangeFuncBound
import Derived.Lib.LazyBuf
namespace Go.Proofs.YtllebkdchemabaaGreatDoor
set_option linter.unusedVariables false
set_option linter.unusedSimpArgs false
open Go.RowKit Go.Proofs
def FW (ro:Option Nat):Fence:={fn:=fun _=>True,depth:=none,alive:=false,round:=ro}
def KeepC (S:Nat->Prop) (u u':World):Prop:=
 ∀k,S k->∀o,u.heap[k]? = some o->u'.heap[k]? = some o
variable {S:Nat->Prop} {u u':World}
theorem KeepC.sub {S':Nat->Prop} (h:KeepC S u u') (hs:∀k,S' k->S k):KeepC S' u u':=
 fun k hk=>h k (hs k hk)
structure SA where
 h:(Nat->Prop)->World->Prop
 loc:∀S u u',h S u->KeepC S u u'->h S u'
 dom:∀S u k,h S u->S k->k<u.heap.size
def Star:List SA->(Nat->Prop)->World->Prop
 |[],_,_=>True
 |A::L,S,u=>∃T,(∀k,T k->S k)/\A.h T u/\Star L (fun k=>S k/\¬T k) u
theorem Star.keep:∀{L:List SA} {S S':Nat->Prop} {u u':World},Star L S u->KeepC S u u'->
  (∀k,S k->k<u.heap.size->S' k)->Star L S' u'
 |[],_,_,_,_,_,_,_=>trivial
 |A::L,S,S',u,u',⟨T,hT,hA,hL⟩,hk,hs=>
  ⟨T,fun k h=>hs k (hT k h) (A.dom T u k hA h),A.loc T u u' hA (hk.sub hT),
   Star.keep hL (hk.sub fun _ h=>h.1) fun k h hlt=>⟨hs k h.1 hlt,h.2⟩⟩
theorem Star.upd:∀{L:List SA} {j:Nat} {A:SA} {S:Nat->Prop} {u:World},L[j]? = some A->Star L S u->
  ∃T,(∀k,T k->S k)/\A.h T u/\∀(u':World) (B:SA) (T':Nat->Prop),KeepC (fun k=>S k/\¬T k) u u'->
   B.h T' u'->(∀k,T' k->S k/\(T k\/u.heap.size<=k))->Star (L.set j B) S u'
 |[],_,_,_,_,h,_=>by simp at h
 |A0::L,0,A,S,u,h,⟨T,hT,hA,hL⟩=>by
  obtain rfl:A0=A:=by simpa using h
  refine⟨T,hT,hA,fun u' B T' hk hB hT'=>⟨T',fun k h=>(hT' k h).1,hB,hL.keep hk fun k hk' hlt=>⟨hk'.1,fun h'=>?_⟩⟩⟩;rcases(hT' k h').2 with h2|h2
  ·exact hk'.2 h2
  omega
 |A0::L,j+1,A,S,u,h,⟨T0,hT0,hA0,hL⟩=>by
  obtain⟨T,hT,hA,hc⟩:=Star.upd (j:=j) (by simpa using h) hL;refine⟨T,fun k hk=>(hT k hk).1,hA,fun u' B T' hk hB hT'=>?_⟩;refine⟨T0,hT0,A0.loc T0 u u' hA0 (hk.sub fun k h0=>⟨hT0 k h0,fun h1=>(hT k h1).2 h0⟩),?_⟩;refine hc u' B T' (hk.sub fun k h=>⟨h.1.1,h.2⟩) hB fun k h=>?_;obtain⟨h1,h2⟩:=hT' k h;refine⟨⟨h1,fun h0=>?_⟩,h2⟩;rcases h2 with h2|h2
  ·exact(hT k h2).2 h0
  have:=A0.dom T0 u k hA0 h0;omega
variable {L:List SA} {j:Nat} {A:SA}
theorem Star.get (h:L[j]? = some A) (hs:Star L S u):∃T,(∀k,T k->S k)/\A.h T u:=by
 obtain⟨T,h1,h2,_⟩:=hs.upd h;exact⟨T,h1,h2⟩
theorem Star.erase:∀{L:List SA} {S:Nat->Prop} {u:World} (j:Nat),Star L S u->Star (L.eraseIdx j) S u
 |[],_,_,_,_=>trivial
 |_::_,_,_,0,⟨_,_,_,hL⟩=>hL.keep (fun _ _ _ h=>h) fun _ h _=>h.1
 |_::_,_,_,j+1,⟨T,hT,hA,hL⟩=>⟨T,hT,hA,Star.erase j hL⟩
structure St (n0:Nat) (w0:World) (L:List SA) (u:World):Prop where
 le:n0<=w0.heap.size
 below:Below n0 w0 u
 star:Star L (fun k=>n0<=k) u
variable {w:World}
theorem St.nil:St w.heap.size w [] w:=⟨Nat.le_refl _,Below.refl _ _,trivial⟩
variable {n0:Nat} {w0:World}
theorem St.size (h:St n0 w0 L u):n0<=u.heap.size:=Nat.le_trans h.le h.below.size
theorem St.ext (h:St n0 w0 L u) (hb:Below u.heap.size u u'):St n0 w0 L u':=by
 refine⟨h.le,h.below.trans (hb.mono h.size),?_⟩;have h1:Star L (fun k=>n0<=k/\k<u.heap.size) u:=h.star.keep (fun _ _ _ h=>h) fun k hk hlt=>⟨hk,hlt⟩;exact h1.keep (fun k hk o hc=>(hb.block k hk.2).trans hc) fun k hk _=>hk.1
theorem St.cons {T:Nat->Prop} (h:St n0 w0 L u) (hb:Below u.heap.size u u')
  (hA:A.h T u') (hT:∀k,T k->u.heap.size<=k):St n0 w0 (A::L) u':=by
 have h1:Star L (fun k=>n0<=k/\k<u.heap.size) u:=h.star.keep (fun _ _ _ h=>h) fun k hk hlt=>⟨hk,hlt⟩;refine⟨h.le,(h.ext hb).below,T,fun k hk=>?_,hA,h1.keep (fun k hk o hc=>(hb.block k hk.2).trans hc) fun k hk _=>⟨hk.1,fun h'=>?_⟩⟩
 ·have:=hT k hk;have:=h.size;omega
 have:=hT k h';omega
theorem St.upd (h:St n0 w0 L u) (hj:L[j]? = some A):
  ∃T,(∀k,T k->n0<=k)/\A.h T u/\∀(u':World) (B:SA) (T':Nat->Prop),Below n0 u u'->KeepC (fun k=>n0<=k/\k<u.heap.size/\¬T k) u u'->
   B.h T' u'->(∀k,T' k->n0<=k/\(T k\/u.heap.size<=k))->St n0 w0 (L.set j B) u':=by
 obtain⟨T,hT,hA,hc⟩:=h.star.upd hj;refine⟨T,hT,hA,fun u' B T' hb hk hB hT'=>⟨h.le,h.below.trans hb,hc u' B T' (fun k hk' o hcell=>?_) hB hT'⟩⟩;exact hk k ⟨hk'.1,(Array.getElem?_eq_some_iff.1 hcell).1,hk'.2⟩ o hcell
theorem St.get (h:St n0 w0 L u) (hj:L[j]? = some A):∃T,(∀k,T k->n0<=k)/\A.h T u:=h.star.get hj
theorem St.erase (j:Nat) (h:St n0 w0 L u):St n0 w0 (L.eraseIdx j) u:=⟨h.le,h.below,h.star.erase j⟩
def blk (b:Nat) (c:List Value) (e:TypeId):SA where
 h S u:=(∀k,S k↔k=b)/\u.heap[b]? = some (.cells c.toArray e (0,0))
 loc S u u' h hk:=⟨h.1,hk b ((h.1 b).2 rfl) _ h.2⟩
 dom S u k h hS:=by
  obtain⟨h1,h2⟩:=h;rw[(h1 k).1 hS];exact(Array.getElem?_eq_some_iff.1 h2).1
variable {c:List Value}
theorem St.blk {b:Nat} {e:TypeId} (h:St n0 w0 L u) (hj:L[j]? = some (blk b c e)):
  n0<=b/\u.heap[b]? = some (.cells c.toArray e (0,0)):=by
 obtain⟨T,h1,h2,h3⟩:=h.get hj;exact⟨h1 b ((h2 b).2 rfl),h3⟩
theorem St.alloc (h:St n0 w0 L u) (c:List Value) (e:TypeId):
  St n0 w0 (YtllebkdchemabaaGreatDoor.blk u.heap.size c e::L) (u.alloc (.cells c.toArray e)):=by
 refine h.cons (T:=fun k=>k=u.heap.size) ((Below.refl _ u).alloc (Nat.le_refl _) _) ⟨fun k=>Iff.rfl,?_⟩ (fun k hk=>by omega);exact World.alloc_heap_new u _
theorem St.store {b:Nat} {e:TypeId} (h:St n0 w0 L u) (hj:L[j]? = some (YtllebkdchemabaaGreatDoor.blk b c e))
  (i:Nat) (v:Value):St n0 w0 (L.set j (YtllebkdchemabaaGreatDoor.blk b (c.set i v) e)) (u.setCell ⟨b,i,none⟩ v):=by
 obtain⟨T,hT,⟨hS,hb⟩,hc⟩:=h.upd hj;refine hc _ _ (fun k=>k=b) ((Below.refl _ u).setCell (p:=⟨b,i,none⟩) (hT b ((hS b).2 rfl)) v) (fun k hk o' hcell=>?_) ⟨fun k=>Iff.rfl,?_⟩ (fun k hk=>by subst hk;exact⟨hT _ ((hS _).2 rfl),.inl ((hS _).2 rfl)⟩)
 ·rw[Below.heap_setCell _ _ _ _ (fun e=>hk.2.2 ((hS k).2 e))];exact hcell
 have:=heap_setCell_same u b i c.toArray e v hb;rw[this];simp
def RetB (w:World) (v:Value):Ending->World->Prop:=fun e w'=>e = .returned v/\Below w.heap.size w w'
def ev (l:List Value):Operand->Value
 | .tmp t=>l.getD t undef
 | .const v=>v
 | .global g=>.pointer (some ⟨g,0,none⟩)
 | .func f=>.func (.func f) #[] #[]
def evo (l:List Value):Operand->Option Value
 | .tmp t=>l[t]?
 | .const v=>some v
 | .global g=>some (.pointer (some ⟨g,0,none⟩))
 | .func f=>some (.func (.func f) #[] #[])
variable {l:List Value} {v:Value}
theorem Am {x:Operand} (h:evo l x=some v):ev l x=v:=by
 cases x<;>simp_all [evo,ev,List.getD]
def evs (l:List Value):List Operand->Option (List Value)
 |[]=>some []
 |x::xs=>match evo l x,evs l xs with
  |some v,some vs=>some (v::vs)
  |_,_=>none
theorem Fi {l:List Value}:∀{xs:List Operand} {vs:List Value},evs l xs=some vs->xs.map (ev l)=vs
 |[],vs,h=>by simp[evs]at h;simp[h]
 |x::xs,vs,h=>by
  unfold evs at h;split at h
  ·rename_i v vs' h1 h2;simp at h;subst h;simp[Am h1,Fi h2]
  simp at h
def lset {α:Type}:List α->Nat->α->Option (List α)
 |[],_,_=>some []
 |_::l,0,v=>some (v::l)
 |x::l,n+1,v=>match lset l n v with
  |some r=>some (x::r)
  |none=>none
theorem Aq {α:Type}:∀{l:List α} {n:Nat} {v:α} {r:List α},lset l n v=some r->l.set n v=r
 |[],n,v,r,h=>by simp[lset]at h;subst h;simp
 |x::l,0,v,r,h=>by simp[lset]at h;subst h;simp
 |x::l,n+1,v,r,h=>by
  unfold lset at h;split at h
  ·rename_i r' h';simp at h;subst h;simp[Aq h']
  simp at h
theorem BA (l:List Value) (ds:List Deferred):(Act.mk l.toArray ds).eval=ev l:=by
 funext x;cases x<;>simp[Act.eval,ev,List.getD]
def Ent (P:Program) (f:FuncId):Prop:=∀args w,(callFunc f args).run P w = .ok (.enter f args) w
variable {f:FuncId} {fn:Func}
theorem Ac {P:Program} {c:Code} (hf:P.funcs[f]? = some fn) (hn:(fn.name == "runtime.NumGoroutine")=false) (hb:fn.body=some c):Ent P f:=by
 intro args w;have h1:fn.name≠ "runtime.NumGoroutine" :=by simpa using hn
 simp[callFunc,hf,h1,hb,mark]
def Ap (P:Program) (w:World) (v:Value):Result Next->Prop
 | .ok (.value u) w'=>w'=w/\u=v
 | .ok (.enter f args) w'=>w'=w/\Calls P f args w (RetB w v)
 |_=>False
def Det (P:Program) (C:World->Prop) (o:Oper) (l:List Value) (v:Value):Prop:=
 ∀u,C u->Ap P u v ((execOp (ev l) o).run P u)
def calm:Op->Bool
 | .defer _=>false
 | .select _ _=>false
 |_=>true
theorem Bl {ro:Option Nat} {ρ:Operand->Value} {o:Oper} (h:calm o.op=true):o.semAt ro ρ=execOp ρ o:=by
 cases ro with
 |none=>simp[Oper.semAt_none]
 |some l=>exact Oper.semAt_some l ρ o fun c hc=>by rw[hc]at h;cases h
section
variable (P:Program) (ro:Option Nat) (n0:Nat) (w0:World) (ds:List Deferred)
def WS (ops:Array Oper) (Q:Exit->Act->World->Prop) (L:List SA) (rest:List Oper) (l:List Value):Prop:=
 ∀u,St n0 w0 L u->wpListIn (FW ro) 0 P ops Q rest ⟨l.toArray,ds⟩ u
def CS (c:Code) (Q:Exit->Act->World->Prop) (L:List SA) (l:List Value):Prop:=
 ∀u,St n0 w0 L u->c.wpIn (FW ro) 0 P Q ⟨l.toArray,ds⟩ u
def QS (Q:Exit->Act->World->Prop) (e:Exit) (L:List SA) (l:List Value):Prop:=
 ∀u,St n0 w0 L u->Q e ⟨l.toArray,ds⟩ u
end
variable {n:Nat} {R:Ending->World->Prop}
variable {r:Result Next} {K:Act->World->Prop}
variable {d:Nat}
variable {g:Nat×Bool} {b:Bool}
variable {os:List Oper}
variable {Q':Exit->Act->World->Prop}
variable {σ:Type}
section
variable {P:Program} {ro:Option Nat} {n0:Nat} {w0:World} {ds:List Deferred} {ops:Array Oper} {Q:Exit->Act->World->Prop} {L:List SA}
 {rest:List Oper} {l:List Value}
theorem CE {args:Array Value} (h:Calls P f args w R):CallsIn (FW ro) n P f args w R:=
 ⟨trivial,fun cs _=>let⟨e,w',fr,r,s,x⟩:=h cs;⟨e,w',fr,r,comesIn_wide.2 s,x⟩⟩
theorem EB {o:Oper} {a:Act}
  (h:Ap P u v r) (hK:∀u',Below u.heap.size u u'->K (a.put o.dst v) u'):o.uponIn (FW ro) 0 P a K Q r:=by
 cases r with
 |halt x w'=>simp only[Ap]at h
 |ok n w'=>
  cases n<;>simp only[Ap]at h<;>simp only[Oper.uponIn]
  case value x=>obtain⟨rfl,rfl⟩:=h;exact hK _ (Below.refl _ _)
  case enter f args=>
   obtain⟨rfl,hc⟩:=h;exact⟨fun h=>by simp[FW]at h,CE (hc.mono fun e w'' ⟨he,hw''⟩=>by subst he;exact hK _ hw'')⟩
theorem AL (l:List Value) (d:Nat) (v:Value):(Act.mk l.toArray ds).put (some d) v=⟨(l.set d v).toArray,ds⟩:=by
 simp[Act.put]
theorem VS (l:List Value) (v:Value):(Act.mk l.toArray ds).put none v=⟨l.toArray,ds⟩:=rfl
theorem WS.det {o:Oper} (hc:calm o.op=true) (hd:o.dst=some d) (hg:o.guard=none) (h:Det P (St n0 w0 L) o l v)
  {l':List Value} (hl:lset l d v=some l') (k:WS P ro n0 w0 ds ops Q L rest l'):WS P ro n0 w0 ds ops Q L (o::rest) l:=by
 rw[<-Aq hl]at k;intro u hu;unfold wpListIn;rw[if_pos (by simp[Region.wanted,hg])];refine⟨fun _ _=>trivial,?_⟩;rw[Bl hc,BA];refine EB (h u hu) fun u' hu'=>?_;rw[hd,AL];exact k u' (hu.ext hu')
theorem WS.guard {o:Oper} (hc:calm o.op=true) (hd:o.dst=some d) (hg:o.guard=some g)
  (hb:(yielded ops l.toArray g.1 == some g.2)=b) (h:b=true->Det P (St n0 w0 L) o l v)
  {l':List Value} (hl:lset l d (cond b v undef)=some l') (k:WS P ro n0 w0 ds ops Q L rest l'):WS P ro n0 w0 ds ops Q L (o::rest) l:=by
 rw[<-Aq hl]at k;intro u hu;unfold wpListIn
 have hw:Region.wanted o (yielded ops (Act.mk l.toArray ds).tmps)=b:=by
  obtain⟨j,want⟩:=g;simp only[Region.wanted,hg];exact hb
 rw[hw];cases b with
 |true=>
  rw[if_pos rfl];refine⟨fun _ _=>trivial,?_⟩;rw[Bl hc,BA];refine EB (h rfl u hu) fun u' hu'=>?_;rw[hd,AL];exact k u' (hu.ext hu')
 |false=>
  rw[if_neg (by simp)];refine⟨fun _ _=>trivial,?_⟩;rw[hd,AL];exact k u hu
theorem WS.eq {l':List Value} (h:l=l') (k:WS P ro n0 w0 ds ops Q L rest l'):WS P ro n0 w0 ds ops Q L rest l:=h▸k
theorem WS.done (k:QS n0 w0 ds Q .normal L l):WS P ro n0 w0 ds ops Q L [] l:=fun u hu=>k u hu
theorem CS.region {id:Nat} (k:WS P ro n0 w0 ds os.toArray Q L os l):CS P ro n0 w0 ds (.region id os.toArray false) Q L l:=
 fun u hu=>wpIn_region_lit (k u hu)
theorem CS.seq {x y:Code} (k:CS P ro n0 w0 ds x (Exit.then (y.wpIn (FW ro) 0 P Q) Q) L l):CS P ro n0 w0 ds (.seq x y) Q L l:=fun u hu=>wpIn_seq (k u hu)
theorem CS.skip (k:QS n0 w0 ds Q .normal L l):CS P ro n0 w0 ds .skip Q L l:=fun u hu=>wpIn_skip (k u hu)
theorem CS.ret (k:QS n0 w0 ds Q .ret L l):CS P ro n0 w0 ds .ret Q L l:=fun u hu=>wpIn_ret (k u hu)
theorem CS.leave {id:Nat} (k:QS n0 w0 ds Q (.exit id) L l):CS P ro n0 w0 ds (.exit id) Q L l:=fun u hu=>wpIn_exit (k u hu)
theorem CS.block {id:Nat} {c:Code} (k:CS P ro n0 w0 ds c (Exit.inBlock id Q) L l):CS P ro n0 w0 ds (.block id c) Q L l:=fun u hu=>wpIn_block (k u hu)
theorem CS.cond {c:Operand} {x y:Code} (hc:evo l c=some (.bool b)) (kt:b=true->CS P ro n0 w0 ds x Q L l) (kf:b=false->CS P ro n0 w0 ds y Q L l):
  CS P ro n0 w0 ds (.cond c x y) Q L l:=fun u hu=>by
 refine wpIn_cond_split (t:=b) (by rw[BA];exact Am hc) (fun h=>kt h u hu) (fun h=>kf h u hu)
theorem CS.eq {c:Code} {l':List Value} (h:l=l') (k:CS P ro n0 w0 ds c Q L l'):CS P ro n0 w0 ds c Q L l:=h▸k
theorem QS.then_code {y:Code} (k:CS P ro n0 w0 ds y Q' L l):QS n0 w0 ds (Exit.then (y.wpIn (FW ro) 0 P Q') Q) .normal L l:=k
theorem QS.block_exit {id:Nat} (k:QS n0 w0 ds Q .normal L l):QS n0 w0 ds (Exit.inBlock id Q) (.exit id) L l:=fun u hu=>by
 simp only[Exit.inBlock,if_true];exact k u hu
theorem QS.block_exit_ne {id i:Nat} (h:(i == id)=false) (k:QS n0 w0 ds Q (.exit i) L l):QS n0 w0 ds (Exit.inBlock id Q) (.exit i) L l:=fun u hu=>by
 have:¬i=id:=by simpa using h
 simp only[Exit.inBlock,if_neg this];exact k u hu
def FM:List (Option Value)->List Value->Prop
 |[],[]=>True
 |some v::p,x::l=>x=v/\FM p l
 |none::p,_::l=>FM p l
 |_,_=>False
def fill:List (Option Value)->(Nat->Value)->Nat->List Value
 |[],_,_=>[]
 |some v::p,t,i=>v::fill p t (i+1)
 |none::p,t,i=>t i::fill p t (i+1)
theorem FM.fill:∀{p:List (Option Value)} {l:List Value} (i:Nat),FM p l->∃t,l=fill p t i
 |[],[],_,_=>⟨fun _=>undef,rfl⟩
 |[],_::_,_,h=>h.elim
 |some v::p,[],_,h=>h.elim
 |none::p,[],_,h=>h.elim
 |some v::p,x::l,i,h=>by
  obtain⟨rfl,h2⟩:=h;obtain⟨t,rfl⟩:=h2.fill (i+1);exact⟨t,rfl⟩
 |none::p,x::l,i,h=>by
  obtain⟨t,rfl⟩:=FM.fill (p:=p) (l:=l) (i+1) h;refine⟨fun k=>if k=i then x else t k,?_⟩;simp only[YtllebkdchemabaaGreatDoor.fill,if_true];congr 1
  have:∀(q:List (Option Value)) (j:Nat),i<j->YtllebkdchemabaaGreatDoor.fill q t j=YtllebkdchemabaaGreatDoor.fill q (fun k=>if k=i then x else t k) j:=by
   intro q
   induction q with
   |nil=>intro j _;rfl
   |cons o q ih=>
    intro j hj;cases o with
    |none=>simp only[YtllebkdchemabaaGreatDoor.fill,if_neg (show¬j=i by omega)];rw[ih (j+1) (by omega)]
    |some v=>simp only[YtllebkdchemabaaGreatDoor.fill];rw[ih (j+1) (by omega)]
  exact this p (i+1) (by omega)
def mask:List Value->List Nat->Nat->List (Option Value)
 |[],_,_=>[]
 |v::l,dead,i=>(if dead.contains i then none else some v)::mask l dead (i+1)
def named:List (Option Value)->List (Nat×Value)->List (Option Value)
 |p,[]=>p
 |p,(i,v)::r=>named (p.set i (some v)) r
theorem Zy {p:Nat->Prop} (h:∃k,p k):∃k,p k/\∀j,p j->k<=j:=by
 obtain⟨k,hk⟩:=h
 induction k using Nat.strongRecOn with
 |_ k ih=>
  by_cases h:∃j,j<k/\p j
  ·obtain⟨j,hj,hp⟩:=h;exact ih j hj hp
  exact⟨k,hk,fun j hj=>Nat.le_of_not_lt fun hlt=>h ⟨j,hlt,hj⟩⟩
theorem CS.loop {c:Code} (pat:σ->List (Option Value)) (M:σ->List SA) (I:σ->Prop) (μ:σ->Nat) (s0:σ)
  (hpat:FM (pat s0) l) (hM:M s0=L) (h0:I s0)
  (round:∀s t,I s->CS P ro n0 w0 ds c (Exit.then (fun a u=>∃s' l',a=⟨l'.toArray,ds⟩/\FM (pat s') l'/\St n0 w0 (M s') u/\I s'/\μ s'<μ s) Q) (M s) (fill (pat s) t 0)):
  CS P ro n0 w0 ds (.loop c) Q L l:=by
 intro u hu
 have hmin:∀a u,(∃k s l',a=(⟨l'.toArray,ds⟩:Act)/\FM (pat s) l'/\St n0 w0 (M s) u/\I s/\μ s=k)->
   ∃k,(∃s l',a=(⟨l'.toArray,ds⟩:Act)/\FM (pat s) l'/\St n0 w0 (M s) u/\I s/\μ s=k)/\
    ∀j,(∃s l',a=(⟨l'.toArray,ds⟩:Act)/\FM (pat s) l'/\St n0 w0 (M s) u/\I s/\μ s=j)->k<=j:=fun a u h=>Zy h
 refine wpIn_loop (fun a u=>∃k s l',a=(⟨l'.toArray,ds⟩:Act)/\FM (pat s) l'/\St n0 w0 (M s) u/\I s/\μ s=k)
  (fun a u=> @dite Nat _ (Classical.propDecidable _) (fun h=>(hmin a u h).choose) (fun _=>0)) ⟨_,s0,l,rfl,hpat,hM▸hu,h0,rfl⟩ ?_
 intro a u h;obtain⟨⟨s,l',rfl,hf,hst,hI,hk⟩,hle⟩:=(hmin a u h).choose_spec;obtain⟨t,rfl⟩:=hf.fill 0;refine Go.wpIn_mono (round s t hI u hst) ?_;intro e a' u' hq;cases e<;>try exact hq
 obtain⟨s',l'',rfl,hf',hst',hI',hlt⟩:=hq;have h':∃k s l',(⟨l''.toArray,ds⟩:Act)=(⟨l'.toArray,ds⟩:Act)/\FM (pat s) l'/\St n0 w0 (M s) u'/\I s/\μ s=k:=⟨_,s',l'',rfl,hf',hst',hI',rfl⟩;refine⟨h',?_⟩;rw[dif_pos h',dif_pos h,<-hk];exact Nat.lt_of_le_of_lt ((hmin _ _ h').choose_spec.2 _ ⟨s',l'',rfl,hf',hst',hI',rfl⟩) hlt
end
variable {y:Operand}
variable {T T':TypeId} {a:Int}
variable {vs:List Value}
variable {ts:Array TypeId} {cap:List Value}
section
variable {P:Program} {C:World->Prop} {l:List Value} {d:Option Tmp} {ty:TypeId} {ps:String} {af:Array Edge} {g:Option (Nat×Bool)}
theorem AR {x:Operand} (h:evo l x=some (v)):Det P C ⟨d,.move x,ty,ps,af,g⟩ l v:=fun u _=>by
 (replace h:=Am h)
 simp[execOp,Ap,h]
theorem Jr {x:Operand} (h:evo l x=some (v)):Det P C ⟨d,.assign x,ty,ps,af,g⟩ l v:=fun u _=>by
 (replace h:=Am h)
 simp[execOp,Ap,h]
theorem KM {c x:Operand} (hc:evo l c=some (.bool b)):Det P C ⟨d,.pick c x y,ty,ps,af,g⟩ l (cond b (ev l x) (ev l y)):=fun u _=>by
 (replace hc:=Am hc)
 cases b<;>simp[execOp,Ap,hc,asBool]
theorem AW {c x:Operand} {r:Bool} (hc:evo l c=some (.bool b)) (hx:evo l x=some (cond b (.bool r) undef)) (hy:evo l y=some (.bool false)):
  Det P C ⟨d,.pick c x y,ty,ps,af,g⟩ l (.bool (b&&r)):=fun u hu=>by
 (replace hx:=Am hx;replace hy:=Am hy)
 have:=KM (P:=P) (C:=C) (d:=d) (ty:=ty) (ps:=ps) (af:=af) (g:=g) (x:=x) (y:=y) hc u hu;rw[hx,hy]at this;cases b<;>exact this
theorem D1 {c x:Operand} {r:Bool} (hc:evo l c=some (.bool b)) (hy:evo l y=some (cond (!b) (.bool r) undef)) (hx:evo l x=some (.bool true)):
  Det P C ⟨d,.pick c x y,ty,ps,af,g⟩ l (.bool (b||r)):=fun u hu=>by
 (replace hy:=Am hy;replace hx:=Am hx)
 have:=KM (P:=P) (C:=C) (d:=d) (ty:=ty) (ps:=ps) (af:=af) (g:=g) (x:=x) (y:=y) hc u hu;rw[hx,hy]at this;cases b<;>exact this
theorem ID {x:Operand} {b:Int} (hx:evo l x=some (.int .i64 a)) (hy:evo l y=some (.int .i64 b)) (h: -9223372036854775808<=a+b/\a+b<=9223372036854775807):
  Det P C ⟨d,.binOp .add T x y T',ty,ps,af,g⟩ l (.int .i64 (a+b)):=fun u _=>by
 (replace hx:=Am hx;replace hy:=Am hy)
 simp[execOp,Ap,hx,hy,eqGuard,binOp,Op.intArith,IntWalk.i64_in _ h]
theorem GI {x:Operand} {b:Int} (hx:evo l x=some (.int .i64 a)) (hy:evo l y=some (.int .i64 b)) (h: -9223372036854775808<=a-b/\a-b<=9223372036854775807):
  Det P C ⟨d,.binOp .sub T x y T',ty,ps,af,g⟩ l (.int .i64 (a-b)):=fun u _=>by
 (replace hx:=Am hx;replace hy:=Am hy)
 simp[execOp,Ap,hx,hy,eqGuard,binOp,Op.intArith,IntWalk.i64_in _ h]
theorem Jad {x:Operand} {b:Int} (hx:evo l x=some (.int .i64 a)) (hy:evo l y=some (.int .i64 b)) (h: -9223372036854775808<=a*b/\a*b<=9223372036854775807):
  Det P C ⟨d,.binOp .mul T x y T',ty,ps,af,g⟩ l (.int .i64 (a*b)):=fun u _=>by
 (replace hx:=Am hx;replace hy:=Am hy)
 simp[execOp,Ap,hx,hy,eqGuard,binOp,Op.intArith,IntWalk.i64_in _ h]
theorem JQ {x:Operand} {b:Int} (hx:evo l x=some (.int .i64 a)) (hy:evo l y=some (.int .i64 b)):
  Det P C ⟨d,.binOp .sub T x y T',ty,ps,af,g⟩ l (.int .i64 (IntKind.i64.wrap (a-b))):=fun u _=>by
 (replace hx:=Am hx;replace hy:=Am hy)
 simp[execOp,Ap,hx,hy,eqGuard,binOp,Op.intArith]
theorem SG {x:Operand} {b:Int} (hx:evo l x=some (.int .i64 a)) (hy:evo l y=some (.int .i64 b)) (ha:0<=a) (hb:0<b):
  Det P C ⟨d,.binOp .rem T x y T',ty,ps,af,g⟩ l (.int .i64 (a%b)):=fun u _=>by
 (replace hx:=Am hx;replace hy:=Am hy)
 have:¬b=0:=by omega
 simp[execOp,Ap,hx,hy,eqGuard,binOp,Op.intDiv,this,Int.tmod_eq_emod_of_nonneg ha]
theorem RO {x:Operand} {k:IntKind} {b:Int} (hx:evo l x=some (.int k a)) (hy:evo l y=some (.int k b)):
  Det P C ⟨d,.binOp .eql T x y T',ty,ps,af,g⟩ l (.bool (decide (a=b))):=fun u _=>by
 (replace hx:=Am hx;replace hy:=Am hy)
 simp[execOp,Ap,hx,hy,eqGuard,binOp,Op.intCmp];rfl
theorem Rn {x:Operand} {k:IntKind} {b:Int} (hx:evo l x=some (.int k a)) (hy:evo l y=some (.int k b)):
  Det P C ⟨d,.binOp .neq T x y T',ty,ps,af,g⟩ l (.bool (decide (a≠b))):=fun u _=>by
 (replace hx:=Am hx;replace hy:=Am hy)
 simp[execOp,Ap,hx,hy,eqGuard,binOp,Op.intCmp];rfl
theorem TM {x:Operand} {k:IntKind} {b:Int} (hx:evo l x=some (.int k a)) (hy:evo l y=some (.int k b)):
  Det P C ⟨d,.binOp .lss T x y T',ty,ps,af,g⟩ l (.bool (decide (a<b))):=fun u _=>by
 (replace hx:=Am hx;replace hy:=Am hy)
 simp[execOp,Ap,hx,hy,eqGuard,binOp,Op.intCmp]
theorem UN {x:Operand} {k:IntKind} {b:Int} (hx:evo l x=some (.int k a)) (hy:evo l y=some (.int k b)):
  Det P C ⟨d,.binOp .leq T x y T',ty,ps,af,g⟩ l (.bool (decide (a<=b))):=fun u _=>by
 (replace hx:=Am hx;replace hy:=Am hy)
 simp[execOp,Ap,hx,hy,eqGuard,binOp,Op.intCmp]
theorem Ss {x:Operand} {k:IntKind} {b:Int} (hx:evo l x=some (.int k a)) (hy:evo l y=some (.int k b)):
  Det P C ⟨d,.binOp .gtr T x y T',ty,ps,af,g⟩ l (.bool (decide (b<a))):=fun u _=>by
 (replace hx:=Am hx;replace hy:=Am hy)
 simp[execOp,Ap,hx,hy,eqGuard,binOp,Op.intCmp]
theorem SR {x:Operand} {k:IntKind} {b:Int} (hx:evo l x=some (.int k a)) (hy:evo l y=some (.int k b)):
  Det P C ⟨d,.binOp .geq T x y T',ty,ps,af,g⟩ l (.bool (decide (b<=a))):=fun u _=>by
 (replace hx:=Am hx;replace hy:=Am hy)
 simp[execOp,Ap,hx,hy,eqGuard,binOp,Op.intCmp]
theorem MZ {x:Operand} {a:Bool} (hx:evo l x=some (.bool a)) (hy:evo l y=some (.bool b)) (hT:P.underlying T=some .bool):
  Det P C ⟨d,.binOp .eql T x y T',ty,ps,af,g⟩ l (.bool (a == b)):=fun u _=>by
 (replace hx:=Am hx;replace hy:=Am hy)
 simp[execOp,Ap,hx,hy,eqGuard,run_eql_bool _ T a b hT]
theorem Rr {x:Operand} {a:Bool} (hx:evo l x=some (.bool a)) (hy:evo l y=some (.bool b)) (hT:P.underlying T=some .bool):
  Det P C ⟨d,.binOp .neq T x y T',ty,ps,af,g⟩ l (.bool (a != b)):=fun u _=>by
 (replace hx:=Am hx;replace hy:=Am hy)
 simp[execOp,Ap,hx,hy,eqGuard,run_neq_bool _ T a b hT];cases a<;>cases b<;>rfl
theorem N4 {x:Operand} {a:Bool} (hx:evo l x=some (.bool a)):Det P C ⟨d,.unOp .not T x,ty,ps,af,g⟩ l (.bool (!a)):=fun u _=>by
 (replace hx:=Am hx)
 simp[execOp,Ap,hx,Op.unary]
theorem H3 {x:Operand} {i:Nat} (hx:evo l x=some (.tuple vs.toArray)) (hv:vs[i]? = some v):Det P C ⟨d,.extract x i,ty,ps,af,g⟩ l v:=fun u _=>by
 (replace hx:=Am hx)
 simp[execOp,Ap,hx,Instr.extract,hv]
theorem Ax {fn:Fn} {cap:List Operand} (hv:evs l cap=some vs):Det P C ⟨d,.makeFunc fn #[] cap.toArray,ty,ps,af,g⟩ l (.func fn #[] vs.toArray):=fun u _=>by
 (replace hv:=Fi hv)
 subst hv;simp[execOp,Ap,Instr.makeFunc]
theorem Rp {x:Operand} {p:Option Addr} {c:Nat} {e:TypeId} (hT:P.underlying T=some (.slice e)) (hx:evo l x=some (.slice p n c)):
  Det P C ⟨d,.call ⟨.builtin .len,#[x],#[T]⟩,ty,ps,af,g⟩ l (.int .i64 n):=fun u _=>by
 (replace hx:=Am hx)
 simp[execOp,Ap,hx,resolve,invoke,builtin,Builtin.len_,run_underlying hT,goInt]
theorem UD {x:Operand} {Ts:Array TypeId} {b:Int} (hx:evo l x=some (.int .i64 a)) (hy:evo l y=some (.int .i64 b)):
  Det P C ⟨d,.call ⟨.builtin .min,#[x,y],Ts⟩,ty,ps,af,g⟩ l (.int .i64 (min a b)):=fun u _=>by
 (replace hx:=Am hx;replace hy:=Am hy)
 have:(if b<a then b else a)=min a b:=by split<;>omega
 simp[execOp,Ap,hx,hy,resolve,invoke,builtin,Builtin.min_,Builtin.min2,this]
theorem Hg {x:Operand} {a:Addr} (hx:evo l x=some (.pointer (some a))):Det P C ⟨d,.nilCheck x,ty,ps,af,g⟩ l (.pointer (some a)):=fun u _=>by
 (replace hx:=Am hx)
 simp[execOp,Ap,hx]
theorem P2 {f:Operand} {args:List Operand} {fn:FuncId}
  (hc:∀u,C u->Calls P fn (vs++cap).toArray u (RetB u v))
  (hf:evo l f=some (.func (.func fn) #[] cap.toArray)) (he:Ent P fn) (hv:evs l args=some vs):
  Det P C ⟨d,.call ⟨.value f,args.toArray,ts⟩,ty,ps,af,g⟩ l v:=fun u hu=>by
 (replace hf:=Am hf;replace hv:=Fi hv)
 subst hv;have h1:∀(args:Array Value) (w:World),Sem.run P (callFunc fn args) w = .ok (.enter fn args) w:=he;simp[execOp,Ap,hf,resolve,invoke,Deferred.ofValue,h1];have:=hc u hu
 simpa using this
end
def tk (P:Program) (T:TypeId):Option (Bool×Nat):=
 match P.underlying T,P.info? T with
 |some (.struct _),some i=>some (true,i.size)
 |some (.array _ _),some i=>some (true,i.size)
 |some _,some i=>some (false,i.size)
 |_,_=>none
def zv (P:Program) (T:TypeId):Option (List Value):=(P.info? T).bind fun i=>i.zero.map fun z=>z.cells.toList
def fo (P:Program) (T:TypeId) (f:Nat):Option Nat:=
 match P.underlying T with
 |some (.struct fs)=>(fs[f]?).bind fun x=>(P.info? x.type).bind fun i=>if i.size=0 then none else some x.offset
 |_=>none
def sl (P:Program) (T:TypeId):Option (TypeId×Nat×Nat):=
 match P.underlying T with
 |some (.slice e)=>(P.info? e).map fun i=>(e,i.size,i.bytes)
 |_=>none
def arr (P:Program) (T:TypeId):Option (Nat×Nat):=
 match P.underlying T with
 |some (.array n e)=>(P.info? e).map fun i=>(n,i.size)
 |_=>none
variable {k:Nat}
variable {by_:Nat}
section
variable {P:Program} {T:TypeId}
theorem CV (h:tk P T=some (b,k)) (w:World):(isAgg T).run P w = .ok b w/\(sizeOf T).run P w = .ok k w:=by
 unfold tk at h;cases hu:P.underlying T with
 |none=>rw[hu]at h;simp at h
 |some d=>
  cases hi:P.info? T with
  |none=>rw[hu,hi]at h;cases d<;>simp at h
  |some i=>
   rw[hu,hi]at h;refine⟨?_,?_⟩
   ·cases d<;>simp at h<;>simp[isAgg,run_underlying hu,h.1]
   cases d<;>simp at h<;>simp[sizeOf,typeInfo,hi,h.2]
theorem BX {e:TypeId} (h:sl P T=some (e,k,by_)):∃i,P.underlying T=some (.slice e)/\P.info? e=some i/\i.size=k/\i.bytes=by_:=by
 unfold sl at h;split at h
 ·rename_i e' hu;cases hi:P.info? e' with
  |none=>simp[hi]at h
  |some i=>
   simp[hi]at h;obtain⟨rfl,rfl,rfl⟩:=h;exact⟨i,hu,hi,rfl,rfl⟩
 simp at h
theorem Vn (h:arr P T=some (n,k)):∃e i,P.underlying T=some (.array n e)/\P.info? e=some i/\i.size=k:=by
 unfold arr at h;split at h
 ·rename_i n' e' hu;cases hi:P.info? e' with
  |none=>simp[hi]at h
  |some i=>
   simp[hi]at h;obtain⟨rfl,rfl⟩:=h;exact⟨e',i,hu,hi,rfl⟩
 simp at h
end
theorem BJ (b o n:Nat):(⟨b,o,none⟩:Addr).add n=⟨b,o+n,none⟩:=by
 unfold Addr.add;split<;>simp_all
variable {m:Nat}
variable {L':List SA}
section
variable {P:Program} {ro:Option Nat} {n0:Nat} {w0:World} {ds:List Deferred} {ops:Array Oper} {Q:Exit->Act->World->Prop} {L:List SA}
 {rest:List Oper} {l:List Value} {d:Option Tmp} {ty:TypeId} {ps:String} {af:Array Edge} {g:Option (Nat×Bool)} {C:World->Prop}
theorem WS.world {o:Oper} (hc:calm o.op=true) (hg:o.guard=none)
  (h:∀u,St n0 w0 L u->∃v u',(execOp (ev l) o).run P u = .ok (.value v) u'/\wpListIn (FW ro) 0 P ops Q rest ((Act.mk l.toArray ds).put o.dst v) u'):
  WS P ro n0 w0 ds ops Q L (o::rest) l:=by
 intro u hu;unfold wpListIn;rw[if_pos (by simp[Region.wanted,hg])];refine⟨fun _ _=>trivial,?_⟩;rw[Bl hc,BA];obtain⟨v,u',hr,hk⟩:=h u hu;rw[hr];exact hk
theorem WS.world_skip {o:Oper} (hc:calm o.op=true) (hg:o.guard=none) (hd:o.dst=none)
  (h:∀u,St n0 w0 L u->∃u',(execOp (ev l) o).run P u = .ok .skip u'/\wpListIn (FW ro) 0 P ops Q rest ⟨l.toArray,ds⟩ u'):
  WS P ro n0 w0 ds ops Q L (o::rest) l:=by
 intro u hu;unfold wpListIn;rw[if_pos (by simp[Region.wanted,hg])];refine⟨fun _ _=>trivial,?_⟩;rw[Bl hc,BA];obtain⟨u',hr,hk⟩:=h u hu;rw[hr];show wpListIn (FW ro) 0 P ops Q rest ((Act.mk l.toArray ds).put o.dst undef) u';rw[hd];exact hk
theorem WS.box {x:Operand} {i:Nat} (hx:evo l x=some (v)) (hc:v.cells=c.toArray)
  {l':Nat->List Value} (hl:∀b,lset l i (.pointer (some ⟨b,0,none⟩))=some (l' b))
  (k:∀b,n0<=b->WS P ro n0 w0 ds ops Q (blk b c T::L) rest (l' b)):
  WS P ro n0 w0 ds ops Q L (⟨some i,.box T x,ty,ps,af,none⟩::rest) l:=by
 (replace hx:=Am hx)
 refine WS.world rfl rfl fun u hu=>?_;refine⟨.pointer (some ⟨u.heap.size,0,none⟩),u.alloc (.cells c.toArray T),?_,?_⟩
 ·simp[execOp,Instr.box,newVar,newRow,hx,hc]
 rw[AL];rw[Aq (hl _)];exact k _ hu.size _ (hu.alloc c T)
theorem WS.alloc {i:Nat} (hz:zv P T=some c)
  {l':Nat->List Value} (hl:∀b,lset l i (.pointer (some ⟨b,0,none⟩))=some (l' b))
  (k:∀b,n0<=b->WS P ro n0 w0 ds ops Q (blk b c T::L) rest (l' b)):
  WS P ro n0 w0 ds ops Q L (⟨some i,.alloc T,ty,ps,af,none⟩::rest) l:=by
 refine WS.world rfl rfl fun u hu=>?_;refine⟨.pointer (some ⟨u.heap.size,0,none⟩),u.alloc (.cells c.toArray T),?_,?_⟩
 ·unfold zv at hz;cases hi:P.info? T with
  |none=>simp[hi]at hz
  |some inf=>
   cases hz2:inf.zero with
   |none=>simp[hi,hz2]at hz
   |some z=>
    simp[hi,hz2]at hz;subst hz;simp[execOp,Instr.alloc,zeroValue,typeInfo,hi,hz2,newVar,newRow]
 rw[AL];rw[Aq (hl _)];exact k _ hu.size _ (hu.alloc c T)
theorem Gc {x:Operand} {f b o:Nat} (hx:evo l x=some (.pointer (some ⟨b,o,none⟩))) (hf:fo P T f=some m):
  Det P C ⟨d,.fieldAddr T x f,ty,ps,af,g⟩ l (.pointer (some ⟨b,o+m,none⟩)):=fun u _=>by
 (replace hx:=Am hx)
 unfold fo at hf;split at hf
 ·rename_i fs hu;cases hfs:fs[f]? with
  |none=>simp[hfs]at hf
  |some x=>
   cases hi:P.info? x.type with
   |none=>simp[hfs,hi]at hf
   |some i=>
    simp[hfs,hi]at hf;obtain⟨h0,rfl⟩:=hf;simp[execOp,Ap,hx,Instr.fieldAt,run_underlying hu,hfs,Instr.sureAddr,fieldPlace,sizeOf,typeInfo,hi,h0,BJ]
 simp at hf
theorem AX {x:Operand} {a:Addr} (hT:tk P T=some (false,k)) (hx:evo l x=some (.pointer (some a))) (hv:∀u,C u->u.cell? a=some v):
  Det P C ⟨d,.load T x,ty,ps,af,g⟩ l v:=fun u hu=>by
 (replace hx:=Am hx)
 simp[execOp,Ap,hx,Instr.loadAt,Instr.sureAddr,loadVar,(CV hT u).1,hv u hu]
theorem FT {x:Operand} {b o:Nat} {cs:List Value} (hT:tk P T=some (true,cs.length)) (hx:evo l x=some (.pointer (some ⟨b,o,none⟩)))
  (hv:∀u,C u->∀j v,cs[j]? = some v->u.cell? ⟨b,o+j,none⟩=some v):
  Det P C ⟨d,.load T x,ty,ps,af,g⟩ l (.agg cs.toArray):=fun u hu=>by
 (replace hx:=Am hx)
 have:=run_loadCells_list (P:=P) u ⟨b,o,none⟩ cs fun j v h=>by rw[BJ];exact hv u hu j v h
 simp[execOp,Ap,hx,Instr.loadAt,Instr.sureAddr,loadVar,(CV hT u).1,(CV hT u).2,this]
theorem BT {b:Nat} {e:TypeId} (h:u.heap[b]? = some (.cells c.toArray e (0,0))) (i:Nat):u.cell? ⟨b,i,none⟩=c[i]?:=by
 rw[cell_of_row u b i _ e (0,0) h];simp
theorem AP {x:Operand} {b i:Nat} {e:TypeId} (hx:evo l x=some (.pointer (some ⟨b,i,none⟩))) (hj:L[j]? = some (blk b c e)) (hv:c[i]? = some v) (hT:tk P T=some (false,k)):
  Det P (St n0 w0 L) ⟨d,.load T x,ty,ps,af,g⟩ l v:=
 AX hT hx fun u hu=>by rw[BT (hu.blk hj).2];exact hv
theorem Ca {x:Operand} {b i:Nat} {cs:List Value} {e:TypeId} (hx:evo l x=some (.pointer (some ⟨b,i,none⟩))) (hj:L[j]? = some (blk b c e)) (hv:(c.drop i).take cs.length=cs) (hT:tk P T=some (true,cs.length)):
  Det P (St n0 w0 L) ⟨d,.load T x,ty,ps,af,g⟩ l (.agg cs.toArray):=
 FT hT hx fun u hu m v hm=>by
  rw[BT (hu.blk hj).2];rw[<-hv,List.getElem?_take]at hm;split at hm
  ·rw[List.getElem?_drop]at hm;exact hm
  simp at hm
theorem AU {x:Operand} {b:Nat} {e:TypeId} (hx:evo l x=some (.pointer (some ⟨b,0,none⟩))) (hj:L[j]? = some (blk b c e)) (hT:tk P T=some (true,c.length)):
  Det P (St n0 w0 L) ⟨d,.load T x,ty,ps,af,g⟩ l (.agg c.toArray):=
 Ca hx hj (by simp) hT
theorem Fw {α:Type}:∀(l:List α) (n:Nat) (v:α),lset l n v=some (l.set n v)
 |[],_,_=>rfl
 |_::_,0,_=>rfl
 |x::l,n+1,v=>by simp[lset,Fw l n v]
theorem WS.store {x:Operand} {b i:Nat} {k:Bool} {e:TypeId} (hx:evo l x=some (.pointer (some ⟨b,i,none⟩))) (hj:L[j]? = some (blk b c e)) (hi:i<c.length)
  (hy:evo l y=some (v)) (h1:v.oneCell'=true) (hT:tk P T=some (k,1))
  {c':List Value} (hc':lset c i v=some c') (hL:lset L j (blk b c' e)=some L') (kk:WS P ro n0 w0 ds ops Q L' rest l):
  WS P ro n0 w0 ds ops Q L (⟨none,.store T x y,ty,ps,af,none⟩::rest) l:=by
 (replace hx:=Am hx;replace hy:=Am hy)
 rw[<-Aq hc']at hL;rw[<-Aq hL]at kk;refine WS.world_skip rfl rfl rfl fun u hu=>⟨u.setCell ⟨b,i,none⟩ v,?_,kk _ (hu.store hj i v)⟩;have hb:=hu.blk hj;have hcell:u.cell? ⟨b,i,none⟩=some c[i]:=by rw[BT hb.2];simp[hi]
 have hfr:u.frozen? ⟨b,i,none⟩=false:=frozen_of_row u b i c.toArray e hb.2;have hcs:v.cells = #[v]:=by cases v<;>simp_all [Value.cells,Value.oneCell']
 simp[execOp,hx,hy,Instr.storeAt,Instr.sureAddr,storeVar,(CV hT u).2,hcs,storeCells,BJ,run_store P u ⟨b,i,none⟩ v .plain h1,hcell,hfr]
end
def slb:Value->Nat
 | .slice (some a) _ _=>a.block
 |_=>0
def slo:Value->Nat
 | .slice (some a) _ _=>a.off
 |_=>0
def sla (v:Value) (m:Nat):Addr:=⟨slb v,slo v+m,none⟩
def SlC (u:World) (v:Value) (n k:Nat) (flat:List Value):Prop:=
 flat.length=n*k/\∃p cap,v = .slice p n cap/\(n<=cap/\cap<=9223372036854775807)/\
  (n=0\/∃b o,p=some ⟨b,o,none⟩/\∀m x,flat[m]? = some x->u.cell? ⟨b,o+m,none⟩=some x)
variable {flat:List Value}
theorem SlC.cell (h:SlC u v n k flat) {x:Value} (hm:flat[m]? = some x):u.cell? (sla v m)=some x:=by
 obtain⟨hl,p,cap,rfl,_,rfl|⟨b,o,rfl,hc⟩⟩:=h
 ·have:flat=[]:=List.eq_nil_of_length_eq_zero (by omega);subst this;simp at hm
 exact hc m x hm
theorem SlC.keep (h:SlC u v n k flat) (hk:∀a x,u.cell? a=some x->u'.cell? a=some x):SlC u' v n k flat:=by
 obtain⟨hl,p,cap,rfl,hcap,h⟩:=h;refine⟨hl,p,cap,rfl,hcap,?_⟩;rcases h with h|⟨b,o,rfl,hc⟩
 ·exact .inl h
 exact .inr ⟨b,o,rfl,fun m x hm=>hk _ _ (hc m x hm)⟩
theorem Bi {B:Nat} (h:Below B w u) (hB:w.heap.size<=B) {a:Addr} {x:Value} (hc:w.cell? a=some x):u.cell? a=some x:=by
 have:=World.block_lt_of_cell? w a hc;rw[h.cell (p:=a) (by omega)];exact hc
theorem SlC.ext (h:SlC w v n k flat) (hb:Below w.heap.size w u):SlC u v n k flat:=
 h.keep fun _ _ hc=>Bi hb (Nat.le_refl _) hc
theorem SlC.st (h:SlC w0 v n k flat) (hu:St w0.heap.size w0 L u):SlC u v n k flat:=h.ext hu.below
theorem SlC.le (h:SlC u v n k flat):n<=9223372036854775807:=by
 obtain⟨_,p,cap,_,hc,_⟩:=h;omega
theorem SlC.len (h:SlC u v n k flat):flat.length=n*k:=h.1
def osl (e:TypeId) (size:Nat) (v:Value) (n:Nat) (xs:List Value):SA where
 h S u:=(∀k,S k↔v.ownBlock=some k)/\u.ownsRow 0 e size v n xs
 loc S u u' h hk:=by
  obtain⟨h0,h1,h2⟩:=h;refine⟨h0,h1,?_⟩;rcases h2 with h2|⟨b,cap,cur,rfl,hb,hg,r⟩
  ·exact .inl h2
  exact .inr ⟨b,cap,cur,rfl,hb,hk b ((h0 b).2 rfl) _ hg,r⟩
 dom S u k h hS:=(h.2.lt k ((h.1 k).1 hS)).2
theorem C8 {base:Nat} {e:TypeId} {size:Nat} {xs:List Value} (h:u.ownsRow base e size v n xs):SlC u v n size xs:=by
 refine⟨h.1,?_⟩;rcases h.2 with⟨rfl,rfl⟩|⟨b,cap,cur,rfl,hb,hg,hn,hm,hs,ht⟩
 ·exact⟨none,0,rfl,⟨Nat.le_refl _,by omega⟩,.inl rfl⟩
 refine⟨_,cap,rfl,⟨hn,hm⟩,.inr ⟨b,0,rfl,fun m x hx=>?_⟩⟩;rw[cell_of_row u b _ cur e (0,0) hg,<-Array.getElem?_toList];rw[<-ht,List.getElem?_take]at hx;split at hx
 ·rw[Nat.zero_add];exact hx
 simp at hx
variable {i:Int} {k':Nat}
variable {z:Nat}
variable {zc:List Value} {l':Value->List Value}
variable {pl:List (Nat×Operand)}
section
variable {P:Program} {ro:Option Nat} {n0:Nat} {w0:World} {ds:List Deferred} {ops:Array Oper} {Q:Exit->Act->World->Prop} {L:List SA}
 {rest:List Oper} {l:List Value} {d:Option Tmp} {ty:TypeId} {ps:String} {af:Array Edge} {g:Option (Nat×Bool)} {C:World->Prop}
theorem BZ {e:TypeId} {size:Nat} {xs:List Value} (hu:St n0 w0 L u) (hj:L[j]? = some (osl e size v n xs)):SlC u v n size xs:=by
 obtain⟨T,_,_,h⟩:=hu.get hj;exact C8 h
theorem Ds {e:TypeId} {a b:Nat} {x:Operand} (hT:sl P T=some (e,a,b)) (hx:evo l x=some (v)) (hs:SlC w v n k flat):
  Det P C ⟨d,.call ⟨.builtin .len,#[x],#[T]⟩,ty,ps,af,g⟩ l (.int .i64 n):=by
 obtain⟨i,hu,_⟩:=BX hT;obtain⟨_,p,cap,rfl,_⟩:=hs;exact Rp hu hx
theorem JR {e e':TypeId} {a b size:Nat} {x:Operand} {xs:List Value} (hT:sl P T=some (e,a,b)) (hx:evo l x=some v) (hj:L[j]? = some (osl e' size v n xs)):
  Det P (St n0 w0 L) ⟨d,.call ⟨.builtin .len,#[x],#[T]⟩,ty,ps,af,g⟩ l (.int .i64 n):=fun u hu=>by
 exact Ds (C:=St n0 w0 L) hT hx (BZ hu hj) u hu
theorem W3 {e:TypeId} {a b:Nat} {x:Operand} (hT:sl P T=some (e,a,b)) (hx:evo l x=some (v)) (hs:∃p c,v = .slice p n c):
  Det P C ⟨d,.call ⟨.builtin .len,#[x],#[T]⟩,ty,ps,af,g⟩ l (.int .i64 n):=by
 obtain⟨i,hu,_⟩:=BX hT;obtain⟨p,cap,rfl⟩:=hs;exact Rp hu hx
theorem DO {e:TypeId} {x:Operand} (hT:sl P T=some (e,k,by_)) (hx:evo l x=some (v)) (hy:evo l y=some (.int .i64 i))
  (hs:SlC w v n k' flat) (h0:0<=i) (h1:i<n):Det P C ⟨d,.indexAddr T x y,ty,ps,af,g⟩ l (.pointer (some (sla v (i.toNat*k)))):=fun u _=>by
 (replace hx:=Am hx;replace hy:=Am hy)
 obtain⟨inf,hu,hi,hk,_⟩:=BX hT;obtain⟨_,p,cap,rfl,_,rfl|⟨b,o,rfl,_⟩⟩:=hs
 ·omega
 simp[execOp,Ap,hx,hy,Instr.indexAt,asIntOf,run_underlying hu,h0,h1,sizeOf,typeInfo,hi,hk,sla,slb,slo,BJ]
theorem BG {b o:Nat} {x:Operand} (hT:arr P T=some (n,k)) (hx:evo l x=some (.pointer (some ⟨b,o,none⟩))) (hy:evo l y=some (.int .i64 i))
  (h0:0<=i) (h1:i<n):Det P C ⟨d,.indexAddr T x y,ty,ps,af,g⟩ l (.pointer (some ⟨b,o+i.toNat*k,none⟩)):=fun u _=>by
 (replace hx:=Am hx;replace hy:=Am hy)
 obtain⟨e,inf,hu,hi,hk⟩:=Vn hT;simp[execOp,Ap,hx,hy,Instr.indexAt,asIntOf,run_underlying hu,h0,h1,sizeOf,typeInfo,hi,hk,BJ,Instr.sureAddr]
theorem Do {x:Operand} {y:Value} (hx:evo l x=some (.pointer (some (sla v m)))) (hs:∀u,C u->SlC u v n k flat) (hm:flat[m]? = some y) (hT:tk P T=some (false,z)):
  Det P C ⟨d,.load T x,ty,ps,af,g⟩ l y:=AX hT hx fun u hu=>(hs u hu).cell hm
theorem DX {x:Operand} {cs:List Value} (hx:evo l x=some (.pointer (some (sla v m)))) (hs:∀u,C u->SlC u v n k flat) (hm:∀j y,cs[j]? = some y->flat[m+j]? = some y)
  (hT:tk P T=some (true,cs.length)):Det P C ⟨d,.load T x,ty,ps,af,g⟩ l (.agg cs.toArray):=by
 refine FT hT hx fun u hu j y hy=>?_;have:=(hs u hu).cell (hm j y hy);unfold sla at this;rw[<-Nat.add_assoc]at this;exact this
theorem Ym (n s:Nat) (c:List Value) (hc:c.length=s):(Array.range (n*s)).map (c.toArray[· %c.toArray.size]!)=((List.replicate n c).flatten).toArray:=by
 apply Array.ext'
 simp only[Array.toList_map,Array.toList_range,List.size_toArray,hc]
 induction n with
 |zero=>simp
 |succ n ih=>
  rw[Nat.succ_mul,List.range_add,List.map_append,ih,List.replicate_succ',List.flatten_append];congr 1;simp only[List.map_map,List.flatten_cons,List.flatten_nil,List.append_nil]
  apply List.ext_getElem?
  intro i;simp only[List.getElem?_map]
  by_cases hi:i<s
  ·rw[List.getElem?_range hi];have h1:(n*s+i)%s=i:=by rw[Nat.add_comm,Nat.add_mul_mod_self_right,Nat.mod_eq_of_lt hi]
   simp only[Option.map_some,Function.comp_apply,h1];simp[hc,hi]
  rw[List.getElem?_eq_none (by simpa using Nat.le_of_not_lt hi),List.getElem?_eq_none (by omega)]
  rfl
theorem PG:∀(vs:List Value) (i:Nat) (pre:List Value),i=pre.length->(∀v∈vs,v.oneCell'=true)->
  ∀z:List Value,z.length=vs.length->Instr.fill (fun i=>some (i*1,1)) (pre++z).toArray ((vs.zipIdx i).map fun(v,j)=>(j,v))=some (pre++vs).toArray
 |[],_,_,_,_,z,hz=>by
  have:z=[]:=List.eq_nil_of_length_eq_zero (by simpa using hz);subst this;simp[Instr.fill]
 |v::vs,i,pre,hi,h1,z,hz=>by
  cases z with
  |nil=>simp at hz
  |cons y z=>
   have hv:v.cells = #[v]:=by have:=h1 v (by simp);cases v<;>simp_all [Value.cells,Value.oneCell']
   simp only[List.zipIdx_cons,List.map_cons,Instr.fill,hv];rw[if_neg (by simp;omega)];have:=PG vs (i+1) (pre++[v]) (by simp[hi]) (fun x hx=>h1 x (by simp[hx])) z (by simpa using hz);simp at this;subst hi
   simpa using this
theorem WS.makeSlice {e z:TypeId} {size:Nat} {x:Operand} {i:Nat} {n c:Int} (hT:sl P T=some (e,size,by_)) (hx:evo l x=some (.int .i64 n)) (hy:evo l y=some (.int .i64 c)) (hz:zv P e=some zc) (hzl:zc.length=size)
  (h0:0<=n) (hnc:n=c) (hb:(by_:Int)*n<=281474976710656) (hm:n<=9223372036854775807)
   (hl:∀v,lset l i v=some (l' v)) (k:∀v,WS P ro n0 w0 ds ops Q (osl e size v n.toNat (List.replicate n.toNat zc).flatten::L) rest (l' v)):
  WS P ro n0 w0 ds ops Q L (⟨some i,.makeSlice T x y,ty,ps,af,none⟩::rest) l:=by
 (replace hx:=Am hx;replace hy:=Am hy)
 subst hnc;refine WS.world rfl rfl fun u hu=>?_;obtain⟨inf,hu1,hi,hs,hby⟩:=BX hT;unfold zv at hz;rw[hi]at hz;cases hz2:inf.zero with
 |none=>simp[hz2]at hz
 |some zz=>
  simp[hz2]at hz;have hr:=run_make (P:=P) u T e inf zz hu1 hi hz2 .i64 .i64 n n h0 (Int.le_refl _) (by rw[hby];exact hb) hm;refine⟨_,_,by simp[execOp,hx,hy,hr];exact⟨rfl,rfl⟩,?_⟩;rw[AL,Aq (hl _)]
  have hcells:madeCells zz.cells (n.toNat*inf.size)=((List.replicate n.toNat zc).flatten).toArray:=by
   unfold madeCells;rw[hs];have h2:=Ym n.toNat size zc hzl;rw[<-hz]at h2⊢
   simpa using h2
  have hlen:((List.replicate n.toNat zc).flatten).length=n.toNat*size:=by simp[List.length_flatten,hzl]
  refine k (.slice (some ⟨u.heap.size,0,none⟩) n.toNat n.toNat) _ (hu.cons (T:=fun k=>k=u.heap.size) ((Below.refl _ u).alloc (Nat.le_refl _) _) ⟨?_,hlen,.inr ⟨u.heap.size,n.toNat,_,rfl,Nat.zero_le _,World.alloc_heap_new u _,Nat.le_refl _,?_,?_,?_⟩⟩ (fun k hk=>by omega))
  ·intro k;simp[Value.ownBlock];exact eq_comm
  ·simp only[maxLen];omega
  ·rw[hcells];simp[List.length_flatten,hzl]
  rw[hcells];simp only[List.toList_toArray];exact List.take_of_length_le (by rw[hlen];exact Nat.le_refl _)
theorem WS.buildSlice1 {e:TypeId} {i:Nat} (hT:sl P T=some (e,1,by_)) (hz:zv P e=some zc)
  (hp:(pl.map fun(j,x)=>(j,ev l x))=(vs.zipIdx).map fun(v,j)=>(j,v)) (hn:vs.length=n) (hn2:n<=16777216) (h1:∀v∈vs,v.oneCell'=true)
   (hl:∀v,lset l i v=some (l' v)) (k:∀v,WS P ro n0 w0 ds ops Q (osl e 1 v n vs::L) rest (l' v)):
  WS P ro n0 w0 ds ops Q L (⟨some i,.buildSlice T n pl.toArray,ty,ps,af,none⟩::rest) l:=by
 subst hn;refine WS.world rfl rfl fun u hu=>?_;obtain⟨inf,hu1,hi,hs,hby⟩:=BX hT;unfold zv at hz;rw[hi]at hz;cases hz2:inf.zero with
 |none=>simp[hz2]at hz
 |some zz=>
  simp[hz2]at hz;refine⟨.slice (some ⟨u.heap.size,0,none⟩) vs.length vs.length,u.alloc (.cells vs.toArray e),?_,?_⟩
  ·have hf:∀A:Array Value,A.size=vs.length->Instr.fill (fun i=>some (i,1)) A (List.map (fun x=>(x.fst,ev l x.snd)) pl)=some vs.toArray:=fun A hA=>by
    have:=PG vs 0 [] rfl h1 A.toList (by simpa using hA);rw[<-hp]at this
    simpa using this
   have hlim:¬(16777216<vs.length):=by omega
   by_cases h0:vs.length=0
   ·have h2:=hf (Array.map (fun _=>(default:Value)) (Array.range 0)) (by simp[h0]);simp[execOp,Instr.buildSlice,run_underlying hu1,sizeOf,typeInfo,hi,hs,h0,newRow,h2]
   have h2:=hf ((Array.range vs.length).map (zz.cells[· %zz.cells.size]!)) (by simp);simp[execOp,Instr.buildSlice,run_underlying hu1,sizeOf,typeInfo,hi,hs,h0,newRow,hlim,zeroValue,hz2,h2]
  rw[AL,Aq (hl _)];refine k _ _ (hu.cons (T:=fun k=>k=u.heap.size) ((Below.refl _ u).alloc (Nat.le_refl _) _) ⟨?_,by simp,.inr ⟨u.heap.size,vs.length,_,rfl,Nat.zero_le _,World.alloc_heap_new u _,Nat.le_refl _,?_,?_,?_⟩⟩ (fun k hk=>by omega))
  ·intro k;simp[Value.ownBlock];exact eq_comm
  ·simp only[maxLen];omega
  ·simp
  simp
theorem WS.append {e:TypeId} {size i:Nat} {x:Operand} {z:Value} {xs news:List Value} (hT:sl P T=some (e,size,by_)) (hz:zv P e=some zc) (hzl:zc.length=size) (hs0:0<size)
  (hx:evo l x=some (v)) (hj:L[j]? = some (osl e size v n xs)) (hy:evo l y=some (z)) (hnews:∀u,St n0 w0 L u->SlC u z m size news) (h1:∀a∈news,a.oneCell'=true)
  (hm:n+m<=9223372036854775807) (hb:(n+m)*by_<=140737488355328)
   (hl:∀v,lset l i v=some (l' v)) {L':Value->List SA} (hL:∀v',lset L j (osl e size v' (n+m) (xs++news))=some (L' v')) (k:∀v',WS P ro n0 w0 ds ops Q (L' v') rest (l' v')):
  WS P ro n0 w0 ds ops Q L (⟨some i,.call ⟨.builtin .append,#[x,y],#[T,T]⟩,ty,ps,af,none⟩::rest) l:=by
 (replace hx:=Am hx;replace hy:=Am hy)
 refine WS.world rfl rfl fun u hu=>?_;obtain⟨inf,hu1,hi,hs,hby⟩:=BX hT;unfold zv at hz;rw[hi]at hz;cases hz2:inf.zero with
 |none=>simp[hz2]at hz
 |some zz=>
  simp[hz2]at hz;obtain⟨S,hS,⟨hS1,hown⟩,hupd⟩:=hu.upd hj;have hml:n+m<=maxLen:=hm;obtain⟨hnl,p,cap,rfl,hcap,hz3⟩:=hnews u hu
  have fin:∀v' u',(Builtin.append_ #[T,T] ty #[v,.slice p m cap]).run P u = .ok v' u'->u'.ownsRow 0 e size v' (n+m) (xs++news)->u.grownBy u' v.ownBlock->(∀b,v'.ownBlock=some b->n0<=b/\(v.ownBlock=some b\/u.heap.size<=b))->
    ∃v u',(execOp (ev l) ⟨some i,.call ⟨.builtin .append,#[x,y],#[T,T]⟩,ty,ps,af,none⟩).run P u = .ok (.value v) u'/\wpListIn (FW ro) 0 P ops Q rest ((Act.mk l.toArray ds).put (some i) v) u':=by
   intro v' u' hr h2 h3 h4;refine⟨v',u',by simp[execOp,resolve,invoke,builtin,hx,hy,hr],?_⟩;rw[AL,Aq (hl _)];refine k v' u' (Aq (hL v')▸hupd u' _ (fun b=>v'.ownBlock=some b) ?_ ?_ ⟨fun b=>Iff.rfl,h2⟩ ?_)
   ·exact⟨h3.os,h3.tape,h3.output,h3.size,fun b hb=>h3.block b (by have:=hu.size;omega) fun e=>by have:=hS b ((hS1 b).2 e.symm);omega⟩
   ·intro b hb o hc;exact(h3.block b hb.2.1 fun e=>hb.2.2 ((hS1 b).2 e.symm)).trans hc
   intro b hb;obtain⟨ha,hb⟩:=h4 b hb;exact⟨ha,hb.imp (fun h=>(hS1 b).2 h) id⟩
  have hle:=hu.size
  replace hz3:(p=none/\m=0)\/∃a,p=some a/\∀j' x,news[j']? = some x->u.cell? (a.add j')=some x:=by
   rcases hz3 with rfl|⟨b,o,rfl,hc⟩
   ·have hn0:news=[]:=List.eq_nil_of_length_eq_zero (by omega);subst hn0;cases p with
    |none=>exact .inl ⟨rfl,rfl⟩
    |some a=>exact .inr ⟨a,rfl,by simp⟩
   exact .inr ⟨_,rfl,fun j' x hx=>by rw[BJ];exact hc j' x hx⟩
  rcases hz3 with⟨rfl,rfl⟩|⟨a,rfl,hc⟩
  ·have hn0:news=[]:=List.eq_nil_of_length_eq_zero (by omega);subst hn0;refine fin v u ?_ (by simpa using hown) ⟨rfl,rfl,rfl,Nat.le_refl _,fun _ _ _=>rfl⟩ (fun b hb=>⟨hS b ((hS1 b).2 hb),.inl hb⟩);rcases hown.2 with⟨rfl,rfl⟩|⟨b,cap',cur,rfl,hb0,hg,hn,_⟩
   ·simp[Builtin.append_,run_underlying hu1,sizeOf,typeInfo,hi,Builtin.lenOf,Builtin.firstCells]
   simp[Builtin.append_,run_underlying hu1,sizeOf,typeInfo,hi,Builtin.lenOf,Builtin.firstCells,hn,storeCells]
  obtain⟨v',u',hr,h2,h3,h4⟩:=run_append_own (P:=P) u 0 T ty e inf zz size by_ hu1 hi hz2 hs hby (by rw[<-hzl,<-hz];simp) hs0 v n xs hown a m cap news hnl hc h1 hml hb (Nat.zero_le _);refine fin v' u' hr h2 h3 fun b' hb'=>?_
  by_cases hlt:b'<u.heap.size
  ·by_cases hv:v.ownBlock=some b'
   ·exact⟨hS b' ((hS1 b').2 hv),.inl hv⟩
   exfalso;rcases hown.2 with⟨rfl,rfl⟩|⟨g,cap',cur,rfl,_,hg,hnc,hcm,hcs,htake⟩
   ·have hx0:xs=[]:=List.eq_nil_of_length_eq_zero (by simpa using hown.1);subst hx0;obtain⟨v2,u2,hr2,h22,h23,_⟩:=run_append_own (P:=P) u u.heap.size T ty e inf zz size by_ hu1 hi hz2 hs hby (by rw[<-hzl,<-hz];simp) hs0 _ 0 [] (World.ownsRow_nil u u.heap.size e size) a m cap news hnl hc h1 hml hb (Nat.le_refl _);rw[hr]at hr2
    injection hr2 with e1 e2
    subst e1;have:=(h22.lt b' hb').1;omega
   have hnews':=hc
   by_cases hroom:n+m<=cap'
   ·have hr2:=run_append_room (P:=P) u T ty e inf hu1 hi g n cap' cur hg a m cap news (by rw[hs];exact hnl) hnews' h1 hroom (by rw[hnl,hcs,hs,<-Nat.add_mul];exact Nat.mul_le_mul_right _ hroom);rw[hr]at hr2
    injection hr2 with e1 e2
    subst e1;exact hv hb'
   have holds:∀j u',xs[j]? = some u'->u.cell? ((⟨g,0,none⟩:Addr).add j)=some u':=hown.cells (g:=g) rfl;have hr2:=run_append_grow (P:=P) u T ty e inf zz hu1 hi hz2 ⟨g,0,none⟩ n cap' xs (by rw[hs];exact hown.1) holds a m cap news (by rw[hs];exact hnl) hnews' (by omega) (by omega) (growslice_fits (by omega) (by rw[hby];exact hb));rw[hr]at hr2
   injection hr2 with e1 e2
   subst e1;simp[Value.ownBlock]at hb';omega
  exact⟨by omega,.inr (by omega)⟩
end
def frame:List Value->Nat->Option (List Value)
 |_,0=>some []
 |[],n+1=>match frame [] n with
  |some r=>some (undef::r)
  |none=>none
 |v::vs,n+1=>match frame vs n with
  |some r=>some (v::r)
  |none=>none
theorem Ma:∀(n:Nat),frame [] n=some (List.replicate n undef)
 |0=>rfl
 |n+1=>by simp[frame,Ma n,List.replicate_succ]
theorem Gm:∀{vs:List Value} {n:Nat} {l:List Value},frame vs n=some l->vs.length<=n->vs++List.replicate (n-vs.length) undef=l
 |[],n,l,h,_=>by rw[Ma]at h;simp at h;simp[h]
 |v::vs,0,l,h,hn=>by simp at hn
 |v::vs,n+1,l,h,hn=>by
  unfold frame at h;split at h
  ·rename_i r hr;simp at h;subst h;have:=Gm hr (by simpa using hn);simp[<-this]
  simp at h
def RetF (w:World) (v:Value) (A:SA):Ending->World->Prop:=fun e w'=>e = .returned v/\Below w.heap.size w w'/\∃T,A.h T w'/\∀k,T k->w.heap.size<=k
variable {args:List Value}
variable {β:Type}
variable {K':Act->World->Prop}
section
variable {P:Program} {ro:Option Nat} {n0:Nat} {w0:World} {ds:List Deferred} {ops:Array Oper} {Q:Exit->Act->World->Prop} {L:List SA}
 {rest:List Oper} {l:List Value} {d:Option Tmp} {ty:TypeId} {ps:String} {af:Array Edge} {g:Option (Nat×Bool)} {C:World->Prop}
theorem enter {c:Code} (hf:P.funcs[f]? = some fn) (hb:fn.body=some c)
  (hl:frame args fn.ntmps=some l) (hn:args.length<=fn.ntmps) (h:CS P none w.heap.size w [] c (bodyPost P fn R) [] l):Calls P f args.toArray w R:=by
 refine(callsIn_wide (n:=0)).1 (callsIn_of_wp hf hb trivial ?_);have:=h w St.nil;rw[<-Gm hl hn]at this
 have e:(args++List.replicate (fn.ntmps-args.length) undef).toArray=args.toArray++Array.replicate (fn.ntmps-args.toArray.size) undef:=by
  apply Array.ext';simp
 rw[e]at this;exact this
theorem En {c:Code} (hf:P.funcs[f]? = some fn) (h:CS P none w.heap.size w [] c (bodyPost P fn R) [] l) (hb:fn.body=some c:=by exact rfl)
  (hl:frame args fn.ntmps=some l:=by exact rfl) (hn:args.length<=fn.ntmps:=by exact Nat.le_of_ble_eq_true rfl):Calls P f args.toArray w R:=enter hf hb hl hn h
theorem out0 {e:Exit} (he:e = .ret\/e = .normal) (hr:fn.results = #[]) (hR:∀u,St n0 w0 L u->R (.returned (.tuple #[])) u):QS n0 w0 [] (bodyPost P fn R) e L l:=fun u hu=>by
 rcases he with rfl|rfl<;>exact⟨rfl,_,results_none hr _ _ _,hR u hu⟩
theorem out1 {t:Nat} (hr:fn.results = #[.tmp t]) (hv:l[t]? = some v) (hR:∀u,St n0 w0 L u->R (.returned v) u):QS n0 w0 [] (bodyPost P fn R) .ret L l:=fun u hu=>by
 have h:=results_tmp hr l.toArray P u;simp[hv]at h;exact⟨rfl,_,h,hR u hu⟩
theorem out2 {t1 t2:Nat} {v1 v2:Value} (hr:fn.results = #[.tmp t1,.tmp t2]) (h1:l[t1]? = some v1) (h2:l[t2]? = some v2)
  (hR:∀u,St n0 w0 L u->R (.returned (.tuple #[v1,v2])) u):QS n0 w0 [] (bodyPost P fn R) .ret L l:=fun u hu=>by
 have h:=results_tmp2 hr l.toArray P u;simp[h1,h2]at h;exact⟨rfl,_,h,hR u hu⟩
theorem retB:∀u,St w0.heap.size w0 L u->RetB w0 v (.returned v) u:=fun _ hu=>⟨rfl,hu.below⟩
theorem Af {v':Value} (h:v'=v):∀u,St w0.heap.size w0 L u->RetB w0 v (.returned v') u:=fun _ hu=>⟨by rw[h],hu.below⟩
theorem retF (hj:L[j]? = some A):∀u,St w0.heap.size w0 L u->RetF w0 v A (.returned v) u:=fun _ hu=>
 ⟨rfl,hu.below,let⟨T,h1,h2⟩:=hu.get hj;⟨T,h2,h1⟩⟩
theorem SK {f:Operand} {args:List Operand} {fn:FuncId}
  (hf:evo l f=some (.func (.func fn) #[] cap.toArray)) (hv:evs l args=some vs) (he:Ent P fn)
  (hc:∀u,St n0 w0 L u->Calls P fn (vs++cap).toArray u (RetB u v)):
  Det P (St n0 w0 L) ⟨d,.call ⟨.value f,args.toArray,ts⟩,ty,ps,af,g⟩ l v:=
 P2 hc hf he hv
theorem WS.callF {f:Operand} {args:List Operand} {fn:FuncId} {v:β->Value} {A:β->SA} {p:β->Prop} {i:Nat} {l':β->List Value}
  (hf:evo l f=some (.func (.func fn) #[] cap.toArray)) (hv:evs l args=some vs) (he:Ent P fn)
  (hc:∀u,St n0 w0 L u->Calls P fn (vs++cap).toArray u (fun e u'=>∃x,p x/\RetF u (v x) (A x) e u'))
  (hl:∀x,lset l i (v x)=some (l' x)) (k:∀x,p x->WS P ro n0 w0 ds ops Q (A x::L) rest (l' x)):
  WS P ro n0 w0 ds ops Q L (⟨some i,.call ⟨.value f,args.toArray,ts⟩,ty,ps,af,none⟩::rest) l:=by
 intro u hu;unfold wpListIn;rw[if_pos (by simp[Region.wanted])];refine⟨fun _ _=>trivial,?_⟩;rw[Bl rfl,BA]
 have hr:(execOp (ev l) ⟨some i,.call ⟨.value f,args.toArray,ts⟩,ty,ps,af,none⟩).run P u = .ok (.enter fn (vs++cap).toArray) u:=by
  have h1:∀(args:Array Value) (w:World),Sem.run P (callFunc fn args) w = .ok (.enter fn args) w:=he;replace hf:=Am hf;replace hv:=Fi hv;subst hv;simp[execOp,hf,resolve,invoke,Deferred.ofValue,h1]
 rw[hr];refine⟨fun h=>by simp[FW]at h,CE ((hc u hu).mono ?_)⟩;rintro e u' ⟨x,hp,rfl,hb,T,hA,hT⟩;show wpListIn (FW ro) 0 P ops Q rest ((Act.mk l.toArray ds).put (some i) (v x)) u';rw[AL,Aq (hl x)];exact k x hp u' (hu.cons hb hA hT)
theorem Lk {o:Oper} (h:Det P (St n0 w0 L) o l v):∀u,St n0 w0 L u->o.quietAt P ⟨l.toArray,ds⟩ (St n0 w0 L) u v:=fun u hu=>by
 have h1:=h u hu;unfold Oper.quietAt;rw[BA]
 generalize (execOp (ev l) o).run P u=r at*
 cases r with
 |halt x w'=>simp only[Ap]at h1
 |ok n w'=>
  cases n<;>simp only[Ap]at h1
  ·exact h1
  obtain⟨e,hc⟩:=h1;exact⟨e,hc.mono fun _ _ ⟨h1,h2⟩=>⟨h1,hu.ext h2⟩⟩
def DS (P:Program) (n0:Nat) (w0:World) (ds:List Deferred) (ops:Array Oper) (Q:Exit->Act->World->Prop) (L:List SA) (rest:List Oper) (l:List Value):Prop:=
 wpQuiet P ops (St n0 w0 L) (fun a'=>∀u,St n0 w0 L u->Q .normal a' u) rest ⟨l.toArray,ds⟩
theorem DS.det {o:Oper} {d:Nat} (hd:o.dst=some d) (hg:o.guard=none) (h:Det P (St n0 w0 L) o l v)
  {l':List Value} (hl:lset l d v=some l') (k:DS P n0 w0 ds ops Q L rest l'):DS P n0 w0 ds ops Q L (o::rest) l:=by
 rw[<-Aq hl]at k;unfold DS wpQuiet;rw[if_pos (by simp[Region.wanted,hg])];refine⟨v,Lk h,?_⟩;rw[hd,AL];exact k
theorem DS.guard {o:Oper} {d:Nat} {g:Nat×Bool} (hd:o.dst=some d) (hg:o.guard=some g)
  (hb:(yielded ops l.toArray g.1 == some g.2)=b) (h:b=true->Det P (St n0 w0 L) o l v)
  {l':List Value} (hl:lset l d (cond b v undef)=some l') (k:DS P n0 w0 ds ops Q L rest l'):DS P n0 w0 ds ops Q L (o::rest) l:=by
 rw[<-Aq hl]at k;unfold DS wpQuiet
 have hw:Region.wanted o (yielded ops (Act.mk l.toArray ds).tmps)=b:=by
  obtain⟨j,want⟩:=g;simp only[Region.wanted,hg];exact hb
 rw[hw];cases b with
 |true=>
  rw[if_pos rfl];refine⟨v,Lk (h rfl),?_⟩;rw[hd,AL];exact k
 |false=>
  rw[if_neg (by simp)];rw[hd,AL];exact k
theorem DS.done (k:QS n0 w0 ds Q .normal L l):DS P n0 w0 ds ops Q L [] l:=k
theorem Qh {C:World->Prop} {o:Oper} {a:Act} {K:Act->Prop} (hc:calm o.op=true) (hw:C w) (h:∀a w',C w'->K a->K' a w') (hh:o.quiet P a C K):
  o.wpIn (FW ro) 0 P a w K' Q':=by
 obtain⟨v,h1,h2⟩:=hh;have h3:=h1 w hw;refine⟨fun _ _=>trivial,?_⟩;rw[Bl hc];unfold Oper.quietAt at h3
 generalize (execOp a.eval o).run P w=r at*
 cases r with
 |ok n w'=>
  cases n<;>simp only[Oper.quietUpon]at h3<;>simp only[Oper.uponIn]
  case value u=>
   obtain⟨e1,e2⟩:=h3;rw[e1,e2];exact h _ _ hw h2
  case skip=>
   obtain⟨e1,e2⟩:=h3;rw[e1,<-e2];exact h _ _ hw h2
  case enter f args=>
   obtain⟨e1,hc⟩:=h3;rw[e1];exact⟨fun h=>by simp[FW]at h,CE (hc.mono fun e w'' ⟨he,hw''⟩=>by subst he;exact h _ _ hw'' h2)⟩
 |halt x w'=>simp only[Oper.quietUpon]at h3
def Bh (ops:Array Oper):Bool:=ops.all fun o=>calm o.op
theorem CP (h:Bh ops=true) (j:Nat) (o:Oper) (ho:ops[j]? = some o):calm o.op=true:=by
 unfold Bh at h;rw[Array.all_eq_true]at h;obtain⟨hj,rfl⟩:=Array.getElem?_eq_some_iff.1 ho;exact h j hj
theorem U3 {C:World->Prop} {i:Nat} {a:Act} {K:Act->Prop} (hcalm:Bh ops=true) (hC:C w) (h:∀a w',C w'->K a->K' a w') (hh:qOp P ops C i K a):
  wpOpIn (FW ro) 0 P ops Q' i K' a w:=by
 unfold qOp at hh;unfold wpOpIn;split
 ·rename_i ho;simp only[ho]at hh;exact h _ _ hC hh
 rename_i o ho;simp only[ho]at hh;split
 ·rename_i hw;simp only[hw,if_true]at hh;exact Qh (CP hcalm _ _ ho) hC h hh
 rename_i hw;simp only[hw]at hh;exact⟨fun _ _=>trivial,h _ _ hC hh⟩
theorem Lv {C:World->Prop} {md:Region.Mode} {K:Act->Prop} {Q':Exit->Act->World->Prop} (hcalm:Bh ops=true) (hQ:∀a w,C w->K a->Q' .normal a w):∀(fuel:Nat) (listed:Array Bool) (a:Act) (w:World),C w->
  wpAnyQ P md ops C K fuel listed a->wpAnyIn (FW ro) 0 P md ops Q' fuel listed a w
 |0,_,_,_,hw,h=>⟨h.1,hQ _ _ hw h.2⟩
 |fuel+1,_,_,_,hw,h=>⟨fun h0=>hQ _ _ hw (h.1 h0),fun i hi=>U3 hcalm hw (fun a' w' hw'=>Lv hcalm hQ fuel _ a' w' hw') (h.2 i hi)⟩
theorem St.drew (h:St n0 w0 L u):St n0 w0 L {u with drawn:=u.drawn+1}:=h.ext ⟨rfl,rfl,rfl,Nat.le_refl _,fun _ _=>rfl⟩
theorem CS.draw {id:Nat} (hm:P.follows .mixedOrders=true) (hB:Region.lexB .any os.toArray=true) (hcalm:Bh os.toArray=true) (k:DS P n0 w0 ds os.toArray Q L os l):
  CS P ro n0 w0 ds (.region id os.toArray true) Q L l:=fun u hu=>by
 simp only[Region.lexB,Bool.and_eq_true]at hB;refine wpIn_region_any hm (Lv (C:=St n0 w0 L) (K:=fun a'=>∀u,St n0 w0 L u->Q .normal a' u) hcalm (fun _ w' hw' h=>h w' hw') _ _ _ _ hu.drew ?_);have:=wpAnyQ_lex (C:=St n0 w0 L) (md:=.any) (P:=P) hB.1 os 0 (Array.replicate os.toArray.size false) ⟨l.toArray,ds⟩ (by simp) (by simpa using hB.2) k
 simpa using this
end
theorem Nq {x:Operand} (hb:b=true) (h:evo l x=some (cond b v undef)):evo l x=some v:=by subst hb;exact h
theorem VY {x:Operand} {xs:List Operand} (h:evo l x=some v) (h2:evs l xs=some vs):evs l (x::xs)=some (v::vs):=by
 simp[evs,h,h2]
def HT:List (Option Value)->(Nat->Value)->Nat->Option (List Value)
 |[],_,_=>some []
 |some v::p,t,i=>match HT p t (i+1)with
  |some r=>some (v::r)
  |none=>none
 |none::p,t,i=>match HT p t (i+1)with
  |some r=>some (t i::r)
  |none=>none
theorem Ge:∀{p:List (Option Value)} {t:Nat->Value} {i:Nat} {l:List Value},HT p t i=some l->fill p t i=l
 |[],t,i,l,h=>by simp[HT]at h;subst h;rfl
 |some v::p,t,i,l,h=>by
  unfold HT at h;split at h
  ·rename_i r hr;simp at h;subst h;simp[fill,Ge hr]
  simp at h
 |none::p,t,i,l,h=>by
  unfold HT at h;split at h
  ·rename_i r hr;simp at h;subst h;simp[fill,Ge hr]
  simp at h
theorem NY:∀(p:List (Option Value)) (t:Nat->Value) (i:Nat),FM p (fill p t i)
 |[],_,_=>trivial
 |some _::p,t,i=>⟨rfl,NY p t (i+1)⟩
 |none::p,t,i=>NY p t (i+1)
theorem Jdp {p:List (Option Value)} {t:Nat->Value} (h:HT p t 0=some l):FM p l:=by
 rw[<-Ge h];exact NY p t 0
def pat (l:List Value) (dead:List Nat) (vals:List (Nat×Value)):List (Option Value):=named (mask l dead 0) vals
variable {fr:σ->(Nat->Value)->List Value}
section
variable {P:Program} {ro:Option Nat} {n0:Nat} {w0:World} {ds:List Deferred} {ops:Array Oper} {Q:Exit->Act->World->Prop} {L:List SA}
 {rest:List Oper} {l:List Value}
theorem WS.guardT {o:Oper} (hc:calm o.op=true) (hd:o.dst=some d) (hg:o.guard=some (j,true))
  (hb:yielded ops l.toArray j=some b) (h:b=true->Det P (St n0 w0 L) o l v) {l':List Value} (hl:lset l d (cond b v undef)=some l') (k:WS P ro n0 w0 ds ops Q L rest l'):WS P ro n0 w0 ds ops Q L (o::rest) l:=
 WS.guard hc hd hg (b:=b) (by rw[hb];cases b<;>rfl) h hl k
theorem WS.guardF {o:Oper} (hc:calm o.op=true) (hd:o.dst=some d) (hg:o.guard=some (j,false))
  (hb:yielded ops l.toArray j=some b) (h:(!b)=true->Det P (St n0 w0 L) o l v) {l':List Value} (hl:lset l d (cond (!b) v undef)=some l') (k:WS P ro n0 w0 ds ops Q L rest l'):WS P ro n0 w0 ds ops Q L (o::rest) l:=
 WS.guard hc hd hg (b:=!b) (by rw[hb];cases b<;>rfl) h hl k
theorem DS.guardT {o:Oper} (hd:o.dst=some d) (hg:o.guard=some (j,true))
  (hb:yielded ops l.toArray j=some b) (h:b=true->Det P (St n0 w0 L) o l v) {l':List Value} (hl:lset l d (cond b v undef)=some l') (k:DS P n0 w0 ds ops Q L rest l'):DS P n0 w0 ds ops Q L (o::rest) l:=
 DS.guard hd hg (b:=b) (by rw[hb];cases b<;>rfl) h hl k
theorem DS.guardF {o:Oper} (hd:o.dst=some d) (hg:o.guard=some (j,false))
  (hb:yielded ops l.toArray j=some b) (h:(!b)=true->Det P (St n0 w0 L) o l v) {l':List Value} (hl:lset l d (cond (!b) v undef)=some l') (k:DS P n0 w0 ds ops Q L rest l'):DS P n0 w0 ds ops Q L (o::rest) l:=
 DS.guard hd hg (b:=!b) (by rw[hb];cases b<;>rfl) h hl k
theorem Jp {s:Nat} {c x want:Bool} (hs:(ops[j]?).bind (·.dst)=some s) (hv:l[s]? = some (cond c (.bool x) undef)):(yielded ops l.toArray j == some want)=(c&&(x == want)):=by
 unfold yielded;rw[hs];have:l.toArray[s]? = some (cond c (.bool x) undef):=by simpa using hv
 simp only[Option.bind_some,this];cases c<;>cases x<;>cases want<;>rfl
theorem WS.guardN {o:Oper} {s:Nat} {c x want:Bool} (hc:calm o.op=true) (hd:o.dst=some d) (hg:o.guard=some (j,want))
  (hs:(ops[j]?).bind (·.dst)=some s) (hv:l[s]? = some (cond c (.bool x) undef)) (h:(c&&(x == want))=true->Det P (St n0 w0 L) o l v) {l':List Value} (hl:lset l d (cond (c&&(x == want)) v undef)=some l')
  (k:WS P ro n0 w0 ds ops Q L rest l'):WS P ro n0 w0 ds ops Q L (o::rest) l:=
 WS.guard hc hd hg (b:=c&&(x == want)) (Jp hs hv) h hl k
theorem DS.guardN {o:Oper} {s:Nat} {c x want:Bool} (hd:o.dst=some d) (hg:o.guard=some (j,want))
  (hs:(ops[j]?).bind (·.dst)=some s) (hv:l[s]? = some (cond c (.bool x) undef)) (h:(c&&(x == want))=true->Det P (St n0 w0 L) o l v) {l':List Value} (hl:lset l d (cond (c&&(x == want)) v undef)=some l')
  (k:DS P n0 w0 ds ops Q L rest l'):DS P n0 w0 ds ops Q L (o::rest) l:=
 DS.guard hd hg (b:=c&&(x == want)) (Jp hs hv) h hl k
theorem Jh2 {a:Bool} (h:(a&&b)=true):a=true:=by cases a<;>simp_all
def RG (n0:Nat) (w0:World) (ds:List Deferred) (l0:List Value) (dead:List Nat) (vals:σ->List (Nat×Value)) (M:σ->List SA) (I:σ->Prop) (a:Act) (u:World):Prop:=
 ∃s l',a=⟨l'.toArray,ds⟩/\FM (pat l0 dead (vals s)) l'/\St n0 w0 (M s) u/\I s
def rsL:List Nat->List Nat
 |a::b::t=>List.range' a (b+1-a)++rsL t
 |_=>[]
theorem CS.loopM {c:Code} (dead:List Nat) (vals:σ->List (Nat×Value)) (M:σ->List SA) (I:σ->Prop) (μ:σ->Nat) (s0:σ)
  (hfr:∀s t,HT (pat l dead (vals s)) t 0=some (fr s t)) (h0:HT (pat l dead (vals s0)) (fun i=>l.getD i undef) 0=some l) (hM:M s0=L) (hI:I s0)
  (round:∀s t,I s->CS P ro n0 w0 ds c (Exit.then (RG n0 w0 ds l dead vals M fun s'=>I s'/\μ s'<μ s) Q) (M s) (fr s t)):
  CS P ro n0 w0 ds (.loop c) Q L l:=by
 refine CS.loop (fun s=>pat l dead (vals s)) M I μ s0 (Jdp h0) hM hI fun s t hs=>?_;rw[Ge (hfr s t)];intro u hu;refine Go.wpIn_mono (round s t hs u hu) fun e a u h=>?_;cases e<;>exact h
theorem QS.head {l0:List Value} {dead:List Nat} {vals:σ->List (Nat×Value)} {M:σ->List SA} {I:σ->Prop} (s:σ)
  (hf:HT (pat l0 dead (vals s)) (fun i=>l.getD i undef) 0=some l) (hM:M s=L) (hI:I s):QS n0 w0 ds (Exit.then (RG n0 w0 ds l0 dead vals M I) Q) .normal L l:=fun u hu=>
 ⟨s,l,rfl,Jdp hf,hM▸hu,hI⟩
theorem CS.cut {x y:Code} (dead:List Nat) (vals:σ->List (Nat×Value)) (M:σ->List SA) (I:σ->Prop)
  (hfr:∀s t,HT (pat l dead (vals s)) t 0=some (fr s t))
  (hx:CS P ro n0 w0 ds x (Exit.then (RG n0 w0 ds l dead vals M I) Q) L l)
  (k:∀s t,I s->CS P ro n0 w0 ds y Q (M s) (fr s t)):CS P ro n0 w0 ds (.seq x y) Q L l:=by
 intro u hu;refine wpIn_seq (Go.wpIn_mono (hx u hu) fun e a u h=>?_);cases e<;>try exact h
 obtain⟨s,l',rfl,hf,hst,hI⟩:=h;obtain⟨t,rfl⟩:=hf.fill 0;rw[Ge (hfr s t)];exact k s t hI u hst
end
variable {oi:Oper}
section
variable {P:Program} {ro:Option Nat} {n0:Nat} {w0:World} {ds:List Deferred} {ops:Array Oper} {Q:Exit->Act->World->Prop} {L:List SA}
 {rest:List Oper} {l:List Value} {C:World->Prop}
def AH (P:Program) (ro:Option Nat) (ops:Array Oper) (Q:Exit->Act->World->Prop) (C:World->Prop):Nat->Array Bool->Act->World->Prop
 |0,listed,a,w=>∀u,Below w.heap.size w u->C u/\Region.ready .any ops listed=[]/\Q .normal a u
 |fuel+1,listed,a,w=>∀u,Below w.heap.size w u->C u/\(Region.ready .any ops listed=[]->Q .normal a u)/\
   ∀i∈Region.ready .any ops listed,wpOpIn (FW ro) 0 P ops Q i (AH P ro ops Q C fuel (listed.setIfInBounds i true)) a u
theorem AQ {a b c:World} (h:Below a.heap.size a b) (k:Below b.heap.size b c):Below a.heap.size a c:=h.trans (k.mono h.size)
theorem AH.ext:∀{fuel:Nat} {listed:Array Bool} {a:Act} {w u:World},AH P ro ops Q C fuel listed a w->Below w.heap.size w u->AH P ro ops Q C fuel listed a u
 |0,_,_,_,_,h,hb=>fun u' hb'=>h u' (AQ hb hb')
 |_+1,_,_,_,_,h,hb=>fun u' hb'=>h u' (AQ hb hb')
theorem AH.any:∀{fuel:Nat} {listed:Array Bool} {a:Act} {w:World},AH P ro ops Q C fuel listed a w->wpAnyIn (FW ro) 0 P .any ops Q fuel listed a w
 |0,_,_,w,h=>(h w (Below.refl _ _)).2
 |_+1,_,_,w,h=>⟨(h w (Below.refl _ _)).2.1,fun i hi=>wpOpIn_mono (fun _ _ h=>AH.any h) ((h w (Below.refl _ _)).2.2 i hi)⟩
def Yc (P:Program) (ops:Array Oper) (C:World->Prop) (o:Oper) (v:Value) (a:Act):Prop:=
 (Region.wanted o (yielded ops a.tmps)=true/\∀w,C w->Ap P w v ((execOp a.eval o).run P w))\/(Region.wanted o (yielded ops a.tmps)=false/\v=undef)
theorem Yc.of_same {o:Oper} {a a':Act} (hy:Yc P ops C o v a) (he:execOp a'.eval o=execOp a.eval o)
  (hw:Region.wanted o (yielded ops a'.tmps)=Region.wanted o (yielded ops a.tmps)):Yc P ops C o v a':=by
 unfold Yc at*;rw[he,hw];exact hy
theorem Yc.opIn {i:Nat} {o:Oper} {a:Act} (hi:ops[i]? = some o) (hcalm:calm o.op=true) (hy:Yc P ops C o v a) (hC:C w)
  (hK:∀u,Below w.heap.size w u->K (a.put o.dst v) u):wpOpIn (FW ro) 0 P ops Q i K a w:=by
 unfold wpOpIn;simp only[hi];rcases hy with⟨hw,hv⟩|⟨hw,rfl⟩
 ·rw[if_pos hw];refine⟨fun _ _=>trivial,?_⟩;rw[Bl hcalm];exact EB (hv w hC) hK
 rw[if_neg (by simp[hw])];exact⟨fun _ _=>trivial,hK w (Below.refl _ _)⟩
def Jii (ops:Array Oper) (a a':Act):Prop:=∀i:Nat,(∀o∈ops.toList,o.dst≠some i)->a'.tmps[i]? = a.tmps[i]?
def NP (ops:Array Oper) (Q:Exit->Act->World->Prop):Exit->Act->World->Prop
 | .panic ch,a,w=>∀a':Act,a'.defers=a.defers->Jii ops a a'->Q (.panic ch) a' w
 |e,a,w=>Q e a w
theorem NP.normal {a:Act} (h:Q .normal a w):NP ops Q .normal a w:=h
theorem NP.le:∀(e:Exit) (a:Act) (w:World),NP ops Q e a w->Q e a w:=fun e a w h=>by
 cases e<;>first|exact h|exact h a rfl fun _ _=>rfl
theorem Ij {i:Nat} {o:Oper} (h:ops[i]? = some o):o∈ops.toList:=List.mem_of_getElem? (by simpa using h)
theorem UC {a:Act} {d:Option Tmp} {i:Nat} (h:d≠some i):(a.put d v).tmps[i]? = a.tmps[i]?:=by
 cases d with
 |none=>rfl
 |some d=>exact Array.getElem?_setIfInBounds_ne fun e=>h (by rw[e])
theorem NP.put {ch:List PanicEntry} {a:Act} (hm:oi∈ops.toList) (h:NP ops Q (.panic ch) (a.put oi.dst v) w):NP ops Q (.panic ch) a w:=fun a' e k=>
 h a' (by rw[e];cases oi.dst<;>rfl) fun i hi=>(k i hi).trans (UC (hi oi hm)).symm
theorem FI {oj:Oper} (hm:oi∈ops.toList) (hj:ops[j]? = some oj) (hap:oi.apart ops oj=true) (hcalm:Bh ops=true) (hci:calm oi.op=true)
   {a:Act} (hy:Yc P ops C oi v a) (h:wpOpIn (FW ro) 0 P ops (NP ops Q) j K (a.put oi.dst v) w):
  wpOpIn (FW ro) 0 P ops (NP ops Q) j (fun a' w'=>Yc P ops C oi v a'/\K (a'.put oi.dst v) w') a w:=by
 have hsi:∀cs b,oi.op≠.select cs b:=fun cs b e=>by rw[e]at hci;cases hci
 have hcj:=CP hcalm j oj hj;have hsj:∀cs b,oj.op≠.select cs b:=fun cs b e=>by rw[e]at hcj;cases hcj
 obtain⟨h1,h2,h3⟩:=Oper.apart_spec hap
 have keep:∀(a:Act),Yc P ops C oi v a->∀u,Yc P ops C oi v (a.put oj.dst u):=fun a hy u=>
  hy.of_same (execOp_put oi hsi a oj.dst u h3) (wanted_put oi a oj.dst u h3)
 have keepD:∀d,Yc P ops C oi v {a with defers:=d::a.defers}:=fun d=>hy.of_same rfl rfl;unfold wpOpIn at*;simp only[hj]at*;rw[wanted_put oj a oi.dst v h1]at h;split
 ·rename_i hw;simp only[hw,if_true]at h;unfold Oper.wpIn at*;refine⟨fun _ _=>trivial,?_⟩;have h:=h.2;rw[Bl hcj,execOp_put oj hsj a oi.dst v h1]at h;rw[Bl hcj]
  generalize (execOp a.eval oj).run P w=r at*
  cases r with
  |ok x w'=>
   cases x<;>simp only[Oper.uponIn]at h⊢
   case value u=>exact⟨keep a hy u,by rw[<-Act.put_comm a v u h2];exact h⟩
   case skip=>exact⟨keep a hy _,by rw[<-Act.put_comm a v undef h2];exact h⟩
   case defer d=>
    refine⟨keep _ (keepD d) _,?_⟩;rw[<-Act.put_comm _ v undef h2,<-Act.put_defers];exact h
   case enter f args=>
    refine⟨h.1,CallsIn.mono h.2 fun e w'' he=>?_⟩;cases e with
    |returned u=>exact⟨keep a hy u,by rw[<-Act.put_comm a v u h2];exact he⟩
    |panicked c=>exact NP.put hm he
    |outgrown=>exact he
   case row row args=>exact⟨h.1,RowsIn.mono h.2 fun u w'' he=>⟨keep a hy u,by rw[<-Act.put_comm a v u h2];exact he⟩⟩
   case round l f tmps assign body=>
    refine⟨h.1,RoundIn.mono h.2 fun e w'' he=>?_⟩;cases e with
    |returned u=>exact⟨keep a hy u,by rw[<-Act.put_comm a v u h2];exact he⟩
    |panicked c=>exact NP.put hm he
    |outgrown=>exact he
  |halt x w'=>cases x<;>simp only[Oper.uponIn]at h⊢<;>first|exact h|exact NP.put hm h
 rename_i hw;simp only[hw]at h;exact⟨fun _ _=>trivial,keep a hy _,by rw[<-Act.put_comm a v undef h2];exact h.2⟩
theorem AH.holds:∀{fuel:Nat} {listed:Array Bool} {a:Act} {w:World},AH P ro ops Q C fuel listed a w->C w
 |0,_,_,w,h=>(h w (Below.refl _ _)).1
 |_+1,_,_,w,h=>(h w (Below.refl _ _)).1
theorem AH.first {i:Nat} (hi:ops[i]? = some oi) (hcalm:Bh ops=true):
  ∀(fuel:Nat) (listed:Array Bool) (a:Act) (w:World),
   (∀j oj,ops[j]? = some oj->j≠i->listed.getD j true=false->(∀e∈oj.after,Region.binds .any e=true->e.on≠i)->oi.apart ops oj=true)->
   i∈Region.ready .any ops listed->Yc P ops C oi v a->
   AH P ro ops (NP ops Q) C fuel (listed.setIfInBounds i true) (a.put oi.dst v) w->AH P ro ops (NP ops Q) C (fuel+1) listed a w:=by
 have hci:=CP hcalm i oi hi;intro fuel
 induction fuel with
 |zero=>
  intro listed a w _ hr hy H u hu;have Hu:=H.ext hu;refine⟨Hu.holds,fun h=>(by rw[h]at hr;cases hr),fun j hj=>?_⟩
  by_cases hji:j=i
  ·subst hji;exact hy.opIn hi hci Hu.holds fun u' hu'=>Hu.ext hu'
  have:=ready_mono hj hji;rw[(H u hu).2.1]at this;cases this
 |succ fuel ih=>
  intro listed a w hfree hr hy H u hu;have Hu:=H.ext hu;refine⟨Hu.holds,fun h=>(by rw[h]at hr;cases hr),fun j hj=>?_⟩
  by_cases hji:j=i
  ·subst hji;exact hy.opIn hi hci Hu.holds fun u' hu'=>Hu.ext hu'
  have h1:=(H u hu).2.2 j (ready_mono hj hji);obtain⟨hjun,oj,hoj,hall⟩:=mem_ready.1 hj
  have hnot:∀e∈oj.after,Region.binds .any e=true->e.on≠i:=fun e he hb heq=>by
   have h1:=hall e he hb;have h0:=(mem_ready.1 hr).1;rw[heq]at h1;rcases Nat.lt_or_ge i listed.size with h'|h'
   ·simp[h']at h0 h1;rw[h0]at h1;cases h1
   simp[Array.getElem?_eq_none h']at h1
  have h2:=FI (Ij hi) hoj (hfree j oj hoj hji hjun hnot) hcalm hci hy h1
  have hfree':∀k ok,ops[k]? = some ok->k≠i->(listed.setIfInBounds j true).getD k true=false->
    (∀e∈ok.after,Region.binds .any e=true->e.on≠i)->oi.apart ops ok=true:=fun k ok hk hki hun hno=>by
   refine hfree k ok hk hki ?_ hno
   by_cases hjk:j=k
   ·subst hjk;exact hjun
   rw[getD_set_ne true hjk]at hun;exact hun
  refine wpOpIn_mono (fun a' w' h3=>ih (listed.setIfInBounds j true) a' w' hfree' (ready_mono hr (Ne.symm hji)) h3.1 ?_) h2;rw[Array.setIfInBounds_comm _ _ hji];exact h3.2
def AS (P:Program) (ro:Option Nat) (n0:Nat) (w0:World) (ds:List Deferred) (ops:Array Oper) (Q:Exit->Act->World->Prop) (C:World->Prop) (L:List SA) (fuel:Nat) (bl:List Bool) (l:List Value):Prop:=
 ∀u,St n0 w0 L u->AH P ro ops (NP ops Q) C fuel bl.toArray ⟨l.toArray,ds⟩ u
variable {bl bl':List Bool} {fuel:Nat} {l':List Value}
theorem CS.drawn {id:Nat} (C:World->Prop) (hm:P.follows .mixedOrders=true) (hk:os.length=k) (h:AS P ro n0 w0 ds os.toArray Q C L k (List.replicate k false) l):
  CS P ro n0 w0 ds (.region id os.toArray true) Q L l:=fun u hu=>by
 subst hk;refine Go.wpIn_mono (wpIn_region_any hm ?_) (fun e a w=>NP.le (ops:=os.toArray) e a w);have:=(h _ hu.drew).any
 simpa using this
theorem AS.take (i:Nat) (hi:ops[i]? = some oi) (hcalm:Bh ops=true) (hf:Region.free .any ops bl.toArray i=true) (hr:(Region.ready .any ops bl.toArray).contains i=true)
  (hd:oi.dst=some d) (hg:oi.guard=none) (h:Det P C oi l v) (hb:lset bl i true=some bl') (hl:lset l d v=some l') (k:AS P ro n0 w0 ds ops Q C L fuel bl' l'):
  AS P ro n0 w0 ds ops Q C L (fuel+1) bl l:=fun u hu=>by
 rw[<-Aq hb,<-Aq hl]at k;refine AH.first hi hcalm fuel _ _ u (Region.free_spec hi hf) (by simpa using hr) (v:=v) (.inl ⟨by simp[Region.wanted,hg],?_⟩) ?_
 ·intro w hw;rw[BA];exact h w hw
 rw[hd,AL];have:=k u hu
 simpa using this
theorem AS.takeG (i:Nat) (hi:ops[i]? = some oi) (hcalm:Bh ops=true) (hf:Region.free .any ops bl.toArray i=true) (hr:(Region.ready .any ops bl.toArray).contains i=true)
  (hd:oi.dst=some d) (hg:oi.guard=some g) (hw:(yielded ops l.toArray g.1 == some g.2)=b) (h:b=true->Det P C oi l v) (hb:lset bl i true=some bl') (hl:lset l d (cond b v undef)=some l') (k:AS P ro n0 w0 ds ops Q C L fuel bl' l'):
  AS P ro n0 w0 ds ops Q C L (fuel+1) bl l:=fun u hu=>by
 rw[<-Aq hb,<-Aq hl]at k
 have hw':Region.wanted oi (yielded ops (Act.mk l.toArray ds).tmps)=b:=by
  obtain⟨j,want⟩:=g;simp only[Region.wanted,hg];exact hw
 refine AH.first hi hcalm fuel _ _ u (Region.free_spec hi hf) (by simpa using hr) (v:=cond b v undef) ?_ ?_
 ·cases b with
  |true=>exact .inl ⟨hw',fun w hC=>by rw[BA];exact h rfl w hC⟩
  |false=>exact .inr ⟨hw',rfl⟩
 rw[hd,AL];have:=k u hu
 simpa using this
theorem AS.takeT (i:Nat) (hi:ops[i]? = some oi) (hcalm:Bh ops=true) (hf:Region.free .any ops bl.toArray i=true) (hr:(Region.ready .any ops bl.toArray).contains i=true)
  (hd:oi.dst=some d) (hg:oi.guard=some (j,true)) (hw:yielded ops l.toArray j=some b) (h:b=true->Det P C oi l v) (hb:lset bl i true=some bl') (hl:lset l d (cond b v undef)=some l') (k:AS P ro n0 w0 ds ops Q C L fuel bl' l'):
  AS P ro n0 w0 ds ops Q C L (fuel+1) bl l:=AS.takeG i hi hcalm hf hr hd hg (b:=b) (by rw[hw];cases b<;>rfl) h hb hl k
theorem N3 {o:Oper} {a:Act} {J:Act->World->Prop} (h:o.uponIn (FW ro) 0 P a K (Exit.then J Q) r):o.uponIn (FW ro) 0 P a K Q r:=by
 cases r with
 |ok x w'=>cases x<;>exact h
 |halt x w'=>cases x<;>exact h
theorem BH {i:Nat} {o:Oper} {J:Act->World->Prop} (hi:ops[i]? = some o) (h:wpListIn (FW ro) 0 P ops (Exit.then J Q) [o] ⟨l.toArray,ds⟩ u):wpOpIn (FW ro) 0 P ops Q i J ⟨l.toArray,ds⟩ u:=by
 unfold wpOpIn;simp only[hi];unfold wpListIn at h;split
 ·rename_i hw;rw[if_pos hw]at h;exact⟨h.1,N3 (J:=J) h.2⟩
 rename_i hw;rw[if_neg hw]at h;exact h
theorem AS.one {i:Nat} {o:Oper} (hr:Region.ready .any ops bl.toArray=[i]) (hi:ops[i]? = some o) (hC:∀u,St n0 w0 L u->C u) (hb:lset bl i true=some bl')
  (h:WS P ro n0 w0 ds ops (Exit.then (AH P ro ops (NP ops Q) C fuel bl'.toArray) (NP ops Q)) L [o] l):AS P ro n0 w0 ds ops Q C L (fuel+1) bl l:=fun u hu u' hu'=>by
 have hst:=hu.ext hu';refine⟨hC _ hst,fun h0=>by rw[hr]at h0;simp at h0,fun j hj=>?_⟩;rw[hr]at hj;obtain rfl:j=i:=by simpa using hj
 have:=BH hi (h u' hst);rw[<-Aq hb]at this
 simpa using this
theorem AS.two {i:Nat} {o p:Oper} {bi bj:List Bool} (hr:Region.ready .any ops bl.toArray=[i,j]) (hi:ops[i]? = some o) (hj:ops[j]? = some p) (hC:∀u,St n0 w0 L u->C u) (hbi:lset bl i true=some bi) (hbj:lset bl j true=some bj)
  (h1:WS P ro n0 w0 ds ops (Exit.then (AH P ro ops (NP ops Q) C fuel bi.toArray) (NP ops Q)) L [o] l) (h2:WS P ro n0 w0 ds ops (Exit.then (AH P ro ops (NP ops Q) C fuel bj.toArray) (NP ops Q)) L [p] l):
  AS P ro n0 w0 ds ops Q C L (fuel+1) bl l:=fun u hu u' hu'=>by
 have hst:=hu.ext hu';refine⟨hC _ hst,fun h0=>by rw[hr]at h0;simp at h0,fun k hk=>?_⟩;rw[hr]at hk;simp at hk;rcases hk with rfl|rfl
 ·have:=BH hi (h1 u' hst);rw[<-Aq hbi]at this
  simpa using this
 have:=BH hj (h2 u' hst);rw[<-Aq hbj]at this
 simpa using this
theorem AS.done (hr:Region.ready .any ops bl.toArray=[]) (hC:∀u,St n0 w0 L u->C u) (k:QS n0 w0 ds Q .normal L l):AS P ro n0 w0 ds ops Q C L 0 bl l:=fun u hu u' hu'=>
 ⟨hC _ (hu.ext hu'),hr,k u' (hu.ext hu')⟩
theorem QS.then_AS {fuel:Nat} (k:AS P ro n0 w0 ds ops Q C L fuel bl l):QS n0 w0 ds (Exit.then (AH P ro ops (NP ops Q) C fuel bl.toArray) (NP ops Q)) .normal L l:=fun u hu=>k u hu
theorem Star.sub:∀{L L':List SA} {S:Nat->Prop} {u:World},L.Sublist L'->Star L' S u->Star L S u:=by
 intro L L' S u h
 induction h generalizing S with
 |slnil=>exact fun h=>h
 |cons A h ih=>rintro⟨T,hT,hA,hL⟩;exact(ih hL).keep (fun _ _ _ h=>h) fun _ h _=>h.1
 |cons_cons A h ih=>rintro⟨T,hT,hA,hL⟩;exact⟨T,hT,hA,ih hL⟩
def lera {α:Type}:List α->Nat->Option (List α)
 |[],_=>some []
 |_::l,0=>some l
 |x::l,n+1=>match lera l n with
  |some r=>some (x::r)
  |none=>none
theorem CS.drawnAll {id:Nat} {bl:List Bool} (hm:P.follows .mixedOrders=true) (hk:os.length=k) (hb:List.replicate k false=bl) (h:AS P ro n0 w0 ds os.toArray Q (St n0 w0 L) L k bl l):
  CS P ro n0 w0 ds (.region id os.toArray true) Q L l:=by subst hb;exact CS.drawn _ hm hk h
theorem CS.drawnBut (j:Nat) {L0:List SA} {id:Nat} {bl:List Bool} (hm:P.follows .mixedOrders=true) (hk:os.length=k) (hb:List.replicate k false=bl) (_hL:lera L j=some L0) (h:AS P ro n0 w0 ds os.toArray Q (St n0 w0 L0) L k bl l):
  CS P ro n0 w0 ds (.region id os.toArray true) Q L l:=by subst hb;exact CS.drawn _ hm hk h
theorem St.sub {L:List SA} (h:L.Sublist L') (hu:St n0 w0 L' u):St n0 w0 L u:=⟨hu.le,hu.below,hu.star.sub h⟩
end
def SlI (u:World) (v:Value) (xs:List Int):Prop:=SlC u v xs.length 1 (xs.map (Value.int .i64))
variable {α:Type}
def nth [Inhabited α] (xs:List α) (i:Int):α:=xs.getD i.toNat default
variable {xs:List Int}
theorem SlI.ext (h:SlI w v xs) (hb:Below w.heap.size w u):SlI u v xs:=SlC.ext h hb
theorem SlI.le (h:SlI u v xs):xs.length<=9223372036854775807:=SlC.le h
theorem SlI.st (h:SlI w0 v xs) (hu:St w0.heap.size w0 L u):SlI u v xs:=h.ext hu.below
theorem Ti {ys:List Int} (hl:xs.length=ys.length) (h:∀i:Int,0<=i->i<xs.length->nth xs i=nth ys i):xs=ys:=by
 apply List.ext_getElem hl
 intro i h1 h2;have:=h i (by omega) (by omega)
 simpa [nth,List.getD,h1,h2]using this
theorem Ai [Inhabited α] {xs:List α} (h0:0<=i) (h1:i<xs.length):nth xs i∈xs:=by
 have:i.toNat<xs.length:=by omega
 simp[nth,List.getD,this]
theorem Jcp [Inhabited α] {xs:List α} (h0:0<=i) (h1:i<xs.length):xs[i.toNat]? = some (nth xs i):=by
 have:i.toNat<xs.length:=by omega
 simp[nth,List.getD,this]
theorem Bz [Inhabited α] {xs:List α} {x:α} (h:x∈xs):∃i:Int,0<=i/\i<xs.length/\nth xs i=x:=by
 obtain⟨n,hn,rfl⟩:=List.getElem_of_mem h;exact⟨n,by omega,by omega,by simp[nth,List.getD,hn]⟩
def idxF (p:α->Bool) (xs:List α):Int:=match xs.findIdx? p with|some i=>i|none=> -1
variable {s:Int}
theorem AM [Inhabited α] {p:α->Bool} {xs:List α} (h0:0<=s) (h1:s<xs.length) (hb:∀j:Int,0<=j->j<s->p (nth xs j)=false) (hp:p (nth xs s)=true):idxF p xs=s:=by
 have hlt:s.toNat<xs.length:=by omega
 have:xs.findIdx? p=some s.toNat:=by
  rw[List.findIdx?_eq_some_iff_getElem];refine⟨hlt,by simpa [nth,List.getD,hlt]using hp,fun j hj=>?_⟩;have:=hb j (by omega) (by omega);have hj':j<xs.length:=by omega
  simpa [nth,List.getD,hj']using this
 simp[idxF,this];omega
theorem A2 [Inhabited α] {p:α->Bool} {xs:List α} (hb:∀j:Int,0<=j->j<xs.length->p (nth xs j)=false):idxF p xs = -1:=by
 have:xs.findIdx? p=none:=by
  rw[List.findIdx?_eq_none_iff];intro x hx;obtain⟨i,h0,h1,rfl⟩:=Bz hx;exact hb i h0 h1
 simp[idxF,this]
theorem BU {p:α->Bool} {xs:List α}:decide (0<=idxF p xs)=xs.any p:=by
 unfold idxF;cases h:xs.findIdx? p with
 |none=>
  rw[List.findIdx?_eq_none_iff]at h;have:xs.any p=false:=by simpa using h
  simp[this]
 |some i=>
  rw[List.findIdx?_eq_some_iff_getElem]at h;obtain⟨h1,h2,_⟩:=h;have:xs.any p=true:=List.any_eq_true.2 ⟨_,List.getElem_mem h1,h2⟩;simp[this]
theorem Yb {p:Prop} [Decidable p] (h:p):Value.bool true = .bool (decide p):=by simp[h]
theorem OR {p:Prop} [Decidable p] (h:¬p):Value.bool false = .bool (decide p):=by simp[h]
variable {xss:List (List Int)} {gs:List Value}
section
variable {P:Program} {ro:Option Nat} {n0:Nat} {w0:World} {ds:List Deferred} {ops:Array Oper} {Q:Exit->Act->World->Prop} {L:List SA}
 {rest:List Oper} {l:List Value} {d:Option Tmp} {ty:TypeId} {ps:String} {af:Array Edge} {g:Option (Nat×Bool)} {C:World->Prop}
theorem US {e:TypeId} {x:Operand} (hT:sl P T=some (e,1,by_)) (hx:evo l x=some v) (hy:evo l y=some (.int .i64 i))
  (hs:SlI w v xs) (h0:0<=i) (h1:i<xs.length):Det P C ⟨d,.indexAddr T x y,ty,ps,af,g⟩ l (.pointer (some (sla v i.toNat))):=by
 have:=DO (P:=P) (C:=C) (d:=d) (ty:=ty) (ps:=ps) (af:=af) (g:=g) hT hx hy hs h0 h1
 rwa [Nat.mul_one]at this
theorem Ui (h:0<=i/\i<xs.length):(xs.map (Value.int .i64))[i.toNat]? = some (.int .i64 (nth xs i)):=by
 have:i.toNat<xs.length:=by omega
 simp[nth,List.getD,this]
theorem ZL [Inhabited α] {xs:List α} (h:0<=i/\i<xs.length):xs[i.toNat]? = some (nth xs i):=Jcp h.1 h.2
theorem Yy {x:Operand} (hx:evo l x=some (.pointer (some (sla v i.toNat)))) (hs:SlI w0 v xs) (h:0<=i/\i<xs.length) (hT:tk P T=some (false,z)):
  Det P (St w0.heap.size w0 L) ⟨d,.load T x,ty,ps,af,g⟩ l (.int .i64 (nth xs i)):=
 Do hx (fun _ hu=>SlC.st hs hu) (Ui h) hT
def BlkAt (u:World) (b:Nat) (c:List Value) (e:TypeId):Prop:=u.heap[b]? = some (.cells c.toArray e (0,0))
theorem BlkAt.lt {b:Nat} {e:TypeId} (h:BlkAt u b c e):b<u.heap.size:=(Array.getElem?_eq_some_iff.1 h).1
theorem BlkAt.ext {b:Nat} {e:TypeId} (h:BlkAt w b c e) (hb:Below w.heap.size w u):BlkAt u b c e:=(hb.block b h.lt).trans h
theorem BlkAt.st {b:Nat} {e:TypeId} (h:BlkAt w0 b c e) (hu:St w0.heap.size w0 L u):BlkAt u b c e:=h.ext hu.below
theorem AN {b:Nat} {e:TypeId} (h:St n0 w0 L u) (hj:L[j]? = some (blk b c e)):BlkAt u b c e:=(h.blk hj).2
theorem Gl {x:Operand} {b i:Nat} {e:TypeId} (hx:evo l x=some (.pointer (some ⟨b,i,none⟩))) (hb:BlkAt w0 b c e) (hv:c[i]? = some v) (hT:tk P T=some (false,k)):
  Det P (St w0.heap.size w0 L) ⟨d,.load T x,ty,ps,af,g⟩ l v:=AX hT hx fun _ hu=>by rw[BT (hb.st hu)];exact hv
theorem CF {x:Operand} {b:Nat} {e:TypeId} (hx:evo l x=some (.pointer (some ⟨b,0,none⟩))) (hb:BlkAt w0 b c e) (hn:c.length=n) (hT:tk P T=some (true,n)):
  Det P (St w0.heap.size w0 L) ⟨d,.load T x,ty,ps,af,g⟩ l (.agg c.toArray):=FT (hn▸hT) hx fun _ hu j v hj=>by rw[Nat.zero_add,BT (hb.st hu)];exact hj
structure SlL (u:World) (v:Value) (xss:List (List Int)) (gs:List Value):Prop where
 sp:SlC u v xss.length 1 gs
 el:∀i:Int,0<=i->i<xss.length->SlI u (nth gs i) (nth xss i)
theorem SlL.ext (h:SlL w v xss gs) (hb:Below w.heap.size w u):SlL u v xss gs:=⟨h.sp.ext hb,fun i h0 h1=>(h.el i h0 h1).ext hb⟩
theorem SlL.st (h:SlL w0 v xss gs) (hu:St w0.heap.size w0 L u):SlL u v xss gs:=h.ext hu.below
theorem SlL.le (h:SlL u v xss gs):xss.length<=9223372036854775807:=h.sp.le
theorem V4 {e:TypeId} {x:Operand} (hT:sl P T=some (e,1,by_)) (hx:evo l x=some v) (hy:evo l y=some (.int .i64 i))
  (hs:SlL w v xss gs) (h0:0<=i) (h1:i<xss.length):Det P C ⟨d,.indexAddr T x y,ty,ps,af,g⟩ l (.pointer (some (sla v i.toNat))):=by
 have:=DO (P:=P) (C:=C) (d:=d) (ty:=ty) (ps:=ps) (af:=af) (g:=g) hT hx hy hs.sp h0 h1
 rwa [Nat.mul_one]at this
theorem Zq {x:Operand} (hx:evo l x=some (.pointer (some (sla v i.toNat)))) (hs:SlL w0 v xss gs) (h:0<=i/\i<xss.length) (hT:tk P T=some (false,z)):
  Det P (St w0.heap.size w0 L) ⟨d,.load T x,ty,ps,af,g⟩ l (nth gs i):=
 Do hx (fun _ hu=>hs.sp.st hu) (ZL ⟨h.1,by have:=hs.sp.len;omega⟩) hT
theorem SlL.two {v1 v2:Value} {ys:List Int} (h:SlC u v 2 1 [v1,v2]) (h1:SlI u v1 xs) (h2:SlI u v2 ys):SlL u v [xs,ys] [v1,v2]:=
 ⟨h,fun i h0 hi=>by
  simp at hi;rcases(by omega:i=0\/i=1)with rfl|rfl
  ·exact h1
  exact h2⟩
theorem SlL.one {v1:Value} (h:SlC u v 1 1 [v1]) (h1:SlI u v1 xs):SlL u v [xs] [v1]:=
 ⟨h,fun i h0 hi=>by
  simp at hi;obtain rfl:i=0:=by omega
  exact h1⟩
end
def plc (P:Program) (T:TypeId):Option (List (Nat×Nat)):=
 match P.underlying T with
 |some (.struct fs)=>fs.toList.mapM fun f=>(P.info? f.type).map fun i=>(f.offset,i.size)
 |_=>none
def bld (pls:List (Nat×Nat)):List Value->List (Nat×Value)->Option (List Value)
 |z,[]=>some z
 |z,(i,v)::r=>match pls[i]? with
  |some (o,1)=>if o<z.length then(match lset z o v with|some z'=>bld pls z' r|none=>none)else none
  |_=>none
def evp (l:List Value):List (Nat×Operand)->Option (List (Nat×Value))
 |[]=>some []
 |(i,x)::r=>match evo l x,evp l r with
  |some v,some vs=>some ((i,v)::vs)
  |_,_=>none
theorem Ud {l:List Value}:∀{xs:List (Nat×Operand)} {vs:List (Nat×Value)},evp l xs=some vs->xs.map (fun(i,x)=>(i,ev l x))=vs
 |[],vs,h=>by simp[evp]at h;simp[h]
 |(i,x)::xs,vs,h=>by
  unfold evp at h;split at h
  ·rename_i v vs' h1 h2;simp at h;subst h;have:=Ud h2;simp at this;simp[Am h1,this]
  simp at h
theorem Px (pls:List (Nat×Nat)):∀(ps:List (Nat×Value)) (z cs:List Value),bld pls z ps=some cs->(∀p∈ps,p.2.oneCell'=true)->Instr.fill (pls.toArray[·]?) z.toArray ps=some cs.toArray
 |[],z,cs,h,_=>by simp[bld]at h;subst h;simp[Instr.fill]
 |(i,v)::ps,z,cs,h,h1=>by
  have hv:v.cells = #[v]:=by have:=h1 (i,v) (by simp);cases v<;>simp_all [Value.cells,Value.oneCell']
  unfold bld at h;split at h
  ·rename_i o ho;split at h
   ·rename_i hlt;split at h
    ·rename_i z' hz;have:=Px pls ps z' cs h (fun p hp=>h1 p (by simp[hp]));rw[<-Aq hz]at this;simp only[Instr.fill,hv];simp[ho];exact⟨by omega,by simpa using this⟩
    simp at h
   simp at h
  simp at h
theorem KF {P:Program} {w:World}:∀(fs:List Field) (r:List (Nat×Nat)),fs.mapM (fun f=>(P.info? f.type).map fun i=>(f.offset,i.size))=some r->
  (fs.mapM fun f=>do pure (f.offset,<-sizeOf f.type):Sem (List (Nat×Nat))).run P w = .ok r w
 |[],r,h=>by simp at h;subst h;simp
 |f::fs,r,h=>by
  simp only[List.mapM_cons]at h;cases hi:P.info? f.type with
  |none=>simp[hi]at h
  |some i=>
   cases hr:fs.mapM (fun f=>(P.info? f.type).map fun i=>(f.offset,i.size))with
   |none=>simp[hi,hr]at h
   |some r'=>
    simp[hi,hr]at h;subst h;have:=KF (w:=w) fs r' hr;simp only[List.mapM_cons];simp[sizeOf,typeInfo,hi]at this⊢;simp[this]
variable {lo hi:Nat}
section
variable {P:Program} {ro:Option Nat} {n0:Nat} {w0:World} {ds:List Deferred} {ops:Array Oper} {Q:Exit->Act->World->Prop} {L:List SA}
 {rest:List Oper} {l:List Value} {d:Option Tmp} {ty:TypeId} {ps:String} {af:Array Edge} {g:Option (Nat×Bool)} {C:World->Prop}
theorem Qy {pls:List (Nat×Nat)} {z cs:List Value} {parts:List (Nat×Value)} (hp:plc P T=some pls) (hz:zv P T=some z) (hv:evp l pl=some parts)
  (hb:bld pls z parts=some cs) (h1:∀p∈parts,p.2.oneCell'=true):Det P C ⟨d,.build T pl.toArray,ty,ps,af,g⟩ l (.agg cs.toArray):=fun u _=>by
 have hf:=Px pls parts z cs hb h1;replace hv:=Ud hv;subst hv;unfold plc at hp;split at hp
 ·rename_i fs hu;unfold zv at hz;cases hi:P.info? T with
  |none=>simp[hi]at hz
  |some inf=>
   cases hz2:inf.zero with
   |none=>simp[hi,hz2]at hz
   |some zz=>
    simp[hi,hz2]at hz;have hm:=KF (P:=P) (w:=u) fs.toList pls hp
    have hm2:(fs.mapM fun f=>do pure (f.offset,<-sizeOf f.type):Sem (Array (Nat×Nat))).run P u = .ok pls.toArray u:=by
     rw[Array.mapM_eq_mapM_toList];simp at hm;simp[hm]
    have hzc:zz.cells=z.toArray:=by rw[<-hz]
    simp[execOp,Ap,Instr.build,zeroValue,typeInfo,hi,hz2,run_underlying hu];simp at hm2;simp[hm2,hzc];simp at hf;simp[hf]
 simp at hp
theorem WS.storeW {x:Operand} {b:Nat} {e:TypeId} (hx:evo l x=some (.pointer (some ⟨b,0,none⟩))) (hj:L[j]? = some (blk b c e)) (hy:evo l y=some (.agg vs.toArray)) (hn:vs.length=c.length)
  (h1:∀v∈vs,v.oneCell'=true) (hT:tk P T=some (true,n)) (hnn:vs.length=n) (hL:lset L j (blk b vs e)=some L') (k:WS P ro n0 w0 ds ops Q L' rest l):
  WS P ro n0 w0 ds ops Q L (⟨none,.store T x y,ty,ps,af,none⟩::rest) l:=by
 subst hnn;rw[<-Aq hL]at k;replace hx:=Am hx;replace hy:=Am hy;refine WS.world_skip rfl rfl rfl fun u hu=>?_;obtain⟨S,hS,⟨hS1,hb⟩,hupd⟩:=hu.upd hj;have hst:=run_storeCells_at P b 0 e vs 0 c.toArray u hb (by simp[hn]) h1;refine⟨u.setRow b vs.toArray,?_,?_⟩
 ·simp only[Nat.add_zero]at hst;have e2:(c.toArray.toList.take 0++vs++c.toArray.toList.drop (0+vs.length)).toArray=vs.toArray:=by simp[hn]
  rw[e2]at hst;simp[execOp,hx,hy,Instr.storeAt,Instr.sureAddr,storeVar,(CV hT u).2,Value.cells,hst]
 refine k _ (hupd _ _ (fun k=>k=b) ⟨rfl,rfl,rfl,by simp,fun k hk=>setRow_other u b k _ (fun e=>by have:=hS b ((hS1 b).2 rfl);omega)⟩ (fun k hk o' hcell=>?_) ⟨fun k=>Iff.rfl,?_⟩ (fun k hk=>by subst hk;exact⟨hS _ ((hS1 _).2 rfl),.inl ((hS1 _).2 rfl)⟩))
 ·rw[setRow_other u b k _ (fun e=>hk.2.2 ((hS1 k).2 e))];exact hcell
 exact setRow_heap u b c.toArray vs.toArray e _ hb
def subs:Value->Nat->Nat->Value
 | .slice p _ c,lo,hi=>.slice (if c=lo then p else p.map (·.add lo)) (hi-lo) (c-lo)
 |v,_,_=>v
theorem SlI.sub (h:SlI u v xs) (h0:lo<=hi) (h1:hi<=xs.length):SlI u (subs v lo hi) ((xs.drop lo).take (hi-lo)):=by
 obtain⟨hl,p,cap,rfl,hc,hp⟩:=h;have e:((xs.drop lo).take (hi-lo)).length=hi-lo:=by simp;omega
 refine⟨by simp,_,_,by rw[e];rfl,by omega,?_⟩;rcases hp with hn|⟨b,o,rfl,hcell⟩
 ·left;omega
 by_cases hcl:cap=lo
 ·right;refine⟨b,o,by rw[if_pos hcl],fun m x hm=>?_⟩;exfalso;have:((xs.drop lo).take (hi-lo)).length=0:=by omega
  rw[List.length_eq_zero_iff.1 this]at hm;simp at hm
 right;refine⟨b,o+lo,by rw[if_neg hcl];simp[BJ],fun m x hm=>?_⟩;rw[List.map_take,List.map_drop,List.getElem?_take]at hm;split at hm
 ·rw[List.getElem?_drop]at hm;rw[Nat.add_assoc];exact hcell (lo+m) x hm
 simp at hm
theorem W0 {e:TypeId} {x z:Operand} {lo hi:Int} (hT:sl P T=some (e,1,by_)) (hx:evo l x=some v) (hy:evo l y=some (.int .i64 lo)) (hz:evo l z=some (.int .i64 hi))
  (hs:SlI w v xs) (h0:0<=lo) (h1:lo<=hi) (h2:hi<=xs.length):Det P C ⟨d,.slice T x (some y) (some z) none,ty,ps,af,g⟩ l (subs v lo.toNat hi.toNat):=fun u _=>by
 obtain⟨inf,hu,hi',hk,_⟩:=BX hT;obtain⟨_,p,cap,rfl,hc,_⟩:=hs;replace hx:=Am hx;replace hy:=Am hy;replace hz:=Am hz;have e1:(0<=hi/\hi<=(cap:Int)):=by omega
 have e2:(0<=lo/\lo<=((hi.toNat:Nat):Int)):=by omega
 have e3:lo<=max hi 0:=by omega
 simp[execOp,Ap,hx,hy,hz,Instr.sliceAt,Instr.slice,Instr.sliceBounds,Instr.sliceBound,asIntOf,run_underlying hu,e1,e2,e3,sizeOf,typeInfo,hi',hk,subs]
end
theorem KeepC.lt (h:KeepC S u u') (hS:S k) (hk:k<u.heap.size):k<u'.heap.size:=by
 have:=h k hS u.heap[k] (by simp[hk]);exact(Array.getElem?_eq_some_iff.1 this).1
def recd (l:Nat) (o:Obj):SA where
 h S u:=(∀k,S k↔k=l)/\u.heap[l]? = some o
 loc S u u' h hk:=⟨h.1,hk l ((h.1 l).2 rfl) _ h.2⟩
 dom S u k h hS:=by
  obtain⟨h1,h2⟩:=h;rw[(h1 k).1 hS];exact(Array.getElem?_eq_some_iff.1 h2).1
def star (L:List SA):SA where
 h S u:=Star L S u/\∀k,S k->k<u.heap.size
 loc S u u' h hk:=⟨h.1.keep hk (fun k h _=>h),fun k hS=>hk.lt hS (h.2 k hS)⟩
 dom S u k h hS:=h.2 k hS
def fact (p:Prop):SA where
 h S u:=p/\∀k,¬S k
 loc S u u' h _:=h
 dom S u k h hS:=(h.2 k hS).elim
def exS (f:β->SA):SA where
 h S u:=∃b,(f b).h S u
 loc S u u' h hk:=let⟨b,hb⟩:=h;⟨b,(f b).loc S u u' hb hk⟩
 dom S u k h hS:=let⟨b,hb⟩:=h;(f b).dom S u k hb hS
theorem Star.sup {S':Nat->Prop} (h:Star L S u) (hs:∀k,S k->S' k):Star L S' u:=h.keep (fun _ _ _ h=>h) fun k hk _=>hs k hk
theorem Star.perm (h:L.Perm L'):∀{S:Nat->Prop} {u:World},Star L S u->Star L' S u:=by
 induction h with
 |nil=>exact fun h=>h
 |cons A _ ih=>rintro S u ⟨T,hT,hA,hL⟩;exact⟨T,hT,hA,ih hL⟩
 |swap A B L=>
  rintro S u ⟨T,hT,hA,T',hT',hB,hL⟩;exact⟨T',fun k h=>(hT' k h).1,hB,T,fun k h=>⟨hT k h,fun h'=>(hT' k h').2 h⟩,hA,hL.sup fun k h=>⟨⟨h.1.1,h.2⟩,h.1.2⟩⟩
 |trans _ _ i1 i2=>exact fun h=>i2 (i1 h)
theorem Star.split:∀{L1 L2:List SA} {S:Nat->Prop} {u:World},Star (L1++L2) S u->Star (star L1::L2) S u
 |[],L2,S,u,h=>⟨fun _=>False,fun _ h=>h.elim,⟨trivial,fun _ h=>h.elim⟩,h.sup fun k h=>⟨h,fun h=>h⟩⟩
 |A::L1,L2,S,u,⟨T0,hT0,hA,hL⟩=>by
  obtain⟨T1,h1,h2,h3⟩:=Star.split hL;refine⟨fun k=>T0 k\/T1 k,?_,⟨⟨T0,fun k h=>.inl h,hA,h2.1.sup fun k h=>⟨.inr h,(h1 k h).2⟩⟩,?_⟩,h3.sup fun k h=>⟨h.1.1,?_⟩⟩
  ·rintro k (h|h)
   ·exact hT0 k h
   exact(h1 k h).1
  ·rintro k (h|h)
   ·exact A.dom _ _ _ hA h
   exact h2.2 k h
  rintro(h'|h')
  ·exact h.1.2 h'
  exact h.2 h'
theorem Star.join:∀{L1 L2:List SA} {S T:Nat->Prop} {u:World},Star L1 T u->(∀k,T k->S k)->Star L2 (fun k=>S k/\¬T k) u->Star (L1++L2) S u
 |[],L2,S,T,u,_,_,h=>h.sup fun _ h=>h.1
 |A::L1,L2,S,T,u,⟨T0,hT0,hA,hL⟩,hS,h=>⟨T0,fun k h=>hS k (hT0 k h),hA,
   Star.join hL (fun k h=>⟨hS k h.1,h.2⟩) (h.sup fun k h=>⟨⟨h.1,fun h0=>h.2 (hT0 k h0)⟩,fun h'=>h.2 h'.1⟩)⟩
variable {L1 L2:List SA}
theorem Star.unsplit:Star (star L1::L2) S u->Star (L1++L2) S u:=
 fun⟨_,h1,h2,h3⟩=>Star.join h2.1 h1 h3
section
variable {n0:Nat} {w0:World} {u:World}
theorem St.perm (h:St n0 w0 L u) (hp:L.Perm L'):St n0 w0 L' u:=⟨h.le,h.below,h.star.perm hp⟩
theorem St.pack (h:St n0 w0 (L1++L2) u):St n0 w0 (YtllebkdchemabaaGreatDoor.star L1::L2) u:=⟨h.le,h.below,h.star.split⟩
theorem St.unpack (h:St n0 w0 (YtllebkdchemabaaGreatDoor.star L1::L2) u):St n0 w0 (L1++L2) u:=⟨h.le,h.below,h.star.unsplit⟩
theorem St.tail (h:St n0 w0 (A::L) u):St n0 w0 L u:=h.erase 0
theorem St.ex {f:β->SA} (h:St n0 w0 (exS f::L) u):∃b,St n0 w0 (f b::L) u:=by
 obtain⟨h1,h2,T,h3,⟨b,hb⟩,h4⟩:=h;exact⟨b,h1,h2,T,h3,hb,h4⟩
theorem St.exI {f:β->SA} (b:β) (h:St n0 w0 (f b::L) u):St n0 w0 (exS f::L) u:=by
 obtain⟨h1,h2,T,h3,hb,h4⟩:=h;exact⟨h1,h2,T,h3,⟨b,hb⟩,h4⟩
theorem St.factI {p:Prop} (hp:p) (h:St n0 w0 L u):St n0 w0 (fact p::L) u:=
 ⟨h.le,h.below,fun _=>False,fun _ h=>h.elim,⟨hp,fun _ h=>h⟩,h.star.sup fun _ h=>⟨h,fun h=>h⟩⟩
theorem St.factE {p:Prop} (hj:L[j]? = some (fact p)) (h:St n0 w0 L u):p:=by
 obtain⟨T,_,h2⟩:=h.get hj;exact h2.1
theorem St.rec_ {l:Nat} {o:Obj} (hj:L[j]? = some (recd l o)) (h:St n0 w0 L u):n0<=l/\u.heap[l]? = some o:=by
 obtain⟨T,h1,h2⟩:=h.get hj;exact⟨h1 l ((h2.1 l).2 rfl),h2.2⟩
theorem St.allocRec (h:St n0 w0 L u) (o:Obj):St n0 w0 (recd u.heap.size o::L) (u.alloc o):=by
 refine h.cons (T:=fun k=>k=u.heap.size) ((Below.refl _ u).alloc (Nat.le_refl _) _) ⟨fun k=>Iff.rfl,?_⟩ (fun k hk=>by omega);exact World.alloc_heap_new u _
theorem St.putRec {l:Nat} {o:Obj} (h:St n0 w0 L u) (hj:L[j]? = some (recd l o)) (o':Obj):St n0 w0 (L.set j (recd l o')) (u.putObj l o'):=by
 obtain⟨T,hT,⟨hS,hb⟩,hc⟩:=h.upd hj;have hl:=hT l ((hS l).2 rfl)
 refine hc _ _ (fun k=>k=l) ⟨rfl,rfl,rfl,by simp,fun k hk=>World.putObj_heap_other (by omega)⟩ (fun k hk o'' ho=>?_) ⟨fun k=>Iff.rfl,World.putObj_heap_same (Array.getElem?_eq_some_iff.1 hb).1⟩
  (fun k hk=>by subst hk;exact⟨hl,.inl ((hS _).2 rfl)⟩)
 rw[World.putObj_heap_other (fun e=>hk.2.2 ((hS k).2 e))];exact ho
end
variable {X:Type}
def Iter (P:Program) (w0:World) (g:FuncId) (lb:List Value) (A:List SA) (lend:Value->X->SA) (all:List X):Prop:=
 ∀(lp:Nat) (C Cx:List X->SA),
  (∀pre x post,all=pre++x::post->∀(F:SA) (v:Value) (u:World),St w0.heap.size w0 [C pre,lend v x,F] u->
   YieldAt (FW none) 0 P lp #[v] u fun e u'=>(e = .returned (.bool true)/\St w0.heap.size w0 [C (pre++[x]),lend v x,F] u')\/
    (e = .returned (.bool false)/\St w0.heap.size w0 [Cx (pre++[x]),lend v x,F] u'))->
  ∀u,St w0.heap.size w0 (C []::A) u->
   Calls P g (.func (.yield lp) #[] #[]::lb).toArray u fun e u'=>(∃v,e = .returned v)/\
    (St w0.heap.size w0 (C all::A) u'\/∃pre x post,all=pre++x::post/\St w0.heap.size w0 (Cx (pre++[x])::A) u')
def FK (n0:Nat) (w0:World) (M:List X->List SA) (Mx:Code->List X->List SA) (B:SA) (pre:List X) (F:SA):Exit->Act->World->Prop
 | .normal,_,u=>St n0 w0 (B::(M pre++[F])) u
 | .ret,_,u=>St n0 w0 (B::(Mx .ret pre++[F])) u
 | .exit i,_,u=>St n0 w0 (B::(Mx (.exit i) pre++[F])) u
 |_,_,_=>False
def lrec (fn:FuncId) (tmps:Array Value) (t:Nat) (assign body:Code) (D:Nat) (st:LoopState) (pe:Option Code):Loop:=
 {state:=st,pending:=pe,fn,tmps,params:=#[t],assign,body,defers:=D}
def mark (D:Nat):Deferred:={target:=.collected D,args:=#[]}
variable {l0:Value->List Value}
variable {ty:TypeId}
variable {lp:Nat}
section
variable {P:Program} {ro:Option Nat} {w0:World} {ds:List Deferred} {Q:Exit->Act->World->Prop} {L:List SA} {l:List Value}
theorem perm5 {a b c f:SA} {M:List SA}:(a::b::(M++[c,f])).Perm ([a,b,f]++(c::M)):=
 ((List.perm_append_comm.trans (List.Perm.swap _ _ _)).cons b).cons a
theorem perm6 {F c:SA} {M:List SA}:(F::(c::M)).Perm (c::(M++[F])):=
 (List.Perm.swap _ _ _).trans ((List.perm_append_comm (l₁:=[F]) (l₂:=M)).cons c)
theorem CS.rangeFunc {gf:FuncId} {lb:List Value} {A:List SA} {lend:Value->X->SA} {all:List X} {g:Operand} {t:Tmp} {assign body:Code}
  (hg:evo l g=some (.func (.func gf) #[] lb.toArray)) (he:Ent P gf) (hi:Iter P w0 gf lb A lend all)
  (M:List X->List SA) (Mx:Code->List X->List SA) {l1:Value->List Value} (h0:∀v,lset l t v=some (l0 v))
  (ha:∀(v:Value) (lr:Nat) (L':List SA) (Q':Exit->Act->World->Prop),QS w0.heap.size w0 [] Q' .normal L' (l1 v)->CS P (some lr) w0.heap.size w0 [] assign Q' L' (l0 v))
  (hbody:∀(lr:Nat) (pre:List X) (x:X) (post:List X) (v:Value) (F:SA),all=pre++x::post->
   CS P (some lr) w0.heap.size w0 [] body (FK w0.heap.size w0 M Mx (lend v x) (pre++[x]) F) (lend v x::(M pre++[F])) (l1 v))
  (hdone:∀D,QS w0.heap.size w0 (mark D::ds) Q .normal (recd D (.deferred (some []))::(M all++A)) l)
  (hstop:∀D c pre x post,all=pre++x::post->CS P none w0.heap.size w0 (mark D::ds) c Q (recd D (.deferred (some []))::(Mx c (pre++[x])++A)) l):
  CS P none w0.heap.size w0 ds (.rangeFunc g #[t] assign body) Q (M []++A) l:=by
 intro u hu;refine wpIn_rangeFunc ?_;intro fn hfn;have hu1:=(hu.allocRec (.deferred (some []))).allocRec (.loop (lrec fn l.toArray t assign body u.heap.size .ready none));rw[World.size_alloc]at hu1;obtain⟨W1,hW1⟩:∃W1,(u.alloc (.deferred (some []))).alloc (.loop (lrec fn l.toArray t assign body u.heap.size .ready none))=W1:=⟨_,rfl⟩;have hent:=run_enterLoop_outer (P:=P) (w:=u) fn l.toArray #[t] assign body;rw[show({state:=.ready,pending:=none,fn,tmps:=l.toArray,params:=#[t],assign,body,defers:=u.heap.size}:Loop)=lrec fn l.toArray t assign body u.heap.size .ready none from rfl,hW1]at hent;rw[hW1]at hu1
 generalize u.heap.size=D at hent hu1
 clear hW1 hu
 refine⟨D+1,[mark D],W1,{target:=.fn (.func gf) lb.toArray,args:=#[.func (.yield (D+1)) #[] #[]]},W1,gf,
  #[.func (.yield (D+1)) #[] #[]]++lb.toArray,W1,hent,?_,fun _ _=>trivial,?_,fun h=>by simp[FW]at h,?_⟩
 ·have hg':(Act.mk l.toArray ds).eval g = .func (.func gf) #[] lb.toArray:=by rw[BA];exact Am hg
  simp only[resolve,hg'];simp[go_sem]
 ·have h1:∀(args:Array Value) (w:World),Sem.run P (callFunc gf args) w = .ok (.enter gf args) w:=he;simp[invoke,go_sem,h1]
 have hcall:=hi (D+1) (fun pre=>star ([recd (D+1) (.loop (lrec fn l.toArray t assign body D .ready none)),recd D (.deferred (some []))]++M pre))
  (fun pre=>exS fun c:Code=>star ([recd (D+1) (.loop (lrec fn l.toArray t assign body D .done (some c))),recd D (.deferred (some []))]++Mx c pre)) ?_ W1
  (St.pack (L1:=[recd (D+1) (.loop (lrec fn l.toArray t assign body D .ready none)),recd D (.deferred (some []))]++M []) hu1)
 ·have e:(Value.func (.yield (D+1)) #[] #[]::lb).toArray = #[Value.func (.yield (D+1)) #[] #[]]++lb.toArray:=by apply Array.ext';simp
  rw[e]at hcall;have hcall':=(callsIn_wide (n:=0)).2 hcall;refine CallsIn.mono hcall' ?_;rintro e u' ⟨⟨v,rfl⟩,hs|⟨pre,x,post,hall,hs⟩⟩
  ·have hs2:=hs.unpack;obtain⟨_,hl⟩:=St.rec_ (j:=0) rfl hs2;exact⟨none,_,run_endLoop hl (by simp[lrec]),hdone D _ (hs2.putRec (j:=0) rfl _).tail⟩
  obtain⟨c,hs1⟩:=hs.ex;have hs2:=hs1.unpack;obtain⟨_,hl⟩:=St.rec_ (j:=0) rfl hs2;exact⟨some c,_,run_endLoop hl (by simp[lrec]),hstop D c pre x post hall _ (hs2.putRec (j:=0) rfl _).tail⟩
 intro pre x post hall F v u1 hs;have hs1:=St.unpack hs;obtain⟨_,hl⟩:=St.rec_ (j:=0) rfl hs1;have hy:=run_yield (P:=P) (args:=#[v]) hl (by simp[lrec])
 have et:((lrec fn l.toArray t assign body D .ready none).params.zip #[v]).foldl (fun tmps (t,a)=>tmps.setIfInBounds t a) (lrec fn l.toArray t assign body D .ready none).tmps=(l0 v).toArray:=by
  have:=Aq (h0 v);simp[lrec,<-this]
 rw[et]at hy;refine⟨fn,_,assign,body,hy,roundIn_of_wpIn (F:=FW none) trivial ?_⟩;refine ha v (D+1) _ _ ?_ u1 hs;intro u2 hs2;have hs3:=St.unpack hs2;obtain⟨_,hl2⟩:=St.rec_ (j:=0) rfl hs3;refine⟨_,run_beginRound hl2 rfl,?_⟩;have hs4:=(hs3.putRec (j:=0) rfl (.loop (lrec fn l.toArray t assign body D .busy none)));have hs5:=(((hs4.perm perm5).pack).perm perm6);refine wpIn_mono (hbody (D+1) pre x post v _ hall _ hs5) ?_
 have back:∀{M':List SA} {u4:World},St w0.heap.size w0 (lend v x::(M'++[star [recd (D+1) (.loop (lrec fn l.toArray t assign body D .busy none)),recd D (.deferred (some [])),F]])) u4->
   St w0.heap.size w0 (recd (D+1) (.loop (lrec fn l.toArray t assign body D .busy none))::recd D (.deferred (some []))::(M'++[lend v x,F])) u4:=fun h=>((h.perm perm6.symm).unpack).perm perm5.symm
 rintro e a u4 hq;cases e with
 |normal=>
  have h4:=back hq;obtain⟨_,hl4⟩:=St.rec_ (j:=0) rfl h4;exact⟨_,_,run_endRound none hl4,.inl ⟨rfl,St.pack (L1:=_::_::M (pre++[x])) (h4.putRec (j:=0) rfl (.loop (lrec fn l.toArray t assign body D .ready none)))⟩⟩
 |ret=>
  have h4:=back hq;obtain⟨_,hl4⟩:=St.rec_ (j:=0) rfl h4;exact⟨_,_,run_endRound (some .ret) hl4,.inr ⟨rfl,St.exI .ret (St.pack (L1:=_::_::Mx .ret (pre++[x])) (h4.putRec (j:=0) rfl (.loop (lrec fn l.toArray t assign body D .done (some .ret)))))⟩⟩
 |exit i=>
  have h4:=back hq;obtain⟨_,hl4⟩:=St.rec_ (j:=0) rfl h4;exact⟨_,_,run_endRound (some (.exit i)) hl4,.inr ⟨rfl,St.exI (.exit i) (St.pack (L1:=_::_::Mx (.exit i) (pre++[x])) (h4.putRec (j:=0) rfl (.loop (lrec fn l.toArray t assign body D .done (some (.exit i))))))⟩⟩
 |goto i=>exact hq.elim
 |panic c=>exact hq.elim
 |outgrown=>exact hq.elim
theorem M2:(args++List.replicate (n-args.length) undef).toArray=args.toArray++Array.replicate (n-args.toArray.size) undef:=by
 apply Array.ext';simp
theorem Jbz {c:Code} (hu:St n0 w0 L u) (hf:P.funcs[f]? = some fn) (hb:fn.body=some c)
  (hl:frame args fn.ntmps=some l) (hn:args.length<=fn.ntmps) (h:CS P none n0 w0 [] c (bodyPost P fn R) L l):Calls P f args.toArray u R:=by
 refine(callsIn_wide (n:=0)).1 (callsIn_of_wp hf hb trivial ?_);have:=h u hu;rw[<-Gm hl hn,M2]at this;exact this
theorem Ei {c:Code} (hu:St n0 w0 L u) (hf:P.funcs[f]? = some fn) (h:CS P none n0 w0 [] c (bodyPost P fn R) L l) (hb:fn.body=some c:=by exact rfl)
  (hl:frame args fn.ntmps=some l:=by exact rfl) (hn:args.length<=fn.ntmps:=by exact Nat.le_of_ble_eq_true rfl):Calls P f args.toArray u R:=Jbz hu hf hb hl hn h
theorem Ri {c:Code} (hu:St n0 w0 L u) (hf:P.funcs[f]? = some fn) (hb:fn.body=some c)
  (hl:frame args fn.ntmps=some l) (hn:args.length<=fn.ntmps) (h:CS P none n0 w0 [] c (bodyPostM (FW none) 0 P fn R) L l):Calls P f args.toArray u R:=by
 refine(callsIn_wide (n:=0)).1 (callsIn_of_wp_marks hf hb trivial ?_);have:=h u hu;rw[<-Gm hl hn,M2]at this;exact this
def Res (P:Program) (fn:Func) (l:List Value) (L:List SA) (n0:Nat) (w0:World) (v:Value):Prop:=∀u,St n0 w0 L u->(results fn l.toArray).run P u = .ok v u
theorem outM {D:Nat} {e:Exit} (he:e = .ret\/e = .normal) (hj:L[j]? = some (recd D (.deferred (some []))))
  (hr:Res P fn l (L.set j (recd D (.deferred none))) n0 w0 v) (hR:∀u,St n0 w0 (L.set j (recd D (.deferred none))) u->R (.returned v) u):
  QS n0 w0 [mark D] (bodyPostM (FW none) 0 P fn R) e L l:=fun u hu=>by
 obtain⟨_,h1⟩:=hu.rec_ hj;have h2:=hu.putRec hj (.deferred none)
 have:LeavesInM (FW none) 0 P fn l.toArray R [mark D] .returning u:=
  ⟨by simp,.inl ⟨D,_,rfl,run_takeDeferred h1,_,hr _ h2,hR _ h2⟩⟩
 rcases he with rfl|rfl<;>exact this
theorem outE {e:Exit} (he:e = .ret\/e = .normal) (hr:Res P fn l L n0 w0 v) (hR:∀u,St n0 w0 L u->R (.returned v) u):
  QS n0 w0 [] (bodyPostM (FW none) 0 P fn R) e L l:=fun u hu=>by
 have:LeavesInM (FW none) 0 P fn l.toArray R [] .returning u:=⟨_,hr u hu,hR u hu⟩;rcases he with rfl|rfl<;>exact this
def Rv (P:Program) (n0:Nat) (w0:World) (L:List SA) (l:List Value) (b t:Nat) (ty:TypeId) (v:Value):Prop:=
 l[t]? = some (.pointer (some ⟨b,0,none⟩))/\∀u,St n0 w0 L u->(loadVar ty ⟨b,0,none⟩).run P u = .ok v u
section
variable {n0:Nat} {fn:Func}
theorem JX {b t:Nat} {e:TypeId} (ht:l[t]? = some (.pointer (some ⟨b,0,none⟩))) (hj:L[j]? = some (blk b c e)) (hv:c[0]? = some v) (hT:tk P ty=some (false,k)):
  Rv P n0 w0 L l b t ty v:=⟨ht,fun u hu=>by
 have h1:u.cell? ⟨b,0,none⟩=some v:=by rw[BT (hu.blk hj).2];exact hv
 simp[loadVar,(CV hT u).1,h1]⟩
theorem T8 {b t:Nat} (h:Rv P n0 w0 L l b t ty v) (hu:St n0 w0 L u):
  Sem.run P (asAddr (l[t]?.getD undef)) u = .ok ⟨b,0,none⟩ u/\Sem.run P (loadVar ty ⟨b,0,none⟩) u = .ok v u:=by
 refine⟨?_,h.2 u hu⟩;rw[h.1];simp[asAddr]
theorem res0 (h:fn.results = #[]):Res P fn l L n0 w0 (.tuple #[]):=fun u _=>results_none h _ _ _
theorem resc {b t:Nat} (h:fn.results = #[.cell t ty]) (h1:Rv P n0 w0 L l b t ty v):Res P fn l L n0 w0 v:=fun u hu=>by
 obtain⟨a1,a2⟩:=T8 h1 hu;simp only[results,h];simp[Sem.run_bind,Result.andThen,a1,a2]
theorem Bv {b t t2:Nat} {v2:Value} (h:fn.results = #[.cell t ty,.tmp t2]) (h1:Rv P n0 w0 L l b t ty v) (h2:l[t2]? = some v2):Res P fn l L n0 w0 (.tuple #[v,v2]):=fun u hu=>by
 obtain⟨a1,a2⟩:=T8 h1 hu;simp only[results,h];simp[Sem.run_bind,Result.andThen,a1,a2,h2]
end
theorem WS.yield {ops:Array Oper} {rest:List Oper} {ps:String} {af:Array Edge} {i:Nat} {x:Operand} {args:List Operand} {L':Bool->List SA} {l':Bool->List Value} {g:Option (Nat×Bool)}
  (hw:Region.wanted ⟨some i,.call ⟨.value x,args.toArray,ts⟩,ty,ps,af,g⟩ (yielded ops l.toArray)=true)
  (hx:evo l x=some (.func (.yield lp) #[] #[])) (hv:evs l args=some vs)
  (hc:∀u,St n0 w0 L u->YieldAt (FW none) 0 P lp vs.toArray u fun e u'=>∃b,e = .returned (.bool b)/\St n0 w0 (L' b) u')
  (hl:∀b,lset l i (.bool b)=some (l' b)) (k:∀b,WS P ro n0 w0 ds ops Q (L' b) rest (l' b)):
  WS P ro n0 w0 ds ops Q L (⟨some i,.call ⟨.value x,args.toArray,ts⟩,ty,ps,af,g⟩::rest) l:=by
 intro u hu;unfold wpListIn;rw[if_pos hw];obtain⟨fn,tmps,assign,body,hy,hR⟩:=hc u hu;refine⟨fun _ _=>trivial,?_⟩;rw[Bl rfl,BA]
 have hr:(execOp (ev l) ⟨some i,.call ⟨.value x,args.toArray,ts⟩,ty,ps,af,g⟩).run P u = .ok (.round lp fn tmps assign body) u:=by
  replace hx:=Am hx;replace hv:=Fi hv;subst hv;simp[execOp,resolve,invoke,go_sem,hx,hy]
 rw[hr,Oper.uponIn_round];refine⟨fun h=>by simp[FW]at h,?_⟩;refine RoundIn.mono (F:=FW none) hR ?_;rintro e u' ⟨b,rfl,hs⟩;show wpListIn (FW ro) 0 P ops Q rest ((Act.mk l.toArray ds).put (some i) (.bool b)) u';rw[AL,Aq (hl b)];exact k b u' hs
end
def ints (xs:List Int):List Value:=xs.map (Value.int .i64)
def oints (e:TypeId) (v:Value) (xs:List Int):SA:=osl e 1 v xs.length (ints xs)
section
variable {P:Program} {ro:Option Nat} {n0:Nat} {w0:World} {ds:List Deferred} {ops:Array Oper} {Q:Exit->Act->World->Prop} {L:List SA}
 {rest:List Oper} {l:List Value} {d:Option Tmp} {ty:TypeId} {ps:String} {af:Array Edge} {g:Option (Nat×Bool)} {C:World->Prop}
theorem Kj {e e':TypeId} {x:Operand} {xs:List Value} (hT:sl P T=some (e,k,by_)) (hx:evo l x=some v) (hy:evo l y=some (.int .i64 i))
  (hj:L[j]? = some (osl e' k v n xs)) (h0:0<=i) (h1:i<n):Det P (St n0 w0 L) ⟨d,.indexAddr T x y,ty,ps,af,g⟩ l (.pointer (some (sla v (i.toNat*k)))):=
 fun u hu=>DO (C:=St n0 w0 L) hT hx hy (BZ hu hj) h0 h1 u hu
theorem Tv {e e':TypeId} {x:Operand} (hT:sl P T=some (e,1,by_)) (hx:evo l x=some v) (hy:evo l y=some (.int .i64 i))
  (hj:L[j]? = some (oints e' v xs)) (h0:0<=i) (h1:i<xs.length):Det P (St n0 w0 L) ⟨d,.indexAddr T x y,ty,ps,af,g⟩ l (.pointer (some (sla v i.toNat))):=by
 have:=Kj (n0:=n0) (w0:=w0) (d:=d) (ty:=ty) (ps:=ps) (af:=af) (g:=g) hT hx hy hj h0 h1
 rwa [Nat.mul_one]at this
theorem AK {e:TypeId} (hu:St n0 w0 L u) (hj:L[j]? = some (oints e v xs)):SlI u v xs:=BZ hu hj
theorem M8 {e:TypeId} {x:Operand} {y:Value} {xs:List Value} (hx:evo l x=some (.pointer (some (sla v m)))) (hj:L[j]? = some (osl e k v n xs)) (hm:xs[m]? = some y) (hT:tk P T=some (false,z)):
  Det P (St n0 w0 L) ⟨d,.load T x,ty,ps,af,g⟩ l y:=Do hx (fun _ hu=>BZ hu hj) hm hT
theorem VE {e:TypeId} {x:Operand} (hx:evo l x=some (.pointer (some (sla v i.toNat)))) (hj:L[j]? = some (oints e v xs)) (h:0<=i/\i<xs.length) (hT:tk P T=some (false,z)):
  Det P (St n0 w0 L) ⟨d,.load T x,ty,ps,af,g⟩ l (.int .i64 (nth xs i)):=M8 hx hj (Ui h) hT
theorem K6 {e e':TypeId} {a b:Nat} {x:Operand} (hT:sl P T=some (e,a,b)) (hx:evo l x=some v) (hj:L[j]? = some (oints e' v xs)):
  Det P (St n0 w0 L) ⟨d,.call ⟨.builtin .len,#[x],#[T]⟩,ty,ps,af,g⟩ l (.int .i64 xs.length):=JR hT hx hj
theorem P5 {C' Cx' B F:SA}
  (h:YieldAt (FW none) 0 P lp #[v] u fun e u'=>(e = .returned (.bool true)/\St n0 w0 [C',B,F] u')\/(e = .returned (.bool false)/\St n0 w0 [Cx',B,F] u')):
  YieldAt (FW none) 0 P lp #[v] u fun e u'=>∃b,e = .returned (.bool b)/\St n0 w0 [B,cond b C' Cx',F] u':=by
 refine h.mono ?_;rintro e u' (⟨rfl,h⟩|⟨rfl,h⟩)
 ·exact⟨true,rfl,h.perm (.swap _ _ _)⟩
 exact⟨false,rfl,h.perm (.swap _ _ _)⟩
theorem Kx:∀{l:List α} {n:Nat} {v:α} {r:List α},lset l n v=some r->n<l.length->r[n]? = some v:=by
 intro l n v r h hn;have:=Aq h;subst this;simp[hn]
theorem CS.perm {c:Code} (hp:L.Perm L') (k:CS P ro n0 w0 ds c Q L' l):CS P ro n0 w0 ds c Q L l:=fun u hu=>k u (hu.perm hp)
section
variable {X:Type} {gf:FuncId} {lb:List Value} {A:List SA} {lend:Value->X->SA} {all:List X} {x:Operand} {t t2 id:Tmp} {body:Code}
theorem CS.rangeS (hg:evo l x=some (.func (.func gf) #[] lb.toArray)) (he:Ent P gf) (hi:Iter P w0 gf lb A lend all)
  (M:List X->List SA) (Mx:Code->List X->List SA) (h0:∀v,lset l t v=some (l0 v))
  (hbody:∀(lr:Nat) (pre:List X) (x:X) (post:List X) (v:Value) (F:SA),all=pre++x::post->
   CS P (some lr) w0.heap.size w0 [] body (FK w0.heap.size w0 M Mx (lend v x) (pre++[x]) F) (lend v x::(M pre++[F])) (l0 v))
  (hdone:∀D,QS w0.heap.size w0 (mark D::ds) Q .normal (recd D (.deferred (some []))::(M all++A)) l)
  (hstop:∀D c pre x post,all=pre++x::post->CS P none w0.heap.size w0 (mark D::ds) c Q (recd D (.deferred (some []))::(Mx c (pre++[x])++A)) l):
  CS P none w0.heap.size w0 ds (.rangeFunc x #[t] .skip body) Q (M []++A) l:=
 CS.rangeFunc hg he hi M Mx h0 (fun _ _ _ _ k=>CS.skip k) hbody hdone hstop
theorem CS.rangeA {ty2:TypeId} {ps2:String} {af2:Array Edge} (hg:evo l x=some (.func (.func gf) #[] lb.toArray)) (he:Ent P gf) (hi:Iter P w0 gf lb A lend all)
  (M:List X->List SA) (Mx:Code->List X->List SA) {l1:Value->List Value} (h0:∀v,lset l t v=some (l0 v)) (ht:t<l.length) (h1:∀v,lset (l0 v) t2 v=some (l1 v))
  (hbody:∀(lr:Nat) (pre:List X) (x:X) (post:List X) (v:Value) (F:SA),all=pre++x::post->
   CS P (some lr) w0.heap.size w0 [] body (FK w0.heap.size w0 M Mx (lend v x) (pre++[x]) F) (lend v x::(M pre++[F])) (l1 v))
  (hdone:∀D,QS w0.heap.size w0 (mark D::ds) Q .normal (recd D (.deferred (some []))::(M all++A)) l)
  (hstop:∀D c pre x post,all=pre++x::post->CS P none w0.heap.size w0 (mark D::ds) c Q (recd D (.deferred (some []))::(Mx c (pre++[x])++A)) l):
  CS P none w0.heap.size w0 ds (.rangeFunc x #[t] (.region id #[⟨some t2,.assign (.tmp t),ty2,ps2,af2,none⟩] false) body) Q (M []++A) l:=
 CS.rangeFunc hg he hi M Mx h0 (fun v _ _ _ k=>CS.region (os:=[_]) (WS.det rfl rfl rfl (Jr (by
  have:=Kx (h0 v) ht
  simpa [evo]using this)) (h1 v) (WS.done k))) hbody hdone hstop
end
theorem It {C' C'' Cx' B:SA} {R:List SA}
  (h:∀(F:SA) (u:World),St n0 w0 [C',B,F] u->YieldAt (FW none) 0 P lp #[v] u fun e u'=>(e = .returned (.bool true)/\St n0 w0 [C'',B,F] u')\/(e = .returned (.bool false)/\St n0 w0 [Cx',B,F] u'))
   (hu:St n0 w0 (B::C'::R) u):YieldAt (FW none) 0 P lp #[v] u fun e u'=>∃b,e = .returned (.bool b)/\St n0 w0 (B::cond b C'' Cx'::R) u':=by
 have p1:∀{C1:SA},(B::C1::R).Perm (R++[C1,B]):=(List.Perm.swap _ _ _).trans (List.perm_append_comm (l₁:=[_,_]));have p2:∀{C1:SA},[star R,C1,B].Perm [C1,B,star R]:=List.perm_append_comm (l₁:=[_]) (l₂:=[_,_]);refine(h (star R) u ((hu.perm p1).pack.perm p2)).mono ?_;rintro e u' (⟨rfl,h⟩|⟨rfl,h⟩)
 ·exact⟨true,rfl,(St.unpack (h.perm p2.symm)).perm p1.symm⟩
 exact⟨false,rfl,(St.unpack (h.perm p2.symm)).perm p1.symm⟩
theorem WS.unpack (k:WS P ro n0 w0 ds ops Q (L1++L2) rest l):WS P ro n0 w0 ds ops Q (star L1::L2) rest l:=fun u hu=>k u hu.unpack
theorem Mu {Ls:List SA} (hu:St w.heap.size w L u) (hp:L.Perm Ls):RetF w v (star Ls) (.returned v) u:=by
 have h:=hu.perm hp;rw[<-List.append_nil Ls]at h;exact retF (j:=0) rfl u h.pack
theorem NL:∀(r z1 pre z2:List Value) (off j0:Nat),pre.length=off+j0->z1.length=r.length->
  (r.zipIdx j0).foldl (fun(cs:Array Value) (x:Value×Nat)=>cs.setIfInBounds (off+x.2) x.1) (pre++(z1++z2)).toArray=(pre++(r++z2)).toArray
 |[],z1,pre,z2,off,j0,_,hz=>by
  have:z1=[]:=List.eq_nil_of_length_eq_zero (by simpa using hz);subst this;simp
 |c::r,[],pre,z2,off,j0,_,hz=>by simp at hz
 |c::r,y::z1,pre,z2,off,j0,hp,hz=>by
  have ih:=NL r z1 (pre++[c]) z2 off (j0+1) (by simp;omega) (by simpa using hz)
  have h1:(pre++(y::z1++z2)).toArray.setIfInBounds (off+j0) c=(pre++[c]++(z1++z2)).toArray:=by
   rw[<-hp];simp[List.set_append]
  rw[List.zipIdx_cons,List.foldl_cons];show List.foldl _ ((pre++(y::z1++z2)).toArray.setIfInBounds (off+j0) c) _=_;rw[h1,ih];simp
theorem XQ (k:Nat):∀(rows:List (List Value)) (i:Nat) (pre:List Value),pre.length=i*k->(∀r∈rows,r.length=k)->
  ∀z:List Value,z.length=rows.length*k->Instr.fill (fun i=>some (i*k,k)) (pre++z).toArray ((rows.zipIdx i).map fun(r,j)=>(j,Value.agg r.toArray))=some (pre++rows.flatten).toArray
 |[],_,_,_,_,z,hz=>by
  have:z=[]:=List.eq_nil_of_length_eq_zero (by simpa using hz);subst this;simp[Instr.fill]
 |r::rows,i,pre,hp,hr,z,hz=>by
  have hrk:=hr r (by simp);have hzl:z.length=k+rows.length*k:=by rw[hz,List.length_cons,Nat.succ_mul,Nat.add_comm]
  have ez:z=z.take k++z.drop k:=(List.take_append_drop k z).symm;have hz1:(z.take k).length=r.length:=by simp;omega
  have hv:(Value.agg r.toArray).cells=r.toArray:=rfl;simp only[List.zipIdx_cons,List.map_cons,Instr.fill,hv];rw[if_neg (by simp;omega)];have h1:=NL r (z.take k) pre (z.drop k) (i*k) 0 (by omega) hz1;rw[<-ez]at h1
  have h2:Array.foldl (fun(cs:Array Value) (x:Value×Nat)=>cs.setIfInBounds (i*k+x.2) x.1) (pre++z).toArray r.toArray.zipIdx=(pre++(r++z.drop k)).toArray:=by
   rw[<-h1];simp
  rw[h2];have ih:=XQ k rows (i+1) (pre++r) (by simp[hp,hrk,Nat.succ_mul]) (fun x hx=>hr x (by simp[hx])) (z.drop k) (by simp;omega)
  simpa using ih
theorem WS.buildSliceK {e:TypeId} {i:Nat} {rows:List (List Value)} (hT:sl P T=some (e,k,by_)) (hz:zv P e=some zc)
  (hp:(pl.map fun(j,x)=>(j,ev l x))=(rows.zipIdx).map fun(r,j)=>(j,Value.agg r.toArray)) (hn:rows.length=n) (hn0:0<n*k) (hn2:n*k<=16777216) (h1:∀r∈rows,r.length=k)
   (hl:∀v,lset l i v=some (l' v)) (kk:∀v,WS P ro n0 w0 ds ops Q (osl e k v n rows.flatten::L) rest (l' v)):
  WS P ro n0 w0 ds ops Q L (⟨some i,.buildSlice T n pl.toArray,ty,ps,af,none⟩::rest) l:=by
 subst hn;refine WS.world rfl rfl fun u hu=>?_;obtain⟨inf,hu1,hi,hs,hby⟩:=BX hT;unfold zv at hz;rw[hi]at hz;cases hz2:inf.zero with
 |none=>simp[hz2]at hz
 |some zz=>
  simp[hz2]at hz
  have hfl:rows.flatten.length=rows.length*k:=by
   clear hp hn0 hn2 kk hl
   induction rows with
   |nil=>simp
   |cons r rows ih=>simp only[List.flatten_cons,List.length_append,List.length_cons,ih fun x hx=>h1 x (by simp[hx]),h1 r (by simp),Nat.succ_mul];omega
  refine⟨.slice (some ⟨u.heap.size,0,none⟩) rows.length rows.length,u.alloc (.cells rows.flatten.toArray e),?_,?_⟩
  ·have hf:∀A:Array Value,A.size=rows.length*k->Instr.fill (fun i=>some (i*k,k)) A (List.map (fun x=>(x.fst,ev l x.snd)) pl)=some rows.flatten.toArray:=fun A hA=>by
    have:=XQ k rows 0 [] (by simp) h1 A.toList (by simpa using hA);rw[<-hp]at this
    simpa using this
   have hlim:¬(16777216<rows.length*k):=by omega
   have h0:¬(rows.length*k=0):=by omega
   have h0':¬(rows.length=0\/k=0):=by rw[<-Nat.mul_eq_zero];exact h0
   have h2:=hf ((Array.range (rows.length*k)).map (zz.cells[· %zz.cells.size]!)) (by simp);have h01:=fun h=>h0' (.inl h);have h02:=fun h=>h0' (.inr h);have h03:rows≠[]:=fun h=>h01 (by simp[h]);simp[execOp,Instr.buildSlice,run_underlying hu1,sizeOf,typeInfo,hi,hs,h03,h02,newRow,hlim,zeroValue,hz2,h2];exact fun h=>absurd h h0
  rw[AL,Aq (hl _)];refine kk _ _ (hu.cons (T:=fun k=>k=u.heap.size) ((Below.refl _ u).alloc (Nat.le_refl _) _) ⟨?_,hfl,.inr ⟨u.heap.size,rows.length,_,rfl,Nat.zero_le _,World.alloc_heap_new u _,Nat.le_refl _,?_,?_,?_⟩⟩ (fun k hk=>by omega))
  ·intro k;simp[Value.ownBlock];exact eq_comm
  ·have:0<k:=Nat.pos_of_ne_zero fun h=>by simp[h]at hn0
   have:=Nat.le_mul_of_pos_right rows.length this;simp only[maxLen];omega
  ·simpa using hfl
  simp only[List.toList_toArray];exact List.take_of_length_le (by omega)
theorem WS.unwanted {o:Oper} {i:Nat} (hd:o.dst=some i) (hw:Region.wanted o (yielded ops l.toArray)=false) {l':List Value} (hl:lset l i undef=some l') (k:WS P ro n0 w0 ds ops Q L rest l'):WS P ro n0 w0 ds ops Q L (o::rest) l:=by
 intro u hu;unfold wpListIn;rw[if_neg (by simp[hw]),hd,AL,Aq hl];exact⟨fun _ _=>trivial,k u hu⟩
theorem St.storeO {e:TypeId} {y:Value} {xs:List Value} (h:St n0 w0 L u) (hj:L[j]? = some (osl e 1 v n xs)) (hm:m<xs.length):
  St n0 w0 (L.set j (osl e 1 v n (xs.set m y))) (u.setCell (sla v m) y):=by
 obtain⟨T,hT,⟨hS,hl,h2⟩,hc⟩:=h.upd hj;rcases h2 with⟨rfl,rfl⟩|⟨b,cap,cur,rfl,hb,hg,hn,hcap,hcur,htake⟩
 ·simp at hl;subst hl;simp at hm
 have hb':=hT b ((hS b).2 rfl);have es:sla (.slice (some ⟨b,0,none⟩) n cap) m=⟨b,m,none⟩:=by simp[sla,slb,slo]
 rw[es]
 refine hc _ _ (fun k=>k=b) ((Below.refl _ u).setCell (p:=⟨b,m,none⟩) hb' y) (fun k hk o ho=>?_) ⟨fun k=>?_,by simpa using hl,.inr ⟨b,cap,cur.setIfInBounds m y,rfl,hb,heap_setCell_same u b m cur e y hg,hn,hcap,by simpa using hcur,?_⟩⟩
  (fun k hk=>by subst hk;exact⟨hb',.inl ((hS _).2 rfl)⟩)
 ·rw[Below.heap_setCell _ _ _ _ (fun e=>hk.2.2 ((hS k).2 (by rw[e];rfl)))];exact ho
 ·exact⟨fun h=>by rw[h];rfl,fun h=>by simpa [Value.ownBlock,eq_comm]using h⟩
 rw[<-htake];simp[List.take_set]
theorem WS.storeO {e:TypeId} {x:Operand} {z:Value} {k:Bool} {xs:List Value} (hx:evo l x=some (.pointer (some (sla v m)))) (hj:L[j]? = some (osl e 1 v n xs)) (hm:m<xs.length)
  (hy:evo l y=some z) (h1:z.oneCell'=true) (hT:tk P T=some (k,1))
   (hL:lset L j (osl e 1 v n (xs.set m z))=some L') (kk:WS P ro n0 w0 ds ops Q L' rest l):
  WS P ro n0 w0 ds ops Q L (⟨none,.store T x y,ty,ps,af,none⟩::rest) l:=by
 (replace hx:=Am hx;replace hy:=Am hy)
 rw[<-Aq hL]at kk;refine WS.world_skip rfl rfl rfl fun u hu=>⟨u.setCell (sla v m) z,?_,kk _ (hu.storeO hj hm)⟩;obtain⟨T',_,⟨_,hl,h2⟩,_⟩:=hu.upd hj;rcases h2 with⟨rfl,rfl⟩|⟨b,cap,cur,rfl,hb,hg,hn,hcap,hcur,htake⟩
 ·simp at hl;subst hl;simp at hm
 have es:sla (.slice (some ⟨b,0,none⟩) n cap) m=⟨b,m,none⟩:=by simp[sla,slb,slo]
 rw[es]at hx⊢;have hlt:m<cur.size:=by rw[hcur];omega
 have hcell:u.cell? ⟨b,m,none⟩=some cur[m]:=by rw[cell_of_row u b m _ e (0,0) hg];simp[hlt]
 have hfr:u.frozen? ⟨b,m,none⟩=false:=frozen_of_row u b m cur e hg;have hcs:z.cells = #[z]:=by cases z<;>simp_all [Value.cells,Value.oneCell']
 simp[execOp,hx,hy,Instr.storeAt,Instr.sureAddr,storeVar,(CV hT u).2,hcs,storeCells,BJ,run_store P u ⟨b,m,none⟩ z .plain h1,hcell,hfr]
theorem WS.storeOI {e:TypeId} {x:Operand} {z:Int} {k:Bool} (hx:evo l x=some (.pointer (some (sla v i.toNat)))) (hj:L[j]? = some (oints e v xs)) (h:0<=i/\i<xs.length)
  (hy:evo l y=some (.int .i64 z)) (hT:tk P T=some (k,1))
   (hL:lset L j (oints e v (xs.set i.toNat z))=some L') (kk:WS P ro n0 w0 ds ops Q L' rest l):
  WS P ro n0 w0 ds ops Q L (⟨none,.store T x y,ty,ps,af,none⟩::rest) l:=by
 refine WS.storeO hx hj (by simp[ints];omega) hy rfl hT (L':=L') ?_ kk;rw[<-hL];simp[oints,ints,List.map_set]
theorem WS.makeInts {e:TypeId} {x:Operand} {i:Nat} {n:Int} (hT:sl P T=some (e,1,by_)) (hx:evo l x=some (.int .i64 n)) (hy:evo l y=some (.int .i64 n)) (hz:zv P e=some [.int .i64 0])
  (h0:0<=n) (hb:(by_:Int)*n<=281474976710656) (hm:n<=9223372036854775807)
   (hl:∀v,lset l i v=some (l' v)) (k:∀v,WS P ro n0 w0 ds ops Q (oints e v (List.replicate n.toNat 0)::L) rest (l' v)):
  WS P ro n0 w0 ds ops Q L (⟨some i,.makeSlice T x y,ty,ps,af,none⟩::rest) l:=by
 refine WS.makeSlice (z:=e) hT hx hy hz rfl h0 rfl hb hm hl fun v=>?_;have:=k v;unfold oints ints at this
 have e1:List.map (Value.int .i64) (List.replicate n.toNat 0)=(List.replicate n.toNat [Value.int .i64 0]).flatten:=by
  generalize n.toNat=m
  induction m with
  |zero=>rfl
  |succ m ih=>rw[List.replicate_succ,List.replicate_succ,List.flatten_cons,List.map_cons,ih];rfl
 rw[e1]at this
 simpa using this
end
structure Clue where
 k:Int
 a:Int
 b:Int
 n:Int
 m:Int
 g:List Int
 nt:Bool
 deriving DecidableEq
instance:Inhabited Clue:=⟨⟨0,0,0,0,0,[],false⟩⟩
def Aj (n lo hi:Int):Bool:=decide (lo<=n)&&decide (n<=hi)
def Bg (w s:Int):Bool:=Aj w 1 4&&Aj s 2 10
def Cc (w s:Int):Int:=if Bg w s then 0 else 10
def Cd (w s:Int) (xs:List Int):Bool:=decide ((xs.length:Int)=w)&&xs.all fun x=>Aj x 0 (s-1)
def Ep (w s:Int) (xs:List Int):Int:=if Bg w s then if Cd w s xs then 0 else 12 else 10
def Bw:List Int->List Int->Int
 |x::xs,y::ys=>(if x=y then 1 else 0)+Bw xs ys
 |_,_=>0
def cnt (xs:List Int) (s:Int):Int:=((xs.filter fun x=>decide (x=s)).length:Int)
def BI (xs ys:List Int):Nat->Int
 |0=>0
 |n+1=>BI xs ys n+min (cnt xs n) (cnt ys n)
theorem Dc {w:Int} (h:Bg w s=true):1<=w/\w<=4/\2<=s/\s<=10:=by
 simp[Bg,Aj]at h;omega
theorem JS {w:Int} (h:Cd w s xs=true):(xs.length:Int)=w/\∀x∈xs,0<=x/\x<=s-1:=by
 simp[Cd,Aj]at h;exact h
theorem UW {w:Int} (h:Cd w s xs=true) (h0:0<=i) (h1:i<xs.length):0<=nth xs i/\nth xs i<=s-1:=(JS h).2 _ (Ai h0 h1)
theorem D9 (xs:List Int) (y s:Int):cnt (xs++[y]) s=cnt xs s+if y=s then 1 else 0:=by
 unfold cnt
 by_cases h:y=s<;>simp[List.filter_append,List.filter_cons,h]
theorem Ek (xs:List Int) (s:Int):0<=cnt xs s/\cnt xs s<=xs.length:=by
 unfold cnt;have:=List.length_filter_le (fun x=>decide (x=s)) xs;omega
theorem AG [Inhabited α] (xs:List α) (h0:0<=i) (h1:i<xs.length):xs.take (i+1).toNat=xs.take i.toNat++[nth xs i]:=by
 have e:(i+1).toNat=i.toNat+1:=by omega
 have hlt:i.toNat<xs.length:=by omega
 rw[e,List.take_succ_eq_append_getElem hlt];simp[nth,List.getD,hlt]
theorem Ee (xs:List α) (h:xs.length<=i):xs.take i.toNat=xs:=List.take_of_length_le (by omega)
theorem HW:∀(xs ys:List Int) (x y:Int),xs.length=ys.length->Bw (xs++[x]) (ys++[y])=Bw xs ys+if x=y then 1 else 0
 |[],[],x,y,_=>by simp[Bw]
 |a::xs,b::ys,x,y,h=>by
  simp only[List.cons_append,Bw];rw[HW xs ys x y (by simpa using h)];omega
 |[],_::_,_,_,h=>by simp at h
 |_::_,[],_,_,h=>by simp at h
theorem EO:∀(xs ys:List Int),0<=Bw xs ys/\Bw xs ys<=xs.length
 |[],_=>by simp[Bw]
 |_::_,[]=>by simp[Bw];omega
 |x::xs,y::ys=>by
  have:=EO xs ys;simp only[Bw,List.length_cons];split<;>omega
theorem D7 (xs ys:List Int) (hl:xs.length=ys.length) (h0:0<=i) (h1:i<xs.length):
  Bw (xs.take (i+1).toNat) (ys.take (i+1).toNat)=Bw (xs.take i.toNat) (ys.take i.toNat)+if nth xs i=nth ys i then 1 else 0:=by
 rw[AG xs h0 h1,AG ys h0 (by omega),HW _ _ _ _ (by simp;omega)]
theorem DU (xs ys:List Int):∀n:Nat,0<=BI xs ys n/\BI xs ys n<=n*xs.length
 |0=>by simp[BI]
 |n+1=>by
  have h:=DU xs ys n;have h1:=Ek xs n;have h2:=Ek ys n;simp only[BI];have e:((n+1:Nat):Int)*(xs.length:Int)=(n:Int)*xs.length+xs.length:=by rw[Int.natCast_succ,Int.add_mul,Int.one_mul]
  omega
theorem Sy {w:Int} (hl:(xs.length:Int)=w) (h:∀j:Int,0<=j->j<xs.length->Aj (nth xs j) 0 (s-1)=true):Cd w s xs=true:=by
 unfold Cd;simp only[hl,decide_true,Bool.true_and,List.all_eq_true];intro x hx;obtain⟨i,h0,h1,rfl⟩:=Bz hx;exact h i h0 h1
theorem RQ {w:Int} (h:¬(xs.length:Int)=w):Cd w s xs=false:=by simp[Cd,h]
theorem TQ {w:Int} (h0:0<=i) (h1:i<xs.length) (h:Aj (nth xs i) 0 (s-1)=false):Cd w s xs=false:=by
 cases hb:Cd w s xs with
 |false=>rfl
 |true=>
  have:=UW hb h0 h1;simp[Aj]at h;omega
def Gn (xs:List Int):List Value:=(List.range 10).map fun k:Nat=>Value.int .i64 (cnt xs (k:Int))
theorem EG (xs:List Int):(Gn xs).length=10:=by simp[Gn]
theorem EX {y:Int} (h0:0<=y) (h1:y<10):(Gn xs)[0+y.toNat*1]? = some (.int .i64 (cnt xs y)):=by
 have:y.toNat<10:=by omega
 have e:((y.toNat:Nat):Int)=y:=by omega
 simp[Gn,this,e]
theorem F8 {y:Int} (h0:0<=y) (h1:y<10):(Gn xs).set (0+y.toNat*1) (.int .i64 (cnt xs y+1))=Gn (xs++[y]):=by
 apply List.ext_getElem?
 intro k
 by_cases hk:k<10
 ·rw[List.getElem?_set]
  by_cases e:0+y.toNat*1=k
  ·have e2:(k:Int)=y:=by omega
   rw[if_pos e,if_pos (by rw[EG];omega)];simp[Gn,hk,D9,e2]
  have e2:¬y=(k:Int):=by omega
  rw[if_neg e];simp[Gn,hk,D9,e2]
 rw[List.getElem?_eq_none (by simp[Gn];omega),List.getElem?_eq_none (by simp[Gn];omega)]
def lsum:List Int->Int
 |[]=>0
 |x::xs=>x+lsum xs
theorem SlI.shape (h:SlI u v xs):∃p cap,v = .slice p xs.length cap:=by
 obtain⟨_,p,cap,h,_⟩:=h;exact⟨p,cap,h⟩
theorem IZ:∀(xs:List Int) (y:Int),lsum (xs++[y])=lsum xs+y
 |[],y=>by simp[lsum]
 |x::xs,y=>by simp[lsum,IZ xs y];omega
theorem SO:∀(xs:List Int),(∀x∈xs,0<=x/\x<10)->0<=lsum xs/\lsum xs<=10*xs.length
 |[],_=>by simp[lsum]
 |x::xs,h=>by
  have h1:=SO xs fun y hy=>h y (by simp[hy]);have h2:=h x (by simp);simp only[lsum,List.length_cons];omega
def part (xs:List Int) (a b:Int):List Int:=(xs.drop a.toNat).take ((b+1).toNat-a.toNat)
def Bd (w s:Int) (c:Clue):Bool:=
 if c.k=1 then Aj c.a 0 (w-1)&&Aj c.n 0 (s-1)&&decide (c.b=0/\c.m=0/\c.g=[])
 else if c.k=2 then Aj c.a 0 (w-1)&&Aj c.b 0 (w-1)&&decide (c.a<=c.b)&&Aj c.n 0 100&&decide (c.m=0/\c.g=[])
 else if c.k=3\/c.k=4 then Aj c.a 0 (w-1)&&Aj c.b 0 (w-1)&&decide (c.a≠c.b)&&decide (c.n=0/\c.m=0/\c.g=[])
 else if c.k=5 then Aj c.n 0 (s-1)&&Aj c.m 0 w&&decide (c.a=0/\c.b=0/\c.g=[])
 else if c.k=6 then Aj c.n 0 w&&Aj c.m 0 w&&Cd w s c.g&&decide (c.a=0/\c.b=0)
 else if c.k=7 then Aj c.a 0 (w-1)&&Aj c.n 2 10&&Aj c.m 0 (c.n-1)&&decide (c.b=0/\c.g=[])
 else false
structure Used where
 is:Bool
 a:Int
 b:Int
 n:Int
 m:Int
 q:Option Addr
 l:Nat
 cap:Nat
def EL (c:Clue) (s:Used):Bool:=s.is&&decide (c.a=s.a)&&decide (c.b=s.b)&&decide (c.n=s.n)&&decide (c.m=s.m)&&decide ((c.g.length:Int)=(s.l:Int))
theorem FE (c:Clue):((c.g.length:Int)=((0:Nat):Int))=(c.g=[]):=by simp
section
variable {w s:Int} {c:Clue}
theorem Zt (h:c.k=1) (q cap):EL c ⟨Aj c.a 0 (w-1)&&Aj c.n 0 (s-1),c.a,0,c.n,0,q,0,cap⟩=Bd w s c:=by
 simp[EL,Bd,FE,h,Bool.and_assoc]
theorem YE (h:c.k=2) (q cap):EL c ⟨((Aj c.a 0 (w-1)&&Aj c.b 0 (w-1))&&decide (c.a<=c.b))&&Aj c.n 0 100,c.a,c.b,c.n,0,q,0,cap⟩=Bd w s c:=by
 simp[EL,Bd,FE,h,Bool.and_assoc]
theorem Z9 (h:c.k=3) (q cap):EL c ⟨(Aj c.a 0 (w-1)&&Aj c.b 0 (w-1))&&decide (c.a≠c.b),c.a,c.b,0,0,q,0,cap⟩=Bd w s c:=by
 simp[EL,Bd,FE,h,Bool.and_assoc]
theorem Jaa (h:c.k=4) (q cap):EL c ⟨(Aj c.a 0 (w-1)&&Aj c.b 0 (w-1))&&decide (c.a≠c.b),c.a,c.b,0,0,q,0,cap⟩=Bd w s c:=by
 simp[EL,Bd,FE,h,Bool.and_assoc]
theorem Yx (h:c.k=5) (q cap):EL c ⟨Aj c.n 0 (s-1)&&Aj c.m 0 w,0,0,c.n,c.m,q,0,cap⟩=Bd w s c:=by
 simp[EL,Bd,FE,h,Bool.and_assoc]
theorem Zo (h:c.k=6) (q cap):EL c ⟨(Aj c.n 0 w&&Aj c.m 0 w)&&Cd w s c.g,0,0,c.n,c.m,q,c.g.length,cap⟩=Bd w s c:=by
 simp[EL,Bd,FE,h,Bool.and_assoc]
theorem Zv (h:c.k=7) (q cap):EL c ⟨(Aj c.a 0 (w-1)&&Aj c.n 2 10)&&Aj c.m 0 (c.n-1),c.a,0,c.n,c.m,q,0,cap⟩=Bd w s c:=by
 simp[EL,Bd,FE,h,Bool.and_assoc]
theorem VN (h1:¬c.k=1) (h2:¬c.k=2) (h3:¬c.k=3) (h4:¬c.k=4) (h5:¬c.k=5) (h6:¬c.k=6) (h7:¬c.k=7) (a b n m q l cap):EL c ⟨false,a,b,n,m,q,l,cap⟩=Bd w s c:=by
 simp[EL,Bd,h1,h2,h3,h4,h5,h6,h7]
end
def Kk (c:Clue) (a b n m:Int) (g:List Int):Clue:=⟨c.k,a,b,n,m,g,c.nt⟩
theorem SlI.nil (u:World):SlI u (.slice none 0 0) []:=⟨by decide,none,0,rfl,by decide,Or.inl rfl⟩
def RU (u:World) (w s:Int) (c:Clue) (x:Used):Prop:=∃g,SlI u (.slice x.q x.l x.cap) g/\(x.is&&decide (c=Kk c x.a x.b x.n x.m g))=Bd w s c
section
variable {w s:Int} {c:Clue} {u:World}
theorem Jac (h:c.k=1):RU u w s c ⟨Aj c.a 0 (w-1)&&Aj c.n 0 (s-1),c.a,0,c.n,0,none,0,0⟩:=
 ⟨[],SlI.nil u,by cases c;simp at h;subst h;simp[Kk,Bd,Bool.and_assoc]⟩
theorem YS (h:c.k=2):RU u w s c ⟨((Aj c.a 0 (w-1)&&Aj c.b 0 (w-1))&&decide (c.a<=c.b))&&Aj c.n 0 100,c.a,c.b,c.n,0,none,0,0⟩:=
 ⟨[],SlI.nil u,by cases c;simp at h;subst h;simp[Kk,Bd,Bool.and_assoc]⟩
theorem ZP (h:c.k=3):RU u w s c ⟨(Aj c.a 0 (w-1)&&Aj c.b 0 (w-1))&&decide (c.a≠c.b),c.a,c.b,0,0,none,0,0⟩:=
 ⟨[],SlI.nil u,by cases c;simp at h;subst h;simp[Kk,Bd,Bool.and_assoc]⟩
theorem Jah (h:c.k=4):RU u w s c ⟨(Aj c.a 0 (w-1)&&Aj c.b 0 (w-1))&&decide (c.a≠c.b),c.a,c.b,0,0,none,0,0⟩:=
 ⟨[],SlI.nil u,by cases c;simp at h;subst h;simp[Kk,Bd,Bool.and_assoc]⟩
theorem Jaq (h:c.k=5):RU u w s c ⟨Aj c.n 0 (s-1)&&Aj c.m 0 w,0,0,c.n,c.m,none,0,0⟩:=
 ⟨[],SlI.nil u,by cases c;simp at h;subst h;simp[Kk,Bd,Bool.and_assoc]⟩
theorem Jaj (h:c.k=6) {p:Option Addr} {cap:Nat} (h1:SlI u (.slice p c.g.length cap) c.g):RU u w s c ⟨(Cd w s c.g&&Aj c.n 0 w)&&Aj c.m 0 w,0,0,c.n,c.m,p,c.g.length,cap⟩:=
 ⟨c.g,h1,by cases c;simp at h;subst h;simp[Kk,Bd,Bool.and_assoc];grind⟩
theorem YO (h:c.k=7):RU u w s c ⟨(Aj c.a 0 (w-1)&&Aj c.n 2 10)&&Aj c.m 0 (c.n-1),c.a,0,c.n,c.m,none,0,0⟩:=
 ⟨[],SlI.nil u,by cases c;simp at h;subst h;simp[Kk,Bd,Bool.and_assoc]⟩
theorem Xg (h1:¬c.k=1) (h2:¬c.k=2) (h3:¬c.k=3) (h4:¬c.k=4) (h5:¬c.k=5) (h6:¬c.k=6) (h7:¬c.k=7):RU u w s c ⟨false,0,0,0,0,none,0,0⟩:=
 ⟨[],SlI.nil u,by simp[Bd,h1,h2,h3,h4,h5,h6,h7]⟩
end
def CN (c:Clue) (xs:List Int):Bool:=
 if c.k=1 then decide (nth xs c.a=c.n)
 else if c.k=2 then decide (lsum (part xs c.a c.b)=c.n)
 else if c.k=3 then decide (nth xs c.a<nth xs c.b)
 else if c.k=4 then decide (nth xs c.a=nth xs c.b)
 else if c.k=5 then decide (cnt xs c.n=c.m)
 else if c.k=6 then decide (Bw xs c.g=c.n)&&decide (BI xs c.g 10-Bw xs c.g=c.m)
 else decide (nth xs c.a%c.n=c.m)
def Fj (c:Clue) (xs:List Int):Bool:=CN c xs != c.nt
def Oz (cs:List Clue) (xs:List Int):Int:=idxF (fun c=>!Fj c xs) cs
def DE (w s:Int) (cs:List Clue):Int:=if Bg w s then if 20<(cs.length:Int)then 2 else if cs.all (Bd w s)then 0 else 11 else 10
def DP (w s:Int) (c:Clue):Int:=if Bg w s then if Bd w s c then 0 else 11 else 10
def GV (w s:Int) (c:Clue) (xs:List Int):Int:=if DP w s c=0 then Ep w s xs else DP w s c
structure Use (w s:Int) (c:Clue) (xs:List Int):Prop where
 lk:Bg w s=true
 cl:Bd w s c=true
 cd:Cd w s xs=true
theorem HM {w:Int} (hL:Bg w s=true) (h:Cd w s xs=true):xs.length<=4/\∀x∈xs,0<=x/\x<10:=by
 have h1:=Dc hL;obtain⟨h2,h3⟩:=JS h;exact⟨by omega,fun x hx=>by have:=h3 x hx;omega⟩
section
variable {w s:Int} {c:Clue} {xs:List Int}
theorem Use.len (h:Use w s c xs):(xs.length:Int)=w/\1<=xs.length/\xs.length<=4:=by
 have h1:=Dc h.lk;have h2:=(JS h.cd).1;omega
theorem Use.nth (h:Use w s c xs) (h0:0<=i) (h1:i<xs.length):0<=nth xs i/\nth xs i<10:=(HM h.lk h.cd).2 _ (Ai h0 h1)
theorem Use.facts (h:Use w s c xs):(c.k=1->0<=c.a/\c.a<xs.length)/\(c.k=2->0<=c.a/\c.a<=c.b/\c.b<xs.length)/\
  (c.k=3\/c.k=4->0<=c.a/\c.a<xs.length/\0<=c.b/\c.b<xs.length)/\(c.k=7->0<=c.a/\c.a<xs.length/\2<=c.n/\c.n<=10)/\1<=c.k/\c.k<=7/\(c.k=7->0<=YtllebkdchemabaaGreatDoor.nth xs c.a):=by
 have h1:=h.len.1;have h2:=h.cl
 have h3:c.k=7->0<=c.a/\c.a<xs.length/\2<=c.n/\c.n<=10:=by
  intro hk;simp[Bd,hk,Aj]at h2;omega
 refine⟨?_,?_,?_,h3,?_,?_,fun hk=>(h.nth (h3 hk).1 (h3 hk).2.1).1⟩
 ·intro hk;simp[Bd,hk,Aj]at h2;omega
 ·intro hk;simp[Bd,hk,Aj]at h2;omega
 ·rintro(hk|hk)<;>(simp[Bd,hk,Aj]at h2;omega)
 ·unfold Bd at h2;repeat' split at h2
  all_goals first|omega|simp at h2
 unfold Bd at h2;repeat' split at h2
 all_goals first|omega|simp at h2
theorem Use.guess (h:Use w s c xs) (h6:c.k=6):xs.length=c.g.length/\Cd w s c.g=true:=by
 have h2:=h.cl;simp[Bd,h6]at h2;have h3:=(JS h2.1.2).1;have h1:=h.len.1;exact⟨by omega,h2.1.2⟩
theorem Use.psum (h:Use w s c xs) (i:Nat):0<=lsum ((part xs c.a c.b).take i)/\lsum ((part xs c.a c.b).take i)<=40:=by
 have h1:=SO ((part xs c.a c.b).take i) (fun x hx=>(HM h.lk h.cd).2 x (List.mem_of_mem_drop (List.mem_of_mem_take (List.mem_of_mem_take hx))));have h2:=h.len;have h3:((part xs c.a c.b).take i).length<=4:=by simp[part];omega
 omega
end
theorem O9 (xs:List Int) (h:xs.length<=i):lsum (xs.take i.toNat)=lsum xs:=by rw[Ee xs h]
theorem PW {b:Int} (h0:0<=a) (h1:a<=b) (h2:b<xs.length):((part xs a b).length:Int)=b+1-a:=by
 simp[part];omega
theorem Pc {b:Int} (h0:0<=a) (h1:a<=i) (h2:i<=b) (h3:b<xs.length):nth (part xs a b) (i-a)=nth xs i:=by
 have e:a.toNat+(i-a).toNat=i.toNat:=by omega
 have e2:(i-a).toNat<(b+1).toNat-a.toNat:=by omega
 simp[nth,part,List.getD,List.getElem?_take,List.getElem?_drop,e2,e]
theorem Q9 {w:Int} (h:Ep w s xs=0):Cd w s xs=true:=by
 unfold Ep at h;cases h1:Bg w s<;>cases h2:Cd w s xs<;>simp_all
variable {cs:List Clue}
theorem MC {w:Int} (h:DE w s cs=0):Bg w s=true:=by
 unfold DE at h;cases h1:Bg w s<;>simp_all
theorem Ql {w:Int} {c:Clue} (h:DP w s c=0):Bg w s=true:=by
 unfold DP at h;cases h1:Bg w s<;>simp_all
theorem MQ {w:Int} (h:DE w s cs=0):∀c∈cs,Bd w s c=true:=by
 have:cs.all (Bd w s)=true:=by
  unfold DE at h;repeat' split at h
  all_goals first|assumption|simp at h
 exact List.all_eq_true.1 this
theorem Rh {w:Int} {c:Clue} (h:DP w s c=0) (h2:Ep w s xs=0):Use w s c xs:=
 ⟨Ql h,by unfold DP at h;cases h1:Bg w s<;>cases h3:Bd w s c<;>simp_all,Q9 h2⟩
def Aw (c:Clue) (g:Value):List Value:=[.int .i64 c.k,.int .i64 c.a,.int .i64 c.b,.int .i64 c.n,.int .i64 c.m,g,.bool c.nt]
def B2 (cs:List Clue) (gs:List Value):List Value:=(List.zipWith Aw cs gs).flatten
theorem N2 {α:Type} (k:Nat):∀(L:List (List α)),(∀x∈L,x.length=k)->∀i j,j<k->L.flatten[i*k+j]? = (L[i]?).bind fun x=>x[j]?
 |[],_,i,j,_=>by simp
 |x::L,h,0,j,hj=>by
  have hx:=h x (by simp);simp only[List.flatten_cons,Nat.zero_mul,Nat.zero_add];rw[List.getElem?_append_left (by omega)];simp
 |x::L,h,i+1,j,hj=>by
  have hx:=h x (by simp);simp only[List.flatten_cons];rw[List.getElem?_append_right (by rw[hx,Nat.succ_mul];omega)];have e:(i+1)*k+j-x.length=i*k+j:=by rw[hx,Nat.succ_mul];omega
  rw[e,N2 k L (fun y hy=>h y (by simp[hy])) i j hj];simp
theorem PI {α:Type} (k:Nat):∀(L:List (List α)),(∀x∈L,x.length=k)->L.flatten.length=L.length*k
 |[],_=>by simp
 |x::L,h=>by
  simp only[List.flatten_cons,List.length_append,List.length_cons,PI k L (fun y hy=>h y (by simp[hy])),h x (by simp),Nat.succ_mul];omega
theorem TW (hl:gs.length=cs.length) (h0:0<=i) (h1:i<cs.length) (j:Nat) (hj:j<7):(B2 cs gs)[i.toNat*7+j]? = (Aw (nth cs i) (nth gs i))[j]?:=by
 have hc:i.toNat<cs.length:=by omega
 have hg:i.toNat<gs.length:=by omega
 unfold B2;rw[N2 7 _ (by intro x hx;obtain⟨n,hn,rfl⟩:=List.getElem_of_mem hx;simp[Aw]) _ _ hj];have e:(List.zipWith Aw cs gs)[i.toNat]? = some (Aw cs[i.toNat] gs[i.toNat]):=by simp[List.getElem?_zipWith,hc,hg]
 rw[e];simp[nth,List.getD,hc,hg]
structure ClS (u:World) (v:Value) (cs:List Clue) (gs:List Value):Prop where
 sp:SlC u v cs.length 7 (B2 cs gs)
 len:gs.length=cs.length
 el:∀i:Int,0<=i->i<cs.length->SlI u (nth gs i) (nth cs i).g
theorem ClS.ext (h:ClS w v cs gs) (hb:Below w.heap.size w u):ClS u v cs gs:=⟨h.sp.ext hb,h.len,fun i h0 h1=>(h.el i h0 h1).ext hb⟩
theorem ClS.le (h:ClS u v cs gs):cs.length<=9223372036854775807:=h.sp.le
section
variable {P:Program} {ro:Option Nat} {n0:Nat} {w0:World} {ds:List Deferred} {ops:Array Oper} {Q:Exit->Act->World->Prop} {L:List SA}
 {rest:List Oper} {l:List Value} {d:Option Tmp} {ty:TypeId} {ps:String} {af:Array Edge} {g:Option (Nat×Bool)} {C:World->Prop}
theorem ClS.st (h:ClS w0 v cs gs) (hu:St w0.heap.size w0 L u):ClS u v cs gs:=h.ext hu.below
theorem Sn {e:TypeId} {x:Operand} (hT:sl P T=some (e,7,by_)) (hx:evo l x=some v) (hy:evo l y=some (.int .i64 i))
  (hs:ClS w v cs gs) (h0:0<=i) (h1:i<cs.length):Det P C ⟨d,.indexAddr T x y,ty,ps,af,g⟩ l (.pointer (some (sla v (i.toNat*7)))):=
 DO hT hx hy hs.sp h0 h1
theorem UU {x:Operand} (hx:evo l x=some (.pointer (some (sla v (i.toNat*7))))) (hs:ClS w0 v cs gs) (h:0<=i/\i<cs.length) (hT:tk P T=some (true,7)):
  Det P (St w0.heap.size w0 L) ⟨d,.load T x,ty,ps,af,g⟩ l (.agg #[.int .i64 (nth cs i).k,.int .i64 (nth cs i).a,.int .i64 (nth cs i).b,.int .i64 (nth cs i).n,.int .i64 (nth cs i).m,nth gs i,.bool (nth cs i).nt]):=
 DX (cs:=Aw (nth cs i) (nth gs i)) hx (fun _ hu=>hs.sp.ext hu.below) (fun j y hy=>by
  have hj:j<7:=by have:=(List.getElem?_eq_some_iff.1 hy).1;simpa [Aw]using this
  rw[TW hs.len h.1 h.2 j hj];exact hy) hT
end
def digs:Nat->Int->Int->List Int
 |0,_,_=>[]
 |k+1,s,n=>digs k s (n/s)++[n%s]
def Hl (w s:Int):Nat:=s.toNat^w.toNat
def Fd (w s:Int) (n:Nat):List Int:=digs w.toNat s n
def allC (w s:Int):List (List Int):=(List.range (Hl w s)).map (Fd w s)
def NE (w s:Int) (cs:List Clue):List (List Int):=(allC w s).filter fun xs=>decide (Oz cs xs<0)
theorem D5:∀(k:Nat) (s n:Int),(digs k s n).length=k
 |0,_,_=>rfl
 |k+1,s,n=>by simp[digs,D5 k]
theorem LY:∀(k:Nat) (s:Int),digs k s 0=List.replicate k 0
 |0,_=>rfl
 |k+1,s=>by simp[digs,LY k,List.replicate_succ']
theorem OM:∀(k:Nat) (s n:Int),0<s->∀x∈digs k s n,0<=x/\x<=s-1
 |0,_,_,_=>by simp[digs]
 |k+1,s,n,h=>by
  intro x hx;simp only[digs,List.mem_append,List.mem_singleton]at hx;rcases hx with hx|rfl
  ·exact OM k s _ h x hx
  have:=Int.emod_nonneg n (show s≠0 by omega);have:=Int.emod_lt_of_pos n h;omega
theorem N6 {w:Int} (hL:Bg w s=true) (n:Nat):Cd w s (Fd w s n)=true:=by
 have h1:=Dc hL;simp only[Cd,Aj,Fd,D5,Bool.and_eq_true,decide_eq_true_eq,List.all_eq_true];exact⟨by omega,fun x hx=>OM _ s n (by omega) x hx⟩
theorem O7 (w s:Int):(allC w s).length=Hl w s:=by simp[allC]
theorem Tf {w:Int} (h:n<Hl w s):(allC w s)[n]? = some (Fd w s n):=by simp[allC,h]
theorem Jf {w:Int} (h:n<Hl w s):allC w s=(allC w s).take n++Fd w s n::(allC w s).drop (n+1):=by
 have h1:=Tf h;obtain⟨h2,h3⟩:=List.getElem?_eq_some_iff.1 h1
 conv=>lhs;rw[<-List.take_append_drop n (allC w s),List.drop_eq_getElem_cons h2,h3]
theorem Mq {w:Int} (h:n<Hl w s):(allC w s).take (n+1)=(allC w s).take n++[Fd w s n]:=by
 obtain⟨h2,h3⟩:=List.getElem?_eq_some_iff.1 (Tf h);rw[List.take_succ_eq_append_getElem h2,h3]
theorem VF {w:Int} (hL:Bg w s=true) (h:xs∈allC w s):Cd w s xs=true:=by
 simp only[allC,List.mem_map,List.mem_range]at h;obtain⟨n,_,rfl⟩:=h;exact N6 hL n
theorem Sj {w:Int} (hL:Bg w s=true):0<Hl w s:=Nat.pow_pos (by have:=Dc hL;omega)
theorem Xt {w:Int} (hL:Bg w s=true):Hl w s<=10000:=by
 have h1:=Dc hL
 calc s.toNat^w.toNat<=10^w.toNat:=Nat.pow_le_pow_left (by omega) _
  _<=10^4:=Nat.pow_le_pow_right (by omega) (by omega)
section
variable {w s:Int} {cs:List Clue} {pre post:List (List Int)} {x:List Int}
def fitB (cs:List Clue) (xs:List Int):Bool:=decide (Oz cs xs<0)
theorem Ig (hall:allC w s=pre++x::post) (h:fitB cs x=true):NE w s cs=pre.filter (fitB cs)++x::post.filter (fitB cs):=by
 show(allC w s).filter (fitB cs)=_;rw[hall];simp[List.filter_append,List.filter_cons,h]
theorem ME (h:fitB cs x=true):(pre++[x]).filter (fitB cs)=pre.filter (fitB cs)++[x]:=by simp[List.filter_append,List.filter_cons,h]
theorem Jdh (h:fitB cs x=false):(pre++[x]).filter (fitB cs)=pre.filter (fitB cs):=by simp[List.filter_append,List.filter_cons,h]
theorem WJ (hL:Bg w s=true) (cs:List Clue):(NE w s cs).length<=10000:=by
 have h1:=List.length_filter_le (fitB cs) (allC w s);have h2:=Xt hL;rw[O7]at h1;exact Nat.le_trans h1 h2
end
theorem TF [Inhabited α] {a b:List α} {x:α} (h:a.length=i.toNat):nth (a++x::b) i=x:=by
 simp[nth,List.getD,<-h]
theorem M7 {a b:List α} {x y:α} {i:Nat} (h:a.length=i):(a++x::b).set i y=a++y::b:=by
 subst h;simp[List.set_append]
structure Odo (k:Nat) (s n i m:Int) (xs:List Int):Prop where
 lo: -1<=i
 hi:i<k
 pos:0<=m
 xs_:xs=digs (i+1).toNat s m++List.replicate (k-(i+1).toNat) 0
 nx:digs k s (n+1)=digs (i+1).toNat s (m+1)++List.replicate (k-(i+1).toNat) 0
 num:n+1=(m+1)*s^(k-(i+1).toNat)
section
variable {k:Nat} {s n i m:Int} {xs:List Int}
theorem Odo.start (hn:0<=n):Odo k s n ((k:Int)-1) n (digs k s n):=by
 have e:((k:Int)-1+1).toNat=k:=by omega
 exact⟨by omega,by omega,hn,by simp[e],by simp[e],by simp[e]⟩
theorem Odo.len (h:Odo k s n i m xs):xs.length=k:=by
 have:=h.hi;have:=h.lo;rw[h.xs_];simp[D5];omega
theorem Odo.at (h:Odo k s n i m xs) (h0:0<=i):xs=digs i.toNat s (m/s)++(m%s)::List.replicate (k-(i+1).toNat) 0:=by
 have e:(i+1).toNat=i.toNat+1:=by omega
 have:=h.xs_;rw[e]at this⊢
 simpa [digs]using this
theorem Odo.nth (h:Odo k s n i m xs) (h0:0<=i):nth xs i=m%s:=by
 rw[h.at h0,TF (D5 _ _ _)]
theorem Odo.back (h:Odo k s n i m xs) (h0:0<=i) (hs:2<=s) (hd:YtllebkdchemabaaGreatDoor.nth xs i=s-1):Odo k s n (i-1) (m/s) (xs.set i.toNat 0):=by
 rw[h.nth h0]at hd;have e:(i+1).toNat=i.toNat+1:=by omega
 have e2:(i-1+1).toNat=i.toNat:=by omega
 have e3:k-i.toNat=(k-(i.toNat+1))+1:=by have:=h.hi;omega
 have e4:m+1=(m/s+1)*s:=by
  have:=Int.mul_ediv_add_emod m s;rw[Int.add_mul,Int.mul_comm (m/s) s];omega
 refine⟨by omega,by have:=h.hi;omega,Int.ediv_nonneg h.pos (by omega),?_,?_,?_⟩
 ·rw[h.at h0,M7 (D5 _ _ _),e2,e3,e,List.replicate_succ]
 ·rw[h.nx,e,digs,e2,e3,List.replicate_succ];have h1:(m+1)/s=m/s+1:=by rw[e4,Int.mul_ediv_cancel _ (by omega)]
  have h2:(m+1)%s=0:=by rw[e4];simp
  rw[h1,h2];simp
 rw[h.num,e,e2,e3,Int.pow_succ,e4,Int.mul_assoc,Int.mul_comm s]
theorem Odo.next (h:Odo k s n i m xs) (h0:0<=i) (hs:2<=s) (hd:¬YtllebkdchemabaaGreatDoor.nth xs i=s-1):xs.set i.toNat (YtllebkdchemabaaGreatDoor.nth xs i+1)=digs k s (n+1):=by
 have hd':=hd;rw[h.nth h0]at hd';have e:(i+1).toNat=i.toNat+1:=by omega
 rw[h.nth h0]
 conv=>lhs;rw[h.at h0]
 rw[M7 (D5 _ _ _),h.nx,e,digs];have h1:=Int.mul_ediv_add_emod m s;have h2:=Int.emod_nonneg m (show s≠0 by omega);have h3:=Int.emod_lt_of_pos m (show 0<s by omega)
 have h5:(m+1)/s=m/s/\(m+1)%s=m%s+1:=by
  rw[Int.ediv_emod_unique (by omega)];omega
 rw[h5.1,h5.2];simp
theorem Odo.start' {w:Int} (hk:(k:Int)=w) (hn:0<=n):Odo k s n (w-1) n (digs k s n):=by
 subst hk;exact Odo.start hn
theorem Odo.bd (h:Odo k s n i m xs) (h0:0<=i) (hs:2<=s):0<=YtllebkdchemabaaGreatDoor.nth xs i/\YtllebkdchemabaaGreatDoor.nth xs i<s:=by
 rw[h.nth h0];exact⟨Int.emod_nonneg m (by omega),Int.emod_lt_of_pos m (by omega)⟩
theorem Odo.more (h:Odo k s n i m xs) (h0:0<=i) (hs:2<=s) (hd:¬YtllebkdchemabaaGreatDoor.nth xs i=s-1) (hn:n<s^k):n+1<s^k:=by
 rcases Int.lt_or_eq_of_le (show n+1<=s^k by omega)with h1|h1
 ·exact h1
 exfalso;rw[h.nth h0]at hd;have e:k=(i.toNat+1)+(k-(i+1).toNat):=by have:=h.hi;omega
 have h2:=h.num;rw[h1]at h2;have h3:s^k=s^(i.toNat+1)*s^(k-(i+1).toNat):=by rw[<-Int.pow_add];exact congrArg _ e
 rw[h3]at h2;have hp:s^(k-(i+1).toNat)≠0:=by have:=Int.pow_pos (n:=s) (m:=k-(i+1).toNat) (by omega);omega
 have h4:=Int.eq_of_mul_eq_mul_right hp h2;rw[Int.pow_succ]at h4;have h5:(m+1)%s=0:=by rw[<-h4];simp
 have h6:=Int.mul_ediv_add_emod m s;have h7:=Int.mul_ediv_add_emod (m+1) s;have h8:=Int.emod_nonneg m (show s≠0 by omega);have h9:=Int.emod_lt_of_pos m (show 0<s by omega)
 have h10:(m+1)/s=m/s/\(m+1)%s=m%s+1:=by
  rw[Int.ediv_emod_unique (by omega)];omega
 omega
theorem Ug {w s:Int} (h:2<=s):((Hl w s:Nat):Int)=s^w.toNat:=by
 unfold Hl;rw[Int.natCast_pow];congr 1;omega
theorem M6 (w s:Int):Fd w s 0=List.replicate w.toNat 0:=LY _ _
theorem Xu {w s:Int} {n:Nat} (h:n=Hl w s):(allC w s).take n=allC w s:=List.take_of_length_le (by rw[O7];omega)
theorem Odo.end_ (h:Odo k s n i m xs) (hi:i<0) (hs:2<=s) (hn:n<s^k):n+1=s^k:=by
 have e:i = -1:=by have:=h.lo;omega
 have h1:=h.num;have h2:=h.pos;subst e;simp at h1;have h3:(0:Int)<=m*s^k:=Int.mul_nonneg h2 (Int.pow_nonneg (by omega));rw[Int.add_mul]at h1;omega
end
def roS (p:World->Prop):SA where
 h S u:=(∀u',KeepC S u u'->p u')/\∀k,S k->k<u.heap.size
 loc S u u' h hk:=⟨fun u'' h2=>h.1 u'' (fun k hS o ho=>h2 k hS o (hk k hS o ho)),fun k hS=>hk.lt hS (h.2 k hS)⟩
 dom S u k h hS:=h.2 k hS
theorem roS.now {p:World->Prop} (h:(roS p).h S u):p u:=h.1 u (fun _ _ _ h=>h)
theorem Star.ro {p:World->Prop} (hj:L[j]? = some (roS p)) (h:Star L S u):p u:=by
 obtain⟨T,_,h2⟩:=h.get hj;exact roS.now h2
section
variable {n0:Nat} {w0 u:World} {L:List SA}
theorem St.ro {p:World->Prop} (hj:L[j]? = some (roS p)) (h:St n0 w0 L u):p u:=h.star.ro hj
theorem St.toRo {p:World->Prop} (hp:∀S u,A.h S u->p u) (h:St n0 w0 (A::L) u):St n0 w0 (roS p::L) u:=by
 obtain⟨h1,h2,T,h3,h4,h5⟩:=h;exact⟨h1,h2,T,h3,⟨fun u' hk=>hp T u' (A.loc T u u' h4 hk),fun k hS=>A.dom T u k h4 hS⟩,h5⟩
theorem St.osl0 {e:TypeId} {size:Nat} (h:St n0 w0 L u):St n0 w0 (osl e size (.slice none 0 0) 0 []::L) u:=
 ⟨h.le,h.below,fun _=>False,fun _ h=>h.elim,⟨fun k=>by simp[Value.ownBlock],World.ownsRow_nil u 0 e size⟩,h.star.sup fun _ h=>⟨h,fun h=>h⟩⟩
def selo:List SA->List Nat->Option (List SA)
 |_,[]=>some []
 |L,i::is=>match L[i]?,lera L i with
  |some a,some L1=>match selo L1 is with
   |some r=>some (a::r)
   |none=>none
  |_,_=>none
theorem Ju:∀{L:List SA} {i:Nat} {L1:List SA},lera L i=some L1->L1=L.eraseIdx i
 |[],i,L1,h=>by simp[lera]at h;subst h;simp
 |x::L,0,L1,h=>by simp[lera]at h;subst h;simp
 |x::L,i+1,L1,h=>by
  unfold lera at h;split at h
  ·rename_i r hr;simp at h;subst h;simp[Ju hr]
  simp at h
theorem GU:∀{L:List SA} {i:Nat} {a:SA},L[i]? = some a->L.Perm (a::L.eraseIdx i)
 |[],_,_,h=>by simp at h
 |x::L,0,a,h=>by simp at h;subst h;simp
 |x::L,i+1,a,h=>by
  have:=GU (L:=L) (i:=i) (by simpa using h);simp only[List.eraseIdx_cons_succ];exact(this.cons x).trans (.swap _ _ _)
theorem Star.sel:∀{is:List Nat} {L L':List SA} {S:Nat->Prop} {u:World},selo L is=some L'->Star L S u->Star L' S u
 |[],L,L',S,u,h,hs=>by simp[selo]at h;subst h;trivial
 |i::is,L,L',S,u,h,hs=>by
  unfold selo at h;split at h
  ·rename_i a L1 h1 h2;split at h
   ·rename_i r hr;simp at h;subst h;have h3:=Ju h2;subst h3;obtain⟨T,hT,hA,hL⟩:=hs.perm (GU h1);exact⟨T,hT,hA,Star.sel hr hL⟩
   simp at h
  simp at h
theorem St.sel (is:List Nat) (he:selo L is=some L') (h:St n0 w0 L u):St n0 w0 L' u:=⟨h.le,h.below,h.star.sel he⟩
theorem retR {p:World->Prop} (hp:∀S u,Star L S u->p u):∀u,St w0.heap.size w0 L u->RetF w0 v (roS p) (.returned v) u:=fun u hu=>
 ⟨rfl,hu.below,fun k=>w0.heap.size<=k/\k<u.heap.size,⟨fun u' hk=>hp _ u' (hu.star.keep (S':=fun k=>w0.heap.size<=k/\k<u.heap.size) (fun k h o ho=>hk k ⟨h,(Array.getElem?_eq_some_iff.1 ho).1⟩ o ho) fun k h1 h2=>⟨h1,h2⟩),fun k h=>h.2⟩,fun k h=>h.1⟩
end
def roI (v:Value) (xs:List Int):SA:=roS fun u=>SlI u v xs
section
variable {n0:Nat} {w0 u:World} {L:List SA} {j:Nat} {v:Value}
theorem St.roI (hj:L[j]? = some (YtllebkdchemabaaGreatDoor.roI v xs)) (h:St n0 w0 L u):SlI u v xs:=h.ro hj
end
theorem Star.oints {e:TypeId} (hj:L[j]? = some (YtllebkdchemabaaGreatDoor.oints e v xs)) (h:Star L S u):SlI u v xs:=by
 obtain⟨T,_,h2⟩:=h.get hj;exact C8 h2.2
theorem Star.osl {e:TypeId} {xs:List Value} (hj:L[j]? = some (YtllebkdchemabaaGreatDoor.osl e k v n xs)) (h:Star L S u):SlC u v n k xs:=by
 obtain⟨T,_,h2⟩:=h.get hj;exact C8 h2.2
section
variable {P:Program} {ro:Option Nat} {n0:Nat} {w0:World} {ds:List Deferred} {ops:Array Oper} {Q:Exit->Act->World->Prop} {L:List SA}
 {rest:List Oper} {l:List Value} {d:Option Tmp} {ty:TypeId} {ps:String} {af:Array Edge} {g:Option (Nat×Bool)} {C:World->Prop} {fuel:Nat} {bl:List Bool}
theorem CS.weak {c:Code} (h:∀u,St n0 w0 L u->St n0 w0 L' u) (k:CS P ro n0 w0 ds c Q L' l):CS P ro n0 w0 ds c Q L l:=fun u hu=>k u (h u hu)
theorem WS.weak (h:∀u,St n0 w0 L u->St n0 w0 L' u) (k:WS P ro n0 w0 ds ops Q L' rest l):WS P ro n0 w0 ds ops Q L rest l:=fun u hu=>k u (h u hu)
theorem QS.weak {e:Exit} (h:∀u,St n0 w0 L u->St n0 w0 L' u) (k:QS n0 w0 ds Q e L' l):QS n0 w0 ds Q e L l:=fun u hu=>k u (h u hu)
theorem CS.sel (is:List Nat) {c:Code} (he:selo L is=some L') (k:CS P ro n0 w0 ds c Q L' l):CS P ro n0 w0 ds c Q L l:=fun u hu=>k u (hu.sel is he)
theorem WS.sel (is:List Nat) (he:selo L is=some L') (k:WS P ro n0 w0 ds ops Q L' rest l):WS P ro n0 w0 ds ops Q L rest l:=fun u hu=>k u (hu.sel is he)
theorem QS.sel (is:List Nat) {e:Exit} (he:selo L is=some L') (k:QS n0 w0 ds Q e L' l):QS n0 w0 ds Q e L l:=fun u hu=>k u (hu.sel is he)
theorem CS.ex {f:β->SA} {c:Code} (k:∀b,CS P ro n0 w0 ds c Q (f b::L) l):CS P ro n0 w0 ds c Q (exS f::L) l:=fun u hu=>let⟨b,hb⟩:=hu.ex;k b u hb
theorem CS.unpack {c:Code} (k:CS P ro n0 w0 ds c Q (L1++L2) l):CS P ro n0 w0 ds c Q (star L1::L2) l:=fun u hu=>k u hu.unpack
theorem QS.unpack {e:Exit} (k:QS n0 w0 ds Q e (L1++L2) l):QS n0 w0 ds Q e (star L1::L2) l:=fun u hu=>k u hu.unpack
theorem QS.ex {f:β->SA} {e:Exit} (k:∀b,QS n0 w0 ds Q e (f b::L) l):QS n0 w0 ds Q e (exS f::L) l:=fun u hu=>let⟨b,hb⟩:=hu.ex;k b u hb
theorem LA {e:TypeId} {a b:Nat} {x:Operand} {p:Option Addr} {c:Nat} (hT:sl P T=some (e,a,b)) (hx:evo l x=some (.slice p n c)) (hy:evo l y=some (.slice none 0 0)):
  Det P C ⟨d,.binOp .eql T x y T',ty,ps,af,g⟩ l (.bool p.isNone):=fun u _=>by
 (replace hx:=Am hx;replace hy:=Am hy)
 obtain⟨_,hu,_⟩:=BX hT;simp[execOp,Ap,hx,hy,eqGuard,Go.run_eql_slice_nil u T e p n c hu]
theorem SlC.nil {c:Nat} (h:SlC u (.slice none n c) n k flat):n=0:=by
 obtain⟨_,p,cap,h1,_,h2⟩:=h;rcases h2 with h2|⟨b,o,rfl,_⟩
 ·exact h2
 simp at h1
theorem WS.appendI {e:TypeId} {i:Nat} {x:Operand} {z:Value} {ys:List Int} (hT:sl P T=some (e,1,by_)) (hz:zv P e=some [.int .i64 0])
  (hx:evo l x=some v) (hj:L[j]? = some (oints e v xs)) (hy:evo l y=some z) (hn:∀u,St n0 w0 L u->SlI u z ys)
  (hb:(xs.length+ys.length)*by_<=140737488355328) (hm:xs.length+ys.length<=9223372036854775807)
   (hl:∀v,lset l i v=some (l' v)) {L':Value->List SA} (hL:∀v',lset L j (oints e v' (xs++ys))=some (L' v')) (k:∀v',WS P ro n0 w0 ds ops Q (L' v') rest (l' v')):
  WS P ro n0 w0 ds ops Q L (⟨some i,.call ⟨.builtin .append,#[x,y],#[T,T]⟩,ty,ps,af,none⟩::rest) l:=by
 refine WS.append hT hz rfl Nat.one_pos hx hj hy hn (by simp[Value.oneCell']) hm hb hl (L':=L') (fun v'=>?_) k;rw[<-hL v'];simp[oints,ints]
theorem WS.append1 {e:TypeId} {i:Nat} {x:Operand} {z a:Value} {xs:List Value} {zc:Value} {jz:Nat} (hT:sl P T=some (e,1,by_)) (hz:zv P e=some [zc])
  (hx:evo l x=some v) (hj:L[j]? = some (osl e 1 v xs.length xs)) (hy:evo l y=some z) (hn:L[jz]? = some (osl e 1 z 1 [a])) (h1:a.oneCell'=true)
  (hb:(xs.length+1)*by_<=140737488355328) (hm:xs.length+1<=9223372036854775807)
   (hl:∀v,lset l i v=some (l' v)) {L':Value->List SA} (hL:∀v',lset L j (osl e 1 v' (xs++[a]).length (xs++[a]))=some (L' v')) (k:∀v',WS P ro n0 w0 ds ops Q (L' v') rest (l' v')):
  WS P ro n0 w0 ds ops Q L (⟨some i,.call ⟨.builtin .append,#[x,y],#[T,T]⟩,ty,ps,af,none⟩::rest) l:=by
 refine WS.append hT hz rfl Nat.one_pos hx hj hy (m:=1) (fun u hu=>BZ hu hn) (by simpa using h1) hm hb hl (L':=L') (fun v'=>?_) k;rw[<-hL v'];simp
theorem WS.oc {e:TypeId} {xs:List Value} (hj:L[j]? = some (osl e k v n xs)) (kk:v.oneCell'=true->WS P ro n0 w0 ds ops Q L rest l):WS P ro n0 w0 ds ops Q L rest l:=fun u hu=>by
 obtain⟨_,p,cap,rfl,_⟩:=BZ hu hj;exact kk rfl u hu
theorem CS.oc {e:TypeId} {xs:List Value} {c:Code} (hj:L[j]? = some (osl e k v n xs)) (kk:v.oneCell'=true->CS P ro n0 w0 ds c Q L l):CS P ro n0 w0 ds c Q L l:=fun u hu=>by
 obtain⟨_,p,cap,rfl,_⟩:=BZ hu hj;exact kk rfl u hu
theorem CS.factE {p:Prop} {c:Code} (hj:L[j]? = some (fact p)) (kk:p->CS P ro n0 w0 ds c Q L l):CS P ro n0 w0 ds c Q L l:=fun u hu=>kk (hu.factE hj) u hu
theorem QS.factE {p:Prop} {e:Exit} (hj:L[j]? = some (fact p)) (kk:p->QS n0 w0 ds Q e L l):QS n0 w0 ds Q e L l:=fun u hu=>kk (hu.factE hj) u hu
theorem QS.exI {f:β->SA} {e:Exit} (b:β) (k:QS n0 w0 ds Q e (exS f::L) l):QS n0 w0 ds Q e (f b::L) l:=fun u hu=>k u (hu.exI b)
theorem QS.pack {e:Exit} (k:QS n0 w0 ds Q e (star L1::L2) l):QS n0 w0 ds Q e (L1++L2) l:=fun u hu=>k u hu.pack
theorem QS.factI {p:Prop} {e:Exit} (hp:p) (k:QS n0 w0 ds Q e (fact p::L) l):QS n0 w0 ds Q e L l:=fun u hu=>k u (hu.factI hp)
theorem WS.buildI1 {e:TypeId} {i:Nat} {x:Operand} (hT:sl P T=some (e,1,by_)) (hz:zv P e=some [.int .i64 0]) (hx:evo l x=some (.int .i64 a))
   (hl:∀v,lset l i v=some (l' v)) (k:∀v,WS P ro n0 w0 ds ops Q (oints e v [a]::L) rest (l' v)):
  WS P ro n0 w0 ds ops Q L (⟨some i,.buildSlice T 1 #[(0,x)],ty,ps,af,none⟩::rest) l:=
 WS.buildSlice1 (pl:=[(0,x)]) (vs:=[.int .i64 a]) hT hz (by simp[Am hx]) rfl (by decide) (by simp[Value.oneCell']) hl k
theorem WS.buildV1 {e:TypeId} {i:Nat} {x:Operand} {a zc:Value} (hT:sl P T=some (e,1,by_)) (hz:zv P e=some [zc]) (hx:evo l x=some a) (h1:a.oneCell'=true)
   (hl:∀v,lset l i v=some (l' v)) (k:∀v,WS P ro n0 w0 ds ops Q (osl e 1 v 1 [a]::L) rest (l' v)):
  WS P ro n0 w0 ds ops Q L (⟨some i,.buildSlice T 1 #[(0,x)],ty,ps,af,none⟩::rest) l:=
 WS.buildSlice1 (pl:=[(0,x)]) (vs:=[a]) hT hz (by simp[Am hx]) rfl (by decide) (by simpa using h1) hl k
theorem QS.oc {e:TypeId} {xs:List Value} {ex:Exit} (hj:L[j]? = some (osl e k v n xs)) (kk:v.oneCell'=true->QS n0 w0 ds Q ex L l):QS n0 w0 ds Q ex L l:=fun u hu=>by
 obtain⟨_,p,cap,rfl,_⟩:=BZ hu hj;exact kk rfl u hu
end
variable {listed:Array Bool}
variable {na:Nat}
section
variable {P:Program} {ro:Option Nat} {n0:Nat} {w0:World} {ds:List Deferred} {ops:Array Oper} {Q:Exit->Act->World->Prop} {L:List SA}
 {rest:List Oper} {l:List Value} {C:World->Prop} {s:Nat}
def KE (ops:Array Oper):Nat->Nat->Nat->Bool
 |0,_,_=>false
 |n+1,i,s=>match ops[s]? with
  |some o=>o.after.toList.any fun e=>Region.binds .any e&&(e.on == i||KE ops n i e.on)
  |none=>false
def Closed (ops:Array Oper) (listed:Array Bool):Prop:=∀k o,ops[k]? = some o->listed.getD k true=true->∀e∈o.after,Region.binds .any e=true->listed.getD e.on true=true
theorem GB {listed:Array Bool} (hc:Closed ops listed):∀(n:Nat) {i s:Nat},KE ops n i s=true->listed.getD s true=true->listed.getD i true=true
 |0,_,_,h,_=>by simp[KE]at h
 |n+1,i,s,h,hs=>by
  unfold KE at h;split at h
  ·rename_i o ho;rw[List.any_eq_true]at h;obtain⟨e,he,hb⟩:=h;simp only[Bool.and_eq_true,Bool.or_eq_true,beq_iff_eq]at hb;have h1:=hc s o ho hs e (by simpa using he) hb.1;rcases hb.2 with rfl|h2
   ·exact h1
   exact GB hc n h2 h1
  simp at h
def GT (ops:Array Oper) (listed:Array Bool):Bool:=ops.toList.zipIdx.all fun(o,k)=>!(listed.getD k true)||o.after.toList.all fun e=>!(Region.binds .any e)||listed.getD e.on true
theorem G5 (h:GT ops listed=true):Closed ops listed:=by
 intro k o ho hk e he hb;unfold GT at h;rw[List.all_eq_true]at h
 have h1:=h (o,k) (by
  rw[List.mem_zipIdx_iff_getElem?]
  simpa using ho)
 simp only[hk,Bool.not_true,Bool.false_or,List.all_eq_true]at h1;have h2:=h1 e (by simpa using he)
 simpa [hb]using h2
theorem Closed.step (hc:Closed ops listed) (hj:j∈Region.ready .any ops listed):Closed ops (listed.setIfInBounds j true):=by
 obtain⟨hjun,oj,hoj,hall⟩:=mem_ready.1 hj
 have up:∀k,listed.getD k true=true->(listed.setIfInBounds j true).getD k true=true:=fun k hk=>by
  by_cases h:j=k
  ·subst h;rw[hk]at hjun;cases hjun
  rw[getD_set_ne true h];exact hk
 intro k o ho hk e he hb;refine up _ ?_
 by_cases h:j=k
 ·subst h;rw[hoj]at ho
  injection ho with ho
  subst ho;have h1:=hall e he hb;rcases Nat.lt_or_ge e.on listed.size with h'|h'
  ·simp[h']at h1⊢;exact h1
  simp[Array.getElem?_eq_none h']at h1
 rw[getD_set_ne true h]at hk;exact hc k o ho hk e he hb
def AZ (P:Program) (ro:Option Nat) (ops:Array Oper) (Q:Exit->Act->World->Prop) (C:World->Prop) (s:Nat):Nat->Array Bool->Act->World->Prop
 |0,listed,a,w=>∀u,Below w.heap.size w u->(listed.getD s true=false->C u)/\Region.ready .any ops listed=[]/\Q .normal a u
 |fuel+1,listed,a,w=>∀u,Below w.heap.size w u->(listed.getD s true=false->C u)/\(Region.ready .any ops listed=[]->Q .normal a u)/\
   ∀i∈Region.ready .any ops listed,wpOpIn (FW ro) 0 P ops Q i (AZ P ro ops Q C s fuel (listed.setIfInBounds i true)) a u
theorem AZ.ext:∀{fuel:Nat} {listed:Array Bool} {a:Act} {w u:World},AZ P ro ops Q C s fuel listed a w->Below w.heap.size w u->AZ P ro ops Q C s fuel listed a u
 |0,_,_,_,_,h,hb=>fun u' hb'=>h u' (AQ hb hb')
 |_+1,_,_,_,_,h,hb=>fun u' hb'=>h u' (AQ hb hb')
theorem AZ.any:∀{fuel:Nat} {listed:Array Bool} {a:Act} {w:World},AZ P ro ops Q C s fuel listed a w->wpAnyIn (FW ro) 0 P .any ops Q fuel listed a w
 |0,_,_,w,h=>(h w (Below.refl _ _)).2
 |_+1,_,_,w,h=>⟨(h w (Below.refl _ _)).2.1,fun i hi=>wpOpIn_mono (fun _ _ h=>AZ.any h) ((h w (Below.refl _ _)).2.2 i hi)⟩
theorem AZ.holds:∀{fuel:Nat} {listed:Array Bool} {a:Act} {w:World},AZ P ro ops Q C s fuel listed a w->listed.getD s true=false->C w
 |0,_,_,w,h=>(h w (Below.refl _ _)).1
 |_+1,_,_,w,h=>(h w (Below.refl _ _)).1
theorem AZ.first {i:Nat} (hi:ops[i]? = some oi) (hcalm:Bh ops=true) (ha:KE ops na i s=true) (his:(i == s)=false):
  ∀(fuel:Nat) (listed:Array Bool) (a:Act) (w:World),
   (∀j oj,ops[j]? = some oj->j≠i->listed.getD j true=false->(∀e∈oj.after,Region.binds .any e=true->e.on≠i)->oi.apart ops oj=true)->
   i∈Region.ready .any ops listed->Closed ops listed->Yc P ops C oi v a->
   AZ P ro ops (NP ops Q) C s fuel (listed.setIfInBounds i true) (a.put oi.dst v) w->AZ P ro ops (NP ops Q) C s (fuel+1) listed a w:=by
 have hci:=CP hcalm i oi hi;intro fuel
 induction fuel with
 |zero=>
  intro listed a w _ hr hcl hy H u hu;have Hu:=H.ext hu;have hiun:=(mem_ready.1 hr).1
  have hsun:listed.getD s true=false:=by
   rcases Bool.eq_false_or_eq_true (listed.getD s true)with h|h
   ·have:=GB hcl na ha h;rw[this]at hiun;cases hiun
   exact h
  have hsun':(listed.setIfInBounds i true).getD s true=false:=by rw[getD_set_ne true (by simpa using his)];exact hsun
  refine⟨fun _=>Hu.holds hsun',fun h=>(by rw[h]at hr;cases hr),fun j hj=>?_⟩
  by_cases hji:j=i
  ·subst hji;exact hy.opIn hi hci (Hu.holds hsun') fun u' hu'=>Hu.ext hu'
  have:=ready_mono hj hji;rw[(H u hu).2.1]at this;cases this
 |succ fuel ih=>
  intro listed a w hfree hr hcl hy H u hu;have Hu:=H.ext hu;have hiun:=(mem_ready.1 hr).1
  have hsun:listed.getD s true=false:=by
   rcases Bool.eq_false_or_eq_true (listed.getD s true)with h|h
   ·have:=GB hcl na ha h;rw[this]at hiun;cases hiun
   exact h
  have hsun':(listed.setIfInBounds i true).getD s true=false:=by rw[getD_set_ne true (by simpa using his)];exact hsun
  refine⟨fun _=>Hu.holds hsun',fun h=>(by rw[h]at hr;cases hr),fun j hj=>?_⟩
  by_cases hji:j=i
  ·subst hji;exact hy.opIn hi hci (Hu.holds hsun') fun u' hu'=>Hu.ext hu'
  have h1:=(H u hu).2.2 j (ready_mono hj hji);obtain⟨hjun,oj,hoj,hall⟩:=mem_ready.1 hj
  have hnot:∀e∈oj.after,Region.binds .any e=true->e.on≠i:=fun e he hb heq=>by
   have h1:=hall e he hb;have h0:=(mem_ready.1 hr).1;rw[heq]at h1;rcases Nat.lt_or_ge i listed.size with h'|h'
   ·simp[h']at h0 h1;rw[h0]at h1;cases h1
   simp[Array.getElem?_eq_none h']at h1
  have h2:=FI (Ij hi) hoj (hfree j oj hoj hji hjun hnot) hcalm hci hy h1
  have hfree':∀k ok,ops[k]? = some ok->k≠i->(listed.setIfInBounds j true).getD k true=false->
    (∀e∈ok.after,Region.binds .any e=true->e.on≠i)->oi.apart ops ok=true:=fun k ok hk hki hun hno=>by
   refine hfree k ok hk hki ?_ hno
   by_cases hjk:j=k
   ·subst hjk;exact hjun
   rw[getD_set_ne true hjk]at hun;exact hun
  refine wpOpIn_mono (fun a' w' h3=>ih (listed.setIfInBounds j true) a' w' hfree' (ready_mono hr (Ne.symm hji)) (hcl.step hj) h3.1 ?_) h2;rw[Array.setIfInBounds_comm _ _ hji];exact h3.2
def AT (P:Program) (ro:Option Nat) (n0:Nat) (w0:World) (ds:List Deferred) (ops:Array Oper) (Q:Exit->Act->World->Prop) (C:World->Prop) (s:Nat) (L:List SA) (fuel:Nat) (bl:List Bool) (l:List Value):Prop:=
 ∀u,St n0 w0 L u->AZ P ro ops (NP ops Q) C s fuel bl.toArray ⟨l.toArray,ds⟩ u
variable {bl bl':List Bool} {fuel:Nat} {l':List Value}
theorem CS.drawnZ {id:Nat} (s:Nat) (C:World->Prop) (hm:P.follows .mixedOrders=true) (hk:os.length=k) (h:AT P ro n0 w0 ds os.toArray Q C s L k (List.replicate k false) l):
  CS P ro n0 w0 ds (.region id os.toArray true) Q L l:=fun u hu=>by
 subst hk;refine Go.wpIn_mono (wpIn_region_any hm ?_) (fun e a w=>NP.le (ops:=os.toArray) e a w);have:=(h _ hu.drew).any
 simpa using this
theorem AT.take (i:Nat) (hi:ops[i]? = some oi) (hcalm:Bh ops=true) (ha:KE ops na i s=true) (his:(i == s)=false) (hcl:GT ops bl.toArray=true) (hf:Region.free .any ops bl.toArray i=true) (hr:(Region.ready .any ops bl.toArray).contains i=true)
  (hd:oi.dst=some d) (hg:oi.guard=none) (h:Det P C oi l v) (hb:lset bl i true=some bl') (hl:lset l d v=some l') (k:AT P ro n0 w0 ds ops Q C s L fuel bl' l'):
  AT P ro n0 w0 ds ops Q C s L (fuel+1) bl l:=fun u hu=>by
 rw[<-Aq hb,<-Aq hl]at k;refine AZ.first hi hcalm ha his fuel _ _ u (Region.free_spec hi hf) (by simpa using hr) (G5 hcl) (v:=v) (.inl ⟨by simp[Region.wanted,hg],?_⟩) ?_
 ·intro w hw;rw[BA];exact h w hw
 rw[hd,AL];have:=k u hu
 simpa using this
theorem AT.takeG (i:Nat) (hi:ops[i]? = some oi) (hcalm:Bh ops=true) (ha:KE ops na i s=true) (his:(i == s)=false) (hcl:GT ops bl.toArray=true) (hf:Region.free .any ops bl.toArray i=true) (hr:(Region.ready .any ops bl.toArray).contains i=true)
  (hd:oi.dst=some d) (hg:oi.guard=some g) (hw:(yielded ops l.toArray g.1 == some g.2)=b) (h:b=true->Det P C oi l v) (hb:lset bl i true=some bl') (hl:lset l d (cond b v undef)=some l') (k:AT P ro n0 w0 ds ops Q C s L fuel bl' l'):
  AT P ro n0 w0 ds ops Q C s L (fuel+1) bl l:=fun u hu=>by
 rw[<-Aq hb,<-Aq hl]at k
 have hw':Region.wanted oi (yielded ops (Act.mk l.toArray ds).tmps)=b:=by
  obtain⟨j,want⟩:=g;simp only[Region.wanted,hg];exact hw
 refine AZ.first hi hcalm ha his fuel _ _ u (Region.free_spec hi hf) (by simpa using hr) (G5 hcl) (v:=cond b v undef) ?_ ?_
 ·cases b with
  |true=>exact .inl ⟨hw',fun w hC=>by rw[BA];exact h rfl w hC⟩
  |false=>exact .inr ⟨hw',rfl⟩
 rw[hd,AL];have:=k u hu
 simpa using this
theorem AT.takeT (i:Nat) (hi:ops[i]? = some oi) (hcalm:Bh ops=true) (ha:KE ops na i s=true) (his:(i == s)=false) (hcl:GT ops bl.toArray=true) (hf:Region.free .any ops bl.toArray i=true) (hr:(Region.ready .any ops bl.toArray).contains i=true)
  (hd:oi.dst=some d) (hg:oi.guard=some (j,true)) (hw:yielded ops l.toArray j=some b) (h:b=true->Det P C oi l v) (hb:lset bl i true=some bl') (hl:lset l d (cond b v undef)=some l') (k:AT P ro n0 w0 ds ops Q C s L fuel bl' l'):
  AT P ro n0 w0 ds ops Q C s L (fuel+1) bl l:=AT.takeG i hi hcalm ha his hcl hf hr hd hg (b:=b) (by rw[hw];cases b<;>rfl) h hb hl k
theorem AT.one {i:Nat} {o:Oper} (hr:Region.ready .any ops bl.toArray=[i]) (hi:ops[i]? = some o) (hC:bl.toArray.getD s true=false->∀u,St n0 w0 L u->C u) (hb:lset bl i true=some bl')
  (h:WS P ro n0 w0 ds ops (Exit.then (AZ P ro ops (NP ops Q) C s fuel bl'.toArray) (NP ops Q)) L [o] l):AT P ro n0 w0 ds ops Q C s L (fuel+1) bl l:=fun u hu u' hu'=>by
 have hst:=hu.ext hu';refine⟨fun h=>hC h _ hst,fun h0=>by rw[hr]at h0;simp at h0,fun j hj=>?_⟩;rw[hr]at hj;obtain rfl:j=i:=by simpa using hj
 have:=BH hi (h u' hst);rw[<-Aq hb]at this
 simpa using this
theorem AT.two {i:Nat} {o p:Oper} {bi bj:List Bool} (hr:Region.ready .any ops bl.toArray=[i,j]) (hi:ops[i]? = some o) (hj:ops[j]? = some p) (hC:bl.toArray.getD s true=false->∀u,St n0 w0 L u->C u) (hbi:lset bl i true=some bi) (hbj:lset bl j true=some bj)
  (h1:WS P ro n0 w0 ds ops (Exit.then (AZ P ro ops (NP ops Q) C s fuel bi.toArray) (NP ops Q)) L [o] l) (h2:WS P ro n0 w0 ds ops (Exit.then (AZ P ro ops (NP ops Q) C s fuel bj.toArray) (NP ops Q)) L [p] l):
  AT P ro n0 w0 ds ops Q C s L (fuel+1) bl l:=fun u hu u' hu'=>by
 have hst:=hu.ext hu';refine⟨fun h=>hC h _ hst,fun h0=>by rw[hr]at h0;simp at h0,fun k hk=>?_⟩;rw[hr]at hk;simp at hk;rcases hk with rfl|rfl
 ·have:=BH hi (h1 u' hst);rw[<-Aq hbi]at this
  simpa using this
 have:=BH hj (h2 u' hst);rw[<-Aq hbj]at this
 simpa using this
theorem AT.done (hr:Region.ready .any ops bl.toArray=[]) (hC:bl.toArray.getD s true=false->∀u,St n0 w0 L u->C u) (k:QS n0 w0 ds Q .normal L l):AT P ro n0 w0 ds ops Q C s L 0 bl l:=fun u hu u' hu'=>
 ⟨fun h=>hC h _ (hu.ext hu'),hr,k u' (hu.ext hu')⟩
theorem QS.then_AT {fuel:Nat} (k:AT P ro n0 w0 ds ops Q C s L fuel bl l):QS n0 w0 ds (Exit.then (AZ P ro ops (NP ops Q) C s fuel bl.toArray) (NP ops Q)) .normal L l:=fun u hu=>k u hu
theorem CS.drawnTill (s:Nat) {id:Nat} {bl:List Bool} (hm:P.follows .mixedOrders=true) (hk:os.length=k) (hb:List.replicate k false=bl) (h:AT P ro n0 w0 ds os.toArray Q (St n0 w0 L) s L k bl l):
  CS P ro n0 w0 ds (.region id os.toArray true) Q L l:=by subst hb;exact CS.drawnZ s _ hm hk h
end
def sub2 (k:Nat):Value->Nat->Nat->Value
 | .slice p _ c,lo,hi=>.slice (if c=lo then p else p.map (·.add (lo*k))) (hi-lo) (c-lo)
 |v,_,_=>v
theorem SlC.sub2 (h:SlC u v n k flat) (h0:lo<=hi) (h1:hi<=n):SlC u (YtllebkdchemabaaGreatDoor.sub2 k v lo hi) (hi-lo) k ((flat.drop (lo*k)).take ((hi-lo)*k)):=by
 obtain⟨hl,p,cap,rfl,hc,hp⟩:=h
 have e:((flat.drop (lo*k)).take ((hi-lo)*k)).length=(hi-lo)*k:=by
  have h2:(hi-lo)*k<=n*k-lo*k:=by rw[<-Nat.sub_mul];exact Nat.mul_le_mul_right _ (by omega)
  simp[hl];omega
 refine⟨e,_,_,rfl,by omega,?_⟩;rcases hp with hn|⟨b,o,rfl,hcell⟩
 ·left;omega
 by_cases hcl:cap=lo
 ·left;omega
 right;refine⟨b,o+lo*k,by rw[if_neg hcl];simp[BJ],fun m x hm=>?_⟩;rw[List.getElem?_take]at hm;split at hm
 ·rw[List.getElem?_drop]at hm;rw[Nat.add_assoc];exact hcell _ x hm
 simp at hm
theorem SlI.sub2 (h:SlI u v xs) (h0:lo<=hi) (h1:hi<=xs.length):SlI u (YtllebkdchemabaaGreatDoor.sub2 1 v lo hi) ((xs.drop lo).take (hi-lo)):=by
 have:=SlC.sub2 h h0 h1;have e:((xs.drop lo).take (hi-lo)).length=hi-lo:=by simp;omega
 unfold SlI;rw[e]
 simpa [List.map_take,List.map_drop]using this
theorem Pu [Inhabited α] {xs:List α} (h0:0<=i) (h1:i<m):nth ((xs.drop lo).take m) i=nth xs (lo+i):=by
 have e:((lo:Int)+i).toNat=lo+i.toNat:=by omega
 have e2:i.toNat<m:=by omega
 simp[nth,List.getD,List.getElem?_take,List.getElem?_drop,e,e2]
theorem SlL.sub2 (h:SlL u v xss gs) (h0:lo<=hi) (h1:hi<=xss.length):SlL u (YtllebkdchemabaaGreatDoor.sub2 1 v lo hi) ((xss.drop lo).take (hi-lo)) ((gs.drop lo).take (hi-lo)):=by
 have e:((xss.drop lo).take (hi-lo)).length=hi-lo:=by simp;omega
 refine⟨?_,fun i h2 h3=>?_⟩
 ·have:=SlC.sub2 h.sp h0 h1;rw[e]
  simpa using this
 rw[e]at h3;rw[Pu h2 h3,Pu h2 h3];exact h.el _ (by omega) (by omega)
theorem SS {α:Type} (k:Nat):∀(L:List (List α)) (lo:Nat),(∀x∈L,x.length=k)->L.flatten.drop (lo*k)=(L.drop lo).flatten
 |[],lo,_=>by simp
 |x::L,0,_=>by simp
 |x::L,lo+1,h=>by
  have hx:=h x (by simp);have e:(lo+1)*k=x.length+lo*k:=by rw[hx,Nat.succ_mul,Nat.add_comm]
  simp only[List.flatten_cons,List.drop_succ_cons,e];rw[List.drop_append];have e2:x.drop (x.length+lo*k)=[]:=List.drop_eq_nil_of_le (by omega);rw[e2,List.nil_append];have e3:x.length+lo*k-x.length=lo*k:=by omega
  rw[e3,SS k L lo fun y hy=>h y (by simp[hy])]
theorem TK {α:Type} (k:Nat):∀(L:List (List α)) (m:Nat),(∀x∈L,x.length=k)->L.flatten.take (m*k)=(L.take m).flatten
 |[],m,_=>by simp
 |x::L,0,_=>by simp
 |x::L,m+1,h=>by
  have hx:=h x (by simp);have e:(m+1)*k=x.length+m*k:=by rw[hx,Nat.succ_mul,Nat.add_comm]
  simp only[List.flatten_cons,List.take_succ_cons,e];rw[List.take_append];have e2:x.take (x.length+m*k)=x:=List.take_of_length_le (by omega);have e3:x.length+m*k-x.length=m*k:=by omega
  rw[e2,e3,TK k L m fun y hy=>h y (by simp[hy])]
theorem Td (lo m:Nat):((B2 cs gs).drop (lo*7)).take (m*7)=B2 ((cs.drop lo).take m) ((gs.drop lo).take m):=by
 have h7:∀x∈List.zipWith Aw cs gs,x.length=7:=by intro x hx;obtain⟨n,hn,rfl⟩:=List.getElem_of_mem hx;simp[Aw]
 unfold B2;rw[SS 7 _ lo h7,TK 7 _ m fun x hx=>h7 x (List.mem_of_mem_drop hx)];rw[List.drop_zipWith,List.take_zipWith]
theorem ClS.sub2 (h:ClS u v cs gs) (h0:lo<=hi) (h1:hi<=cs.length):ClS u (YtllebkdchemabaaGreatDoor.sub2 7 v lo hi) ((cs.drop lo).take (hi-lo)) ((gs.drop lo).take (hi-lo)):=by
 have e:((cs.drop lo).take (hi-lo)).length=hi-lo:=by simp;omega
 refine⟨?_,by simp[h.len],fun i h2 h3=>?_⟩
 ·have:=SlC.sub2 h.sp h0 h1;rw[e]
  rwa [Td]at this
 rw[e]at h3;rw[Pu h2 h3,Pu h2 h3];exact h.el _ (by omega) (by omega)
section
variable {P:Program} {ro:Option Nat} {n0:Nat} {w0:World} {ds:List Deferred} {ops:Array Oper} {Q:Exit->Act->World->Prop} {L:List SA}
 {rest:List Oper} {l:List Value} {d:Option Tmp} {ty:TypeId} {ps:String} {af:Array Edge} {g:Option (Nat×Bool)} {C:World->Prop}
theorem Cl {e:TypeId} {x z:Operand} {hi:Int} (hT:sl P T=some (e,k,by_)) (hx:evo l x=some v) (hz:evo l z=some (.int .i64 hi))
  (hs:SlC w v n k' flat) (h1:0<=hi) (h2:hi<=n):Det P C ⟨d,.slice T x none (some z) none,ty,ps,af,g⟩ l (sub2 k v 0 hi.toNat):=fun u _=>by
 obtain⟨inf,hu,hi',hk,_⟩:=BX hT;obtain⟨_,p,cap,rfl,hc,_⟩:=hs;replace hx:=Am hx;replace hz:=Am hz;have e1:(0<=hi/\hi<=(cap:Int)):=by omega
 have e3:0<=max hi 0:=by omega
 have e4:Option.map (fun x:Addr=>x.add 0) p=p:=by
  cases p with
  |none=>rfl
  |some a=>simp[Addr.add]
 simp[execOp,Ap,hx,hz,Instr.sliceAt,Instr.slice,Instr.sliceBounds,Instr.sliceBound,asIntOf,run_underlying hu,e1,e3,sizeOf,typeInfo,hi',hk,sub2]
theorem Bf {e:TypeId} {x:Operand} {lo:Int} (hT:sl P T=some (e,k,by_)) (hx:evo l x=some v) (hy:evo l y=some (.int .i64 lo))
  (hs:SlC w v n k' flat) (h1:0<=lo) (h2:lo<=n):Det P C ⟨d,.slice T x (some y) none none,ty,ps,af,g⟩ l (sub2 k v lo.toNat n):=fun u _=>by
 obtain⟨inf,hu,hi',hk,_⟩:=BX hT;obtain⟨_,p,cap,rfl,hc,_⟩:=hs;replace hx:=Am hx;replace hy:=Am hy;have e1:(0<=lo/\lo<=(n:Int)):=by omega
 simp[execOp,Ap,hx,hy,Instr.sliceAt,Instr.slice,Instr.sliceBounds,Instr.sliceBound,asIntOf,run_underlying hu,e1,sizeOf,typeInfo,hi',hk,sub2]
theorem QE {e:TypeId} {x z:Operand} {lo hi:Int} (hT:sl P T=some (e,k,by_)) (hx:evo l x=some v) (hy:evo l y=some (.int .i64 lo)) (hz:evo l z=some (.int .i64 hi))
  (hs:SlC w v n k' flat) (h0:0<=lo) (h1:lo<=hi) (h2:hi<=n):Det P C ⟨d,.slice T x (some y) (some z) none,ty,ps,af,g⟩ l (sub2 k v lo.toNat hi.toNat):=fun u _=>by
 obtain⟨inf,hu,hi',hk,_⟩:=BX hT;obtain⟨_,p,cap,rfl,hc,_⟩:=hs;replace hx:=Am hx;replace hy:=Am hy;replace hz:=Am hz;have e1:(0<=hi/\hi<=(cap:Int)):=by omega
 have e2:(0<=lo/\lo<=((hi.toNat:Nat):Int)):=by omega
 have e3:lo<=max hi 0:=by omega
 simp[execOp,Ap,hx,hy,hz,Instr.sliceAt,Instr.slice,Instr.sliceBounds,Instr.sliceBound,asIntOf,run_underlying hu,e1,e2,e3,sizeOf,typeInfo,hi',hk,sub2]
theorem BV {x:Operand} {b i:Nat} {cs:List Value} {e:TypeId} (hx:evo l x=some (.pointer (some ⟨b,i,none⟩))) (hj:L[j]? = some (blk b c e)) (hv:(c.drop i).take n=cs) (hn:cs.length=n) (hT:tk P T=some (true,n)):
  Det P (St n0 w0 L) ⟨d,.load T x,ty,ps,af,g⟩ l (.agg cs.toArray):=by
 subst hn;exact Ca hx hj hv hT
end
end Go.Proofs.YtllebkdchemabaaGreatDoor
