/- Merged texts of this proof (walks and plain laws), printed by a program of the prover. -/
import Derived.Test.YtbboikncaihafaaGreatDoorZb
import Derived.Test.YtbboikncaihafaaGreatDoorZx
import Derived.Test.YtbboikncaihafaaGreatDoorZw
import Derived.Test.YtbboikncaihafaaGreatDoorXc
namespace Go.Proofs.YtbboikncaihafaaGreatDoor
set_option linter.unusedVariables false
set_option linter.unusedSimpArgs false
open Go.RowKit Go.Proofs Go.MapKept
structure Task where
 k:Int
 n:Int
 a:Int
 deriving Inhabited,DecidableEq
def cTask:Cel Task:=⟨3,fun a=>[.int .i64 a.k,.int .i64 a.n,.int .i64 a.a],fun _ _=>True,fun _=>rfl,fun _ _ _ _ _=>trivial,fun _ _ _ v hv=>by simp at hv; rcases hv with rfl | rfl | rfl <;> rfl⟩
abbrev wr (n:Int):Int:=IntKind.i64.wrap n
def canT (r:Room) (f x:P3) (at_:Int) (t:Task):Bool :=
 if t.k=1 then (decide (t.a=0) && (decide (0≤t.n) && decide (t.n≤(r.wys.l.length:Int) - 1))) && (decide ((nth r.wys.l t.n).a=at_) || decide ((nth r.wys.l t.n).b=at_))
 else if t.k=2 then (decide (0≤t.n) && decide (t.n≤(r.ths.l.length:Int) - 1)) && ((decide ((nth r.ths.l t.n).pl=at_) && (decide (0≤t.a) && decide (t.a≤(nth r.ths.l t.n).st - 1))) && !decide (nth x.1 t.n=t.a))
 else if t.k=3 then ((decide (t.a=0) && (decide (0≤t.n) && decide (t.n≤(r.prs.l.length:Int) - 1))) && !decide (nth x.2.1 t.n=nth f.2.1 t.n)) && (decide (nth f.2.1 t.n = -1) || (decide (nth f.2.1 t.n=at_) && (HoldsV r x (nth r.prs.l t.n).wh.l).2))
 else false
def doT (r:Room) (f x:P3) (at_:Int) (t:Task):P3 × Int :=
 if t.k=1 then (x,wr (wr ((nth r.wys.l t.n).a+(nth r.wys.l t.n).b) - at_))
 else if t.k=2 then ((x.1.set t.n.toNat t.a,x.2),at_)
 else if t.k=3 then ((x.1,x.2.1.set t.n.toNat (nth f.2.1 t.n),x.2.2),at_)
 else (x,at_)
def Jfb (r:Room) (f:P3):P3 × Int→List Task→Option (P3 × Int)
 | s,[]=>some s
 | s,t::l=>if canT r f s.1 s.2 t=true then Jfb r f (doT r f s.1 s.2 t) l else none
structure Len3 (r:Room) (x:P3):Prop where
 th:x.1.length=r.ths.l.length
 pr:x.2.1.length=r.prs.l.length
 bt:∀ i:Int,0≤i→i < x.1.length → -1000≤nth x.1 i∧nth x.1 i≤1000
 bp:∀ i:Int,0≤i→i < x.2.1.length → -1000≤nth x.2.1 i∧nth x.2.1 i≤1000
abbrev AtB (a:Int):Prop := -9223372036854775808≤a∧a≤9223372036854775807
theorem J1a (n:Int):AtB (wr n):=by
 unfold AtB wr
 rw [IntKind.wrap_i64]
 omega
theorem Jnb {r:Room} {x:Thing} (h:thB r x=true):2≤x.st∧x.st≤6:=by
 simp only [thB,Bool.and_eq_true,decide_eq_true_eq] at h
 omega
theorem Len3.of_in {r:Room} {x:P3} (hR:Ready r) (hI:StIn r x):Len3 r x:=by
 refine ⟨hI.lt,hI.lp,fun i h0 h1=>?_,fun i h0 h1=>?_⟩
 ·
  have h:=hI.th i h0 h1
  have h2:=Jnb (hR.ths _ (Jak h0 (show i < (r.ths.l.length:Int) by rw [← hI.lt]; exact h1)))
  simp only [putB,Bool.and_eq_true,decide_eq_true_eq] at h
  rw [Jwk (by omega)] at h
  omega
 have h:=hI.pr i h0 h1
 have h3:=hR.ply
 have h4:=hR.lens
 simp only [placeB,Bool.or_eq_true,Bool.and_eq_true,decide_eq_true_eq] at h
 omega
theorem Juy {l:List Int} {n:Int} {v:Int} (h:∀ i:Int,0≤i→i < l.length → -1000≤nth l i∧nth l i≤1000) (hv : -1000≤v∧v≤1000):∀ i:Int,0≤i→i < (l.set n.toNat v).length → -1000≤nth (l.set n.toNat v) i∧nth (l.set n.toNat v) i≤1000:=fun i h0 h1=>by
 rw [List.length_set] at h1
 have e:nth (l.set n.toNat v) i=v∨nth (l.set n.toNat v) i=nth l i:=by
  unfold nth
  rw [List.getD_eq_getElem?_getD,List.getD_eq_getElem?_getD,List.getElem?_set]
  split
  ·
   split
   ·
    exact .inl rfl
   exact .inr (by rw [List.getElem?_eq_none (by omega)])
  exact .inr rfl
 rcases e with e | e
 ·
  rw [e]; exact hv
 rw [e]; exact h i h0 h1
theorem Len3.doT {r:Room} {f x:P3} {a:Int} {t:Task} (h:Len3 r x) (hf:Len3 r f) (hR:Ready r) (hc:canT r f x a t=true):Len3 r (doT r f x a t).1:=by
 obtain ⟨h1,h2,h3,h4⟩:=h
 unfold Go.Proofs.YtbboikncaihafaaGreatDoor.doT
 unfold canT at hc
 by_cases k1:t.k=1
 ·
  rw [if_pos k1]; exact ⟨h1,h2,h3,h4⟩
 by_cases k2:t.k=2
 ·
  rw [if_neg k1,if_pos k2] at hc ⊢
  simp only [Bool.and_eq_true,decide_eq_true_eq] at hc
  have hst:=Jnb (hR.ths _ (Jak hc.1.1 (show t.n < (r.ths.l.length:Int) by omega)))
  exact ⟨by rw [List.length_set]; exact h1,h2,Juy h3 (by omega),h4⟩
 by_cases k3:t.k=3
 ·
  rw [if_neg k1,if_neg k2,if_pos k3] at hc ⊢
  simp only [Bool.and_eq_true,decide_eq_true_eq] at hc
  exact ⟨h1,by rw [List.length_set]; exact h2,h3,Juy h4 (hf.bp t.n (by omega) (by rw [hf.pr]; omega))⟩
 rw [if_neg k1,if_neg k2,if_neg k3]; exact ⟨h1,h2,h3,h4⟩
theorem Juk {r:Room} {f x:P3} {a:Int} {t:Task} (h:AtB a):AtB (doT r f x a t).2:=by
 unfold doT
 repeat' split
 ·
  exact J1a _
 all_goals exact h
theorem Juq {r:Room} {f x:P3} {a:Int} {t:Task}:(doT r f x a t).1.2.2=x.2.2:=by
 unfold doT
 repeat' split
 all_goals rfl
theorem Jmf {r:Room} {f:P3}:∀ {l:List Task} {s z:P3 × Int},Jfb r f s l=some z→z.1.2.2=s.1.2.2
 | [],s,z,h=>by cases h; rfl
 | t::l,s,z,h=>by
  unfold Jfb at h
  split at h
  ·
   rw [Jmf h,Juq]
  cases h
theorem Jn4 {r:Room} {f:P3} {s z:P3 × Int} {t:Task} {l:List Task} (h:Jfb r f s (t::l)=some z):canT r f s.1 s.2 t=true∧Jfb r f (doT r f s.1 s.2 t) l=some z:=by
 unfold Jfb at h
 split at h
 ·
  next hc=>exact ⟨hc,h⟩
 cases h
structure Stand where
 z:Stt
 at_:Int
 bf:Int
 tk:Task
 deriving Inhabited
def Stand.s (s:Stand):P3 × Int:=(s.z.x,s.at_)
structure Reach (r:Room) (f x0:P3) (ss:List Stand):Prop where
 ne:0 < ss.length
 first:(nth ss 0).s=(x0,0)
 len:∀ i:Int,0≤i→i < ss.length→Len3 r (nth ss i).z.x∧(nth ss i).z.x.2.2=x0.2.2∧AtB (nth ss i).at_
 step:∀ i:Int,1≤i→i < ss.length→(0≤(nth ss i).bf∧(nth ss i).bf < i)∧canT r f (nth ss (nth ss i).bf).z.x (nth ss (nth ss i).bf).at_ (nth ss i).tk=true∧(nth ss i).s=doT r f (nth ss (nth ss i).bf).z.x (nth ss (nth ss i).bf).at_ (nth ss i).tk
theorem Reach.one {r:Room} {f:P3} {s:Stand} (h:Len3 r s.z.x) (h0:s.at_=0):Reach r f s.z.x [s] :=
 ⟨by simp,by unfold Stand.s; rw [show nth [s] 0=s from rfl,h0],fun i i0 i1=>by
  have:i=0:=by simp at i1; omega
  subst this; exact ⟨h,rfl,by rw [show (nth [s] 0).at_=s.at_ from rfl,h0]; decide⟩,fun i i0 i1=>by simp at i1; omega⟩
theorem Jco {α:Type} [Inhabited α] {l:List α} {x:α} {i:Int} (h0:0≤i) (h1:i < l.length):nth (l++[x]) i=nth l i:=Jj2 h1 h0
theorem Jif {α:Type} [Inhabited α] {l:List α} {x:α} {i:Int} (h:i=l.length):nth (l++[x]) i=x:=by
 rw [Jkh (by omega),h,Int.sub_self]; rfl
theorem Reach.snoc {r:Room} {f x0:P3} {ss:List Stand} {y:Stand} (h:Reach r f x0 ss) (hf:Len3 r f) (hR:Ready r) {i:Int} (h0:0≤i) (h1:i < ss.length) (hb:y.bf=i) (hc:canT r f (nth ss i).z.x (nth ss i).at_ y.tk=true) (hs:y.s=doT r f (nth ss i).z.x (nth ss i).at_ y.tk):Reach r f x0 (ss++[y]):=by
 have hz:y.z.x=(doT r f (nth ss i).z.x (nth ss i).at_ y.tk).1:=congrArg Prod.fst hs
 have hz2:y.at_=(doT r f (nth ss i).z.x (nth ss i).at_ y.tk).2:=congrArg Prod.snd hs
 have hl:=h.len i h0 h1
 refine ⟨by simp,by rw [Jco (Int.le_refl 0) (by have:=h.ne; omega)]; exact h.first,fun j j0 j1=>?_,fun j j0 j1=>?_⟩
 ·
  by_cases hj:j < ss.length
  ·
   rw [Jco j0 hj]; exact h.len j j0 hj
  rw [Jif (by simp at j1; omega),hz,hz2]
  exact ⟨hl.1.doT hf hR hc,by rw [Juq]; exact hl.2.1,Juk hl.2.2⟩
 by_cases hj:j < ss.length
 ·
  obtain ⟨a1,a2,a3⟩:=h.step j j0 hj
  rw [Jco (by omega) hj,Jco a1.1 (by omega)]
  exact ⟨a1,a2,a3⟩
 rw [Jif (by simp at j1; omega),hb,Jco h0 h1]
 exact ⟨⟨h0,by simp at j1; omega⟩,hc,hs⟩
theorem Reach.back {r:Room} {f x0:P3} {ss:List Stand} (h:Reach r f x0 ss) {i:Int} (h0:1≤i) (h1:i < ss.length) {out:List Task} {z:P3 × Int} (hp:Jfb r f (nth ss i).s out.reverse=some z) :
  Jfb r f (nth ss (nth ss i).bf).s (out++[(nth ss i).tk]).reverse=some z:=by
 obtain ⟨a1,a2,a3⟩:=h.step i h0 h1
 rw [List.reverse_append]
 show Jfb r f _ ((nth ss i).tk::out.reverse)=some z
 unfold Jfb
 have e1:canT r f (nth ss (nth ss i).bf).s.1 (nth ss (nth ss i).bf).s.2 (nth ss i).tk=true:=a2
 rw [if_pos e1]
 rw [a3] at hp
 exact hp
structure List9 (r:Room) (f x:P3) (l:List Task):Prop where
 run:∃ y,Jfb r f (x,0) l=some (y,0)∧y.1=f.1∧y.2.1=f.2.1
structure MapS (es:Array MapEntry):Prop where
 num:∀ e∈es.toList,(∃ s,e.key = .string s)∧∃ v,e.val = .int .i64 v
def mapS (b:Nat):SA where
 h S u:=(∀ k,S k ↔ k=b)∧∃ es c,u.heap[b]? = some (.map es c)∧MapS es
 loc S u u' h hk:=by
  obtain ⟨h1,es,c,h2,h3⟩:=h
  exact ⟨h1,es,c,hk b ((h1 b).2 rfl) _ h2,h3⟩
 dom S u k h hS:=by
  obtain ⟨h1,es,c,h2,_⟩:=h
  rw [(h1 k).1 hS]
  exact (Array.getElem?_eq_some_iff.1 h2).1
section
variable {P:Program} {ro:Option Nat} {n0:Nat} {w0:World} {ds:List Deferred} {ops:Array Oper} {Q:Exit→Act→World→Prop} {L L':List SA} {rest:List Oper} {l:List Value} {ty:TypeId} {ps:String} {af:Array Edge}
 {T K E:TypeId} {x y z:Operand} {b j:Nat} {v:Int} {d:Option Tmp} {g:Option (Nat × Bool)} {t:ByteArray}
theorem MapS.keys {es:Array MapEntry} (h:MapS es):∀ x∈es.toList,IsKey .string x.key:=fun x hx=>by
 obtain ⟨⟨s,hs⟩,_⟩:=h.num x hx
 rw [hs]; trivial
theorem Jlc {u:World} (h:St n0 w0 L u) (hj:L[j]? = some (mapS b)):n0≤b∧∃ es c,u.heap[b]? = some (.map es c)∧MapS es:=by
 obtain ⟨T,h1,h2,h3⟩:=h.get hj
 exact ⟨h1 b ((h2 b).2 rfl),h3⟩
theorem Jqr {u:World} (h:St n0 w0 L u) (hj:L[j]? = some (mapS b)) {es:Array MapEntry} {c:Nat} (hm:MapS es):St n0 w0 L { u with heap:=u.heap.setIfInBounds b (.map es c) }:=by
 obtain ⟨T,hT,⟨hS,es0,c0,hb,_⟩,hc⟩:=h.upd hj
 have hlt:b < u.heap.size:=(Array.getElem?_eq_some_iff.1 hb).1
 have h9:=hc { u with heap:=u.heap.setIfInBounds b (.map es c) } (mapS b) (fun k=>k=b) ⟨rfl,rfl,rfl,by simp,fun k hk=>by
   have:=hT b ((hS b).2 rfl)
   simp only [Array.getElem?_setIfInBounds]
   rw [if_neg (by omega)]⟩ (fun k hk o' hcell=>by
   simp only [Array.getElem?_setIfInBounds]
   rw [if_neg (fun e=>hk.2.2 ((hS k).2 e.symm))]
   exact hcell) ⟨fun k=>Iff.rfl,es,c,by simp [hlt],hm⟩ (fun k hk=>by subst hk; exact ⟨hT _ ((hS _).2 rfl),.inl ((hS _).2 rfl)⟩)
 have hL:L.set j (mapS b)=L:=by
  apply List.ext_getElem? fun m=>?_
  by_cases hm:j=m
  ·
   subst hm; rw [List.getElem?_set_self (List.getElem?_eq_some_iff.1 hj).1]; exact hj.symm
  rw [List.getElem?_set_ne hm]
 rwa [hL] at h9
theorem WS.makeMapS {i:Nat} {l':Nat→List Value} (hl:∀ b,lset l i (.map (some b))=some (l' b)) (kk:∀ b,n0≤b→WS P ro n0 w0 ds ops Q (mapS b::L) rest (l' b)) :
  WS P ro n0 w0 ds ops Q L (⟨some i,.makeMap T none,ty,ps,af,none⟩::rest) l:=by
 refine WS.world rfl rfl fun u hu=>?_
 refine ⟨.map (some u.heap.size),u.alloc (.map #[] 0),?_,?_⟩
 ·
  simp [execOp,Instr.makeMap]
 rw [Jav,Jaj (hl _)]
 exact kk _ hu.size _ (hu.cons (T:=fun k=>k=u.heap.size) ((Below.refl _ u).alloc (Nat.le_refl _) _) ⟨fun k=>Iff.rfl,_,_,World.alloc_heap_new u _,⟨by simp⟩⟩ (fun k hk=>by omega))
theorem WS.lookupS {i:Nat} {l':Int→Bool→List Value} (hT:P.underlying T=some (.map K E)) (hK:P.underlying K=some .string) (hz:zo P E=some (.int .i64 0)) (hx:evo l x=some (.map (some b))) (hj:L[j]? = some (mapS b)) (hy:evo l y=some (.string t))
  (hl:∀ n ok,lset l i (.tuple #[.int .i64 n,.bool ok])=some (l' n ok)) (kk:∀ n ok,WS P ro n0 w0 ds ops Q L rest (l' n ok)) :
  WS P ro n0 w0 ds ops Q L (⟨some i,.lookup T x y true,ty,ps,af,none⟩::rest) l:=by
 (replace hx:=Jam hx; replace hy:=Jam hy)
 refine WS.world rfl rfl fun u hu=>?_
 obtain ⟨_,es,c,hb,hm⟩:=Jlc hu hj
 have hkey:IsKey .string (.string t):=trivial
 rcases findNow_spec hkey es.toList 0 hm.keys with ⟨h1,h2⟩ | ⟨q,e,h1,h2,h3⟩
 ·
  unfold zo at hz
  cases hi:P.info? E with
  | none=>simp [hi] at hz
  | some inf =>
   have hz2:inf.zero=some (.int .i64 0):=by simpa [hi] using hz
   refine ⟨.tuple #[.int .i64 0,.bool false],u,by simp [execOp,hx,hy,Instr.lookup,run_underlying hT,MapKept.run_getObj_map hb,run_checkKey hK hkey,run_findKey hK h1,Result.andThen,zeroValue,typeInfo,hi,hz2],?_⟩
   rw [Jav,Jaj (hl _ _)]
   exact kk _ _ u hu
 obtain ⟨_,n,hv⟩:=hm.num e (List.mem_of_getElem? h2)
 refine ⟨.tuple #[.int .i64 n,.bool true],u,by simp [execOp,hx,hy,Instr.lookup,run_underlying hT,MapKept.run_getObj_map hb,run_checkKey hK hkey,run_findKey hK h1,Result.andThen,hv],?_⟩
 rw [Jav,Jaj (hl _ _)]
 exact kk _ _ u hu
theorem MapS.push {es:Array MapEntry} (h:MapS es) (t:ByteArray) (v:Int) (c:Nat):MapS (es.push ⟨.string t,.int .i64 v,c⟩):=⟨fun e he=>by
 rw [Array.toList_push,List.mem_append,List.mem_singleton] at he
 rcases he with he | rfl
 ·
  exact h.num e he
 exact ⟨⟨t,rfl⟩,v,rfl⟩⟩
theorem MapS.mod {es:Array MapEntry} (h:MapS es) (q:Nat) (t:ByteArray) (v:Int):MapS (es.modify q fun e=>{ e with key:=.string t,val:=.int .i64 v }):=⟨fun e he=>by
 rw [Array.toList_modify] at he
 obtain ⟨i,hi⟩:=List.mem_iff_getElem?.1 he
 rw [List.getElem?_modify] at hi
 split at hi
 ·
  obtain ⟨a,ha,rfl⟩:=Option.map_eq_some_iff.1 hi
  exact ⟨⟨t,rfl⟩,v,rfl⟩
 simp at hi
 exact h.num e (List.mem_iff_getElem?.2 ⟨i,by simpa using hi⟩)⟩
theorem Jpn {u:World} {es:Array MapEntry} {c:Nat} (hT:P.underlying T=some (.map K E)) (hK:P.underlying K=some .string) (hb:u.heap[b]? = some (.map es c)) (hm:MapS es) :
  ∃ es' c',MapS es'∧(Instr.mapUpdate T (.map (some b)) (.string t) (.int .i64 v)).run P u = .ok () { u with heap:=u.heap.setIfInBounds b (.map es' c') }:=by
 have hkey:IsKey .string (.string t):=trivial
 rcases findNow_spec hkey es.toList 0 hm.keys with ⟨h1,h2⟩ | ⟨q,e,h1,h2,h3⟩
 ·
  exact ⟨_,c+1,hm.push t v c,by simp [Instr.mapUpdate,run_underlying hT,MapKept.run_getObj_map hb,run_checkKey hK hkey,run_findKey hK h1,MapKept.run_setObj_map _ hb,Result.andThen]⟩
 have hq:es[q]? = some e:=by simpa using h2
 exact ⟨_,c,hm.mod q t v,by simp [Instr.mapUpdate,run_underlying hT,MapKept.run_getObj_map hb,run_checkKey hK hkey,run_findKey hK h1,hq,h3,run_keyThatStays hkey,MapKept.run_setObj_map _ hb,Result.andThen]⟩
theorem WS.updS (hT:P.underlying T=some (.map K E)) (hK:P.underlying K=some .string) (hx:evo l x=some (.map (some b))) (hj:L[j]? = some (mapS b)) (hy:evo l y=some (.string t)) (hz:evo l z=some (.int .i64 v))
  (kk:WS P ro n0 w0 ds ops Q L rest l):WS P ro n0 w0 ds ops Q L (⟨none,.mapUpdate T x y z,ty,ps,af,none⟩::rest) l:=by
 (replace hx:=Jam hx; replace hy:=Jam hy; replace hz:=Jam hz)
 refine WS.world_skip rfl rfl rfl fun u hu=>?_
 obtain ⟨_,es,c,hb,hm⟩:=Jlc hu hj
 obtain ⟨es',c',h1,h2⟩:=Jpn (t:=t) (v:=v) hT hK hb hm
 refine ⟨_,?_,kk _ (Jqr hu hj (c:=c') h1)⟩
 simp [execOp,hx,hy,hz,h2,Result.andThen]
theorem WS.insS (hT:P.underlying T=some (.map K E)) (hK:P.underlying K=some .string) (hx:evo l x=some (.map (some b))) (hj:L[j]? = some (mapS b)) (hy:evo l y=some (.string t)) (hz:evo l z=some (.int .i64 v))
  (kk:WS P ro n0 w0 ds ops Q L rest l):WS P ro n0 w0 ds ops Q L (⟨none,.insert T x y z,ty,ps,af,none⟩::rest) l:=by
 (replace hx:=Jam hx; replace hy:=Jam hy; replace hz:=Jam hz)
 refine WS.world_skip rfl rfl rfl fun u hu=>?_
 obtain ⟨_,es,c,hb,hm⟩:=Jlc hu hj
 obtain ⟨es',c',h1,h2⟩:=Jpn (t:=t) (v:=v) hT hK hb hm
 refine ⟨_,?_,kk _ (Jqr hu hj (c:=c') h1)⟩
 simp [execOp,hx,hy,hz,h2,Result.andThen]
theorem WS.callE {β:Type} {f:Operand} {args:List Operand} {ts:Array TypeId} {fn:FuncId} {cap:List Value} {vs:List Value} {v:β→Value} {p:β→Prop} {i:Nat} {l':β→List Value}
  (hf:evo l f=some (.func (.func fn) #[] cap.toArray)) (hv:evs l args=some vs) (he:Ent P fn)
  (hc:∀ u,St n0 w0 L u→Calls P fn (vs++cap).toArray u (fun e u'=>∃ x,p x∧RetB u (v x) e u'))
  (hl:∀ x,lset l i (v x)=some (l' x)) (k:∀ x,p x→WS P ro n0 w0 ds ops Q L rest (l' x)) :
  WS P ro n0 w0 ds ops Q L (⟨some i,.call ⟨.value f,args.toArray,ts⟩,ty,ps,af,none⟩::rest) l :=
 WS.callS (L':=fun _=>L) hf hv he (fun u hu=>(hc u hu).mono fun e u' ⟨x,h1,h2,h3⟩=>⟨x,h1,h2,hu.ext h3⟩) hl k
theorem Jia {T T':TypeId} {x y:Operand} {a b:ByteArray} {C:World→Prop} (hx:evo l x=some (.string a)) (hy:evo l y=some (.string b)) (hT:P.underlying T=some .string) (h:a.size+b.size≤9223372036854775807) :
  Det P C ⟨d,.binOp .add T x y T',ty,ps,af,g⟩ l (.string (a++b)):=fun u _=>by
 (replace hx:=Jam hx; replace hy:=Jam hy)
 have h2:¬ (9223372036854775807 < ((a.size:Nat):Int)+(b.size:Nat)):=by omega
 simp [execOp,Jaq,hx,hy,eqGuard,binOp,Op.stringOp,h2]
variable {α:Type} [Inhabited α] {C:Cel α}
theorem Jjs {e:TypeId} (k f n:Nat) {v:Value} {i:Int} {xs:List α} {cs:List Value} (hj:L[j]? = some (oT C e v xs)) (hx:evo l x=some (.pointer (some ⟨slb v,slo v+i.toNat * k+f,none⟩))) (hk:C.k=k) (h:0≤i∧i < xs.length)
  (hc:((C.cells (nth xs i)).drop f).take n=cs) (hn:cs.length=n) (hT:tk P T=some (true,n)):Det P (St n0 w0 L) ⟨d,.load T x,ty,ps,af,g⟩ l (.agg cs.toArray):=by
 subst hk
 refine Jc3 (m:=i.toNat * C.k+f) (by rw [hx,sla,Nat.add_assoc]) (fun _ hu=>Jbi hu hj) (fun q y hy=>?_) (by rw [hn]; exact hT)
 rw [← hc,List.getElem?_take] at hy
 split at hy
 ·
  rw [List.getElem?_drop] at hy
  have hq:f+q < C.k:=by have:=(List.getElem?_eq_some_iff.1 hy).1; rwa [C.len] at this
  rw [Nat.add_assoc,Jch C h.1 h.2 _ hq]; exact hy
 cases hy
end
end Go.Proofs.YtbboikncaihafaaGreatDoor
set_option maxHeartbeats 8000000
namespace Go.Proofs.YtbboikncaihafaaGreatDoor
open Go.RowKit Go.Proofs
set_option maxRecDepth 100000
set_option linter.unusedVariables false
set_option linter.unusedSimpArgs false
section
variable {P:Program} {w0:World} {L:List SA} {l:List Value} {d:Option Tmp} {ty:TypeId} {ps:String} {af:Array Edge} {g:Option (Nat × Bool)}
theorem Jil {T:TypeId} {x:Operand} {b i n:Nat} {c cs:List Value} {e:TypeId} (hx:evo l x=some (.pointer (some ⟨b,i,none⟩))) (hb:BlkAt w0 b c e) (hv:(c.drop i).take n=cs) (hn:cs.length=n) (hT:tk P T=some (true,n)) :
  Det P (St w0.heap.size w0 L) ⟨d,.load T x,ty,ps,af,g⟩ l (.agg cs.toArray):=by
 refine Jd3 (hn ▸ hT) hx fun _ hu j v hj=>?_
 rw [Jc2 (hb.st hu)]
 rw [← hv,List.getElem?_take] at hj
 split at hj
 ·
  rw [List.getElem?_drop] at hj; exact hj
 cases hj
end
theorem Jfg (n lo hi:Int) (w:World) :
  Calls Tryz.prog 116 #[.int .i64 n,.int .i64 lo,.int .i64 hi] w (RetB w (.bool (decide (lo≤n) && decide (n≤hi)))):=by
 refine enter Tryz.func116 rfl rfl (Nat.le_of_ble_eq_true rfl) ?_
 refine Nz 1 ?_
 refine Wd (Qc (Nz 4 ?_))
 refine Wt 0 rfl rfl (fun hg=>Fm) ?_
 refine Wt 0 rfl rfl (fun hg=>Fm) ?_
 refine Wt 0 rfl rfl (fun hg=>Fk) ?_
 refine Wk 1 Pa ?_
 exact Wd (Qc (Cr (out1 rfl rfl (Jah (by simp)))))
theorem Jm5 (xs ys:List Int) (v z:Value) (w:World) (hx:SlI w v xs) (hy:SlI w z ys) :
  Calls Tryz.prog 115 #[v,z] w (RetB w (.bool (decide (xs=ys)))):=by
 have lx:=hx.le
 have ly:=hy.le
 refine enter Tryz.func115 rfl rfl (Nat.le_of_ble_eq_true rfl) ?_
 refine Nz 1 ?_
 refine Wd (Qc (Cs (Nz 1 ?_)))
 refine Wk 1 (by first | exact Jbd sl42 rfl (by assumption) | exact Jbd sl42 rfl (by first | exact SlL.sp (by assumption) | exact ClS.sp (by assumption)) | exact Jdv sl42 rfl | exact Jdc sl42 rfl ⟨_,_,rfl⟩) ?_
 refine Wk 1 (by first | exact Jbd sl42 rfl (by assumption) | exact Jbd sl42 rfl (by first | exact SlL.sp (by assumption) | exact ClS.sp (by assumption)) | exact Jdv sl42 rfl | exact Jdc sl42 rfl ⟨_,_,rfl⟩) ?_
 refine Wd (Qc (CS.cond rfl ?_ ?_))<;>intro hc1<;>try simp only [bq] at hc1
 ·
  refine Nz 1 ?_
  exact Wd (Qc (Cr (Qr (out1 rfl rfl (Jah (Jh3 fun h=>hc1 (by rw [h])))))))
 refine Ck (Qc (Cs (Nz 1 ?_)))
 refine Wk 1 (by first | exact Jbd sl42 rfl (by assumption) | exact Jbd sl42 rfl (by first | exact SlL.sp (by assumption) | exact ClS.sp (by assumption)) | exact Jdv sl42 rfl | exact Jdc sl42 rfl ⟨_,_,rfl⟩) ?_
 refine Wd (Qc (Ce ?_))
 refine CS.loopM (σ:=Int) [4,5,14,15,16,17,18,19,20,21,22,23,24,25] (fun s=>[(13,.int .i64 s)]) (fun _=>_) (fun s=>0≤s∧s≤xs.length∧∀ j:Int,0≤j→j < s→nth xs j=nth ys j) (fun s=>(xs.length - s).toNat) 0 (fun _ _=>rfl) rfl rfl ⟨by omega,by omega,fun j _ _=>by omega⟩ ?_
 intro a t hs
 obtain ⟨ha1,ha2,ha3⟩:=hs
 refine Nz 1 ?_
 refine Wd (Qc (Cs (CS.cond rfl ?_ ?_)))<;>intro hc2<;>try simp only [bq] at hc2
 ·
  refine Ck (Qc (Cs (Ce (Nz 2 ?_))))
  refine Wd (Qc (Cs (Dr mixed 2 ?_)))
  refine Dk 0 (by first | exact Jd0 sl42 rfl rfl (by assumption) (by omega) (by omega) | exact Jde sl42 rfl rfl (by omega) (by omega)) ?_
  refine Dk 2 (by first | exact Jcq rfl (by assumption) (by omega) tk3 | exact Jaa (j:=0) rfl rfl rfl tk3 | exact Jaa (j:=1) rfl rfl rfl tk3 | exact Jaa (j:=2) rfl rfl rfl tk3 | exact Jaa (j:=3) rfl rfl rfl tk3 | exact Jaf rfl (by assumption) rfl tk3) ?_
  refine Dk 0 (by first | exact Jd0 sl42 rfl rfl (by assumption) (by omega) (by omega) | exact Jde sl42 rfl rfl (by omega) (by omega)) ?_
  refine Dk 1 (by first | exact Jcq rfl (by assumption) (by omega) tk3 | exact Jaa (j:=0) rfl rfl rfl tk3 | exact Jaa (j:=1) rfl rfl rfl tk3 | exact Jaa (j:=2) rfl rfl rfl tk3 | exact Jaa (j:=3) rfl rfl rfl tk3 | exact Jaf rfl (by assumption) rfl tk3) ?_
  refine Dd (Qc (CS.cond rfl ?_ ?_))<;>intro hc3<;>try simp only [bq] at hc3
  ·
   refine Nz 1 ?_
   exact Wd (Qc (Cr (Qs (Qr (Qr (Qs (Qr (out1 rfl rfl (Jah (Jh3 fun h=>hc3 (by rw [h])))))))))))
  refine Ck (Qb (Qc (Ny 0 ?_)))
  refine Wk 1 Za ?_
  refine Wd ?_
  exact QS.head (a+1) rfl rfl ⟨⟨by omega,by omega,fun j h0 h1=>by
     rcases (show j < a∨j=a by omega) with h | h
     ·
      exact ha3 j h0 h
     rw [h]; exact hc3⟩,by omega⟩
 refine Cv (Qe (Qe (Qx (Qc (Nz 1 ?_)))))
 exact Wd (Qc (Cr (out1 rfl rfl (Jah (Jrf (Jzy hc2 (by omega) ha3))))))
theorem Jm4 (z:Stt) (w:World) (hz:SttOk w z) (hm:z.ths.l.length≤1000000∧z.prs.l.length≤1000000∧z.pls.l.length≤1000000) :
  Calls Tryz.prog 56 #[.agg #[z.ths.v,z.prs.v,z.pls.v]] w (fun e w'=>∃ x:Value × Value × Value,(x.1.oneCell'=true∧x.2.1.oneCell'=true∧x.2.2.oneCell'=true)∧RetF w (.agg #[x.1,x.2.1,x.2.2]) (star [oints 3 x.1 z.ths.l,oints 3 x.2.1 z.prs.l,oints 3 x.2.2 z.pls.l]) e w'):=by
 have zth:=hz.ths.ints
 have zpr:=hz.prs.ints
 have zpl:=hz.pls.ints
 obtain ⟨o1,o2,o3⟩:=hz.ones
 refine enter Tryz.func56 rfl rfl (Nat.le_of_ble_eq_true rfl) ?_
 refine Nz 0 ?_
 refine Wb 0 rfl rfl (fun _=>rfl) (fun _=>rfl) fun b1 hb1=>?_
 refine Wl 0 zv44 (fun _=>rfl) (fun _=>rfl) fun b2 hb2=>?_
 refine Wd (Qc (Cs ?_))
 refine CS.drawnBut 0 (k:=11) mixed rfl rfl rfl ?_
 refine Ar [0] ?_
 refine Ak 1 [3] rfl (by first | exact Jaa (j:=0) rfl rfl rfl tk42 | exact Jaf rfl (by assumption) rfl tk42) ?_
 refine Ak 4 [6] rfl (by first | exact Jaa (j:=0) rfl rfl rfl tk42 | exact Jaf rfl (by assumption) rfl tk42) ?_
 refine Ak 7 [] rfl (by first | exact Jaa (j:=0) rfl rfl rfl tk42 | exact Jaf rfl (by assumption) rfl tk42) ?_
 refine Ao 2 rfl ?_
 refine Wc rfl rfl Jez (fun u hu=>Jbl _ _ u (zth.st hu) (by omega)) (fun _=>rfl) ?_; intro v5 hv5
 refine Wd (Qa ?_)
 refine Ao 5 rfl ?_
 refine Wc rfl rfl Jez (fun u hu=>Jbl _ _ u (zpr.st hu) (by omega)) (fun _=>rfl) ?_; intro v8 hv8
 refine Wd (Qa ?_)
 refine Ao 8 rfl ?_
 refine Wc rfl rfl Jez (fun u hu=>Jbl _ _ u (zpl.st hu) (by omega)) (fun _=>rfl) ?_; intro v11 hv11
 refine Wd (Qa ?_)
 refine Ak 9 [] rfl (Db Jf5 zv44) ?_
 refine Ao 10 rfl ?_
 refine Wv 0 3 ?_
 refine Wd (Qa ?_)
 refine Ae ?_
 exact Qc (Cr (outR (resc rfl (Jau (j:=3) rfl rfl tk44)) (fun u hu=>⟨(v5,v8,v11),⟨hv5,hv8,hv11⟩,Jhu (hu.sel [2,1,0] rfl) (List.Perm.refl _)⟩)))
theorem Jjw (r:Room) (w:World) (hr:RoomOk w r) (g:Sl ByteArray) (hG:GOk w g) (hn:Near r) (z:Stt) (hz:SttOk w z) (hm:z.ths.l.length≤1000000∧z.prs.l.length≤1000000∧z.pls.l.length≤1000000) (hB:(BeginV r).1=0) (hS:stL r z.x=0) :
  Calls Tryz.prog 49 #[.agg #[r.pls.v,r.ths.v,r.prs.v,r.wys.v,r.acs.v,r.aus.v,.int .i64 r.ply,r.gl.v],.agg #[z.ths.v,z.prs.v,z.pls.v]] w (fun e w'=>∃ x:Nat × Stt × Value × Value × Value,((x.2.1.x=(BeginV r).2∧∃ u0,SttOk u0 x.2.1)∧x.2.2.1.oneCell'=true∧x.2.2.2.1.oneCell'=true∧x.2.2.2.2.oneCell'=true)∧RetF w (.tuple #[.pointer (some ⟨x.1,0,none⟩),.int .i64 0]) (star [blk x.1 [r.pls.v,r.ths.v,r.prs.v,r.wys.v,r.acs.v,r.aus.v,.int .i64 r.ply,r.gl.v,x.2.1.ths.v,x.2.1.prs.v,x.2.1.pls.v,x.2.2.1,x.2.2.2.1,x.2.2.2.2,.int .i64 0] 117,roS fun u=>SttOk u x.2.1,oints 3 x.2.2.1 z.ths.l,oints 3 x.2.2.2.1 z.prs.l,oints 3 x.2.2.2.2 z.pls.l]) e w'):=by
 have o1:=Sl.one hr.pls
 have o2:=Sl.one hr.ths
 have o3:=Sl.one hr.prs
 have o4:=Sl.one hr.wys
 have o5:=Sl.one hr.acs
 have o6:=Sl.one hr.aus
 have o7:=Sl.one hr.gl
 obtain ⟨p1,p2,p3⟩:=hz.ones
 refine enter Tryz.func49 rfl rfl (Nat.le_of_ble_eq_true rfl) ?_
 refine Nz 0 ?_
 refine Wb 0 rfl rfl (fun _=>rfl) (fun _=>rfl) fun b2 hb2=>?_
 refine Wb 2 rfl rfl (fun _=>rfl) (fun _=>rfl) fun b3 hb3=>?_
 refine Wd (Qc (Nz 0 ?_))
 refine Wk 0 (by first | exact Jac (j:=1) rfl rfl tk31 | exact Jab (j:=1) rfl rfl (by rfl) tk31 | exact Jai rfl (by assumption) (by rfl) tk31 | exact Jad (n:=8) (j:=1) rfl rfl rfl rfl tk31) ?_
 refine Wc rfl rfl Jzd (fun u hu=>Jmb r u (hr.st hu) g (hG.st hu) hn) (fun _=>rfl) ?_; rintro y ⟨hyx,uy,hyok⟩
 obtain ⟨hya,hyb,hyc⟩:=hyok.ones
 refine Wz 3 ?_
 refine Wl 0 zv44 (fun _=>rfl) (fun _=>rfl) fun b6 hb6=>?_
 refine Wv 1 0 ?_
 refine Wd (Qc (Cs (Nz 2 ?_)))
 refine Wd (Qc (CS.cond rfl ?_ ?_))<;>intro hc1<;>try simp only [bq] at hc1
 ·
  exact absurd hB hc1
 refine Ck (Qc (Cs (Nz 0 ?_)))
 refine Wk 0 (by first | exact Jac (j:=3) rfl rfl tk31 | exact Jab (j:=3) rfl rfl (by rfl) tk31 | exact Jai rfl (by assumption) (by rfl) tk31 | exact Jad (n:=8) (j:=3) rfl rfl rfl rfl tk31) ?_
 refine Wk 0 (by first | exact Jac (j:=2) rfl rfl tk44 | exact Jab (j:=2) rfl rfl (by rfl) tk44 | exact Jai rfl (by assumption) (by rfl) tk44 | exact Jad (n:=3) (j:=2) rfl rfl rfl rfl tk44) ?_
 refine Wk 1 (Cb rfl rfl Jns (fun u hu=>Jbx r u (hr.st hu) g (hG.st hu) hn z (hz.st hu))) ?_
 refine Wd (Qc (Nz 2 ?_))
 refine Wd (Qc (CS.cond rfl ?_ ?_))<;>intro hc2<;>try simp only [bq] at hc2
 ·
  exact absurd hS hc2
 refine Ck (Qc (Cs ?_))
 refine CS.drawnAll (k:=8) mixed rfl rfl ?_
 refine Ak 0 [] rfl (by first | exact Jac (j:=3) rfl rfl tk31 | exact Jab (j:=3) rfl rfl (by rfl) tk31 | exact Jai rfl (by assumption) (by rfl) tk31 | exact Jad (n:=8) (j:=3) rfl rfl rfl rfl tk31) ?_
 refine Ak 1 [] rfl (by first | exact Jac (j:=0) rfl rfl tk44 | exact Jab (j:=0) rfl rfl (by rfl) tk44 | exact Jai rfl (by assumption) (by rfl) tk44 | exact Jad (n:=3) (j:=0) rfl rfl rfl rfl tk44) ?_
 refine Ak 2 [] rfl (by first | exact Jac (j:=2) rfl rfl tk44 | exact Jab (j:=2) rfl rfl (by rfl) tk44 | exact Jai rfl (by assumption) (by rfl) tk44 | exact Jad (n:=3) (j:=2) rfl rfl rfl rfl tk44) ?_
 refine Ao 3 rfl ?_
 refine Wc rfl rfl Jzl (fun u hu=>Jm4 z u (hz.st hu) hm) (fun _=>rfl) ?_; rintro ⟨a,b,c⟩ ⟨oa,ob,oc⟩
 refine WS.unpack ?_
 refine Wd (Qa ?_)
 refine Ak 4 [] rfl (Jay Jx4 Jwn (pcs:=[(0,[r.pls.v,r.ths.v,r.prs.v,r.wys.v,r.acs.v,r.aus.v,.int .i64 r.ply,r.gl.v]),(1,[y.ths.v,y.prs.v,y.pls.v]),(2,[a,b,c]),(3,[.int .i64 0])]) rfl (CellsOf.agg (CellsOf.agg (CellsOf.agg (CellsOf.one rfl CellsOf.nil)))) rfl) ?_
 refine Ao 5 rfl ?_
 refine Wb 0 rfl rfl (fun _=>rfl) (fun _=>rfl) fun b28 hb28=>?_
 refine Wd (Qa ?_)
 refine Ar [6,7] ?_
 refine Ae ?_
 exact Qc (Cr (out2 rfl rfl rfl (fun u hu=>⟨(b28,y,a,b,c),⟨⟨hyx,uy,hyok⟩,oa,ob,oc⟩,Jhu (hu.sel [0,4,0,0,0] rfl) (List.Perm.refl _)⟩)))
theorem Jnf (r:Room) (w:World) (hr:RoomOk w r) (f n:Stt) (at_:Int) (b:Nat) (e:TypeId) (hb:BlkAt w b [r.pls.v,r.ths.v,r.prs.v,r.wys.v,r.acs.v,r.aus.v,.int .i64 r.ply,r.gl.v,f.ths.v,f.prs.v,f.pls.v,n.ths.v,n.prs.v,n.pls.v,.int .i64 at_] e) (hf:SttOk w f) (hz:SttOk w n) :
  Calls Tryz.prog 54 #[.pointer (some ⟨b,0,none⟩)] w (RetB w (.bool (decide (n.ths.l=f.ths.l) && decide (n.prs.l=f.prs.l)))):=by
 have fth:=hf.ths.ints
 have fpr:=hf.prs.ints
 have nth_:=hz.ths.ints
 have npr:=hz.prs.ints
 refine enter Tryz.func54 rfl rfl (Nat.le_of_ble_eq_true rfl) ?_
 refine Nz 1 ?_
 refine Wd (Qc (Cs (Dr mixed 4 ?_)))
 refine Dk 4 (by first | exact Jcz rfl (by assumption) (by omega) tk42 | exact Jaa (j:=0) rfl rfl rfl tk42 | exact Jaa (j:=1) rfl rfl rfl tk42 | exact Jaa (j:=2) rfl rfl rfl tk42 | exact Jaa (j:=3) rfl rfl rfl tk42 | exact Jaf rfl (by assumption) rfl tk42) ?_
 refine Dk 0 (by first | exact Jcz rfl (by assumption) (by omega) tk42 | exact Jaa (j:=0) rfl rfl rfl tk42 | exact Jaa (j:=1) rfl rfl rfl tk42 | exact Jaa (j:=2) rfl rfl rfl tk42 | exact Jaa (j:=3) rfl rfl rfl tk42 | exact Jaf rfl (by assumption) rfl tk42) ?_
 refine Dk 1 (Cb rfl rfl Jt9 (fun u hu=>Jm5 _ _ _ _ u (nth_.st hu) (fth.st hu))) ?_
 refine Dt 0 rfl rfl (fun hg=>Fm) ?_
 refine Dt 0 rfl rfl (fun hg=>Fc) ?_
 refine Dt 0 rfl rfl (fun hg=>Ff) ?_
 refine Dt 0 rfl rfl (fun hg=>Ff) ?_
 refine Dt 0 rfl rfl (fun hg=>by first | exact Jcz (eg_ hg rfl) (by assumption) (by (try simp only [bq] at hg); omega) tk42 | exact Jaa (j:=0) (eg_ hg rfl) rfl rfl tk42 | exact Jaa (j:=1) (eg_ hg rfl) rfl rfl tk42 | exact Jaa (j:=2) (eg_ hg rfl) rfl rfl tk42 | exact Jaa (j:=3) (eg_ hg rfl) rfl rfl tk42 | exact Jaf (eg_ hg rfl) (by assumption) rfl tk42) ?_
 refine Dt 0 rfl rfl (fun hg=>Fm) ?_
 refine Dt 0 rfl rfl (fun hg=>Fc) ?_
 refine Dt 0 rfl rfl (fun hg=>Ff) ?_
 refine Dt 0 rfl rfl (fun hg=>Ff) ?_
 refine Dt 0 rfl rfl (fun hg=>by first | exact Jcz (eg_ hg rfl) (by assumption) (by (try simp only [bq] at hg); omega) tk42 | exact Jaa (j:=0) (eg_ hg rfl) rfl rfl tk42 | exact Jaa (j:=1) (eg_ hg rfl) rfl rfl tk42 | exact Jaa (j:=2) (eg_ hg rfl) rfl rfl tk42 | exact Jaa (j:=3) (eg_ hg rfl) rfl rfl tk42 | exact Jaf (eg_ hg rfl) (by assumption) rfl tk42) ?_
 refine Dt 0 rfl rfl (fun hg=>Cb rfl (ec_ (eg_ hg rfl) (ec_ (eg_ hg rfl) en_)) Jt9 (fun u hu=>Jm5 _ _ _ _ u (npr.st hu) (fpr.st hu))) ?_
 refine Dk 1 Pa ?_
 exact Dd (Qc (Cr (out1 rfl rfl (Jah rfl))))
theorem Jr6 (r:Room) (w:World) (hr:RoomOk w r) (g:Sl ByteArray) (hG:GOk w g) (hn:Near r) (f n:Stt) (at_:Int) (b:Nat) (e:TypeId) (hb:BlkAt w b [r.pls.v,r.ths.v,r.prs.v,r.wys.v,r.acs.v,r.aus.v,.int .i64 r.ply,r.gl.v,f.ths.v,f.prs.v,f.pls.v,n.ths.v,n.prs.v,n.pls.v,.int .i64 at_] e) (hf:SttOk w f) (hz:SttOk w n) (c:Sl Lit) (hk:SlT cLit w c) :
  Calls Tryz.prog 117 #[.pointer (some ⟨b,0,none⟩),c.v] w (RetB w (.bool (HoldsV r n.x c.l).2)):=by
 refine enter Tryz.func117 rfl rfl (Nat.le_of_ble_eq_true rfl) ?_
 refine Nz 1 ?_
 refine Wd (Qc (Cs (Dr mixed 3 ?_)))
 refine Dk 3 (Jil (n:=8) rfl hb rfl rfl tk31) ?_
 refine Dk 1 (Jil (n:=3) rfl hb rfl rfl tk44) ?_
 refine Dk 5 (Cb rfl rfl Jua (fun u hu=>Jnd r u (hr.st hu) g (hG.st hu) hn n (hz.st hu) c (hk.st hu))) ?_
 refine Dd (Qc (Nz 2 ?_))
 exact Wd (Qc (Cr (out1 rfl rfl (Jah rfl))))
theorem Jup (r:Room) (w:World) (hr:RoomOk w r) (g:Sl ByteArray) (hG:GOk w g) (hn:Near r) (f n:Stt) (at_:Int) (b:Nat) (e:TypeId) (hb:BlkAt w b [r.pls.v,r.ths.v,r.prs.v,r.wys.v,r.acs.v,r.aus.v,.int .i64 r.ply,r.gl.v,f.ths.v,f.prs.v,f.pls.v,n.ths.v,n.prs.v,n.pls.v,.int .i64 at_] e) (hf:SttOk w f) (hz:SttOk w n) (t:Task) (hR:Ready r) (hl:Len3 r n.x) (hl2:Len3 r f.x) :
  Calls Tryz.prog 55 #[.pointer (some ⟨b,0,none⟩),.agg #[.int .i64 t.k,.int .i64 t.n,.int .i64 t.a]] w (RetB w (.bool (canT r f.x n.x at_ t))):=by
 have kpl:=hr.pls
 have lpl:=hr.pls.le
 have kth:=hr.ths
 have lth:=hr.ths.le
 have kpr:=hr.prs
 have lpr:=hr.prs.le
 have kwy:=hr.wys
 have lwy:=hr.wys.le
 have kac:=hr.acs
 have lac:=hr.acs.le
 have kau:=hr.aus
 have lau:=hr.aus.le
 have kgl:=hr.gl
 have lgl:=hr.gl.le
 have fth:=hf.ths.ints
 have fpr:=hf.prs.ints
 have nth_:=hz.ths.ints
 have npr:=hz.prs.ints
 have e1:=hl.th
 have e2:=hl.pr
 have e3:=hl2.th
 have e4:=hl2.pr
 have e1:n.ths.l.length=r.ths.l.length:=e1
 have e2:n.prs.l.length=r.prs.l.length:=e2
 have e3:f.ths.l.length=r.ths.l.length:=e3
 have e4:f.prs.l.length=r.prs.l.length:=e4
 refine enter Tryz.func55 rfl rfl (Nat.le_of_ble_eq_true rfl) ?_
 refine Nz 0 ?_
 refine Wb 1 rfl rfl (fun _=>rfl) (fun _=>rfl) fun b3 hb3=>?_
 refine Wd (Qc (Cs (Nz 1 ?_)))
 refine Wk 0 (by first | exact Jaa (j:=0) rfl rfl rfl tk3 | exact Jaf rfl (by assumption) rfl tk3) ?_
 refine Wd (Qc (Ce (Nz 2 ?_)))
 refine Wd (Qc (CS.cond rfl ?_ ?_))<;>intro hc1<;>try simp only [bq] at hc1
 ·
  refine Cs (Dr mixed 1 ?_)
  refine Dk 2 (by first | exact Jaa (j:=0) rfl rfl rfl tk3 | exact Jaf rfl (by assumption) rfl tk3) ?_
  refine Dt 0 rfl rfl (fun hg=>Ff) ?_
  refine Dt 0 rfl rfl (fun hg=>by first | exact Jaa (j:=0) (eg_ hg rfl) rfl rfl tk3 | exact Jaf (eg_ hg rfl) (by assumption) rfl tk3) ?_
  refine Dt 0 rfl rfl (fun hg=>Fm) ?_
  refine Dt 0 rfl rfl (fun hg=>Fc) ?_
  refine Dt 0 rfl rfl (fun hg=>Ff) ?_
  refine Dt 0 rfl rfl (fun hg=>Ff) ?_
  refine Dt 0 rfl rfl (fun hg=>by first | exact Jaa (j:=0) (eg_ hg rfl) rfl rfl tk25 | exact Jaa (j:=1) (eg_ hg rfl) rfl rfl tk25 | exact Jaa (j:=2) (eg_ hg rfl) rfl rfl tk25 | exact Jaa (j:=3) (eg_ hg rfl) rfl rfl tk25 | exact Jaa (j:=4) (eg_ hg rfl) rfl rfl tk25 | exact Jaa (j:=5) (eg_ hg rfl) rfl rfl tk25 | exact Jaa (j:=6) (eg_ hg rfl) rfl rfl tk25 | exact Jaa (j:=7) (eg_ hg rfl) rfl rfl tk25 | exact Jaa (j:=8) (eg_ hg rfl) rfl rfl tk25 | exact Jaf (eg_ hg rfl) (by assumption) rfl tk25) ?_
  refine Dt 0 rfl rfl (fun hg=>Nc (eg_ hg rfl)) ?_
  refine Dt 0 rfl rfl (fun hg=>Zb) ?_
  refine Dt 0 rfl rfl (fun hg=>Cb rfl (ec_ (eg_ hg rfl) (ec_ rfl (ec_ (eg_ hg rfl) en_))) Jlw (fun u hu=>Jfg _ _ _ u)) ?_
  refine Dk 1 Pa ?_
  refine Dt 0 rfl rfl (fun hg=>Fm) ?_
  refine Dt 0 rfl rfl (fun hg=>Fc) ?_
  refine Dt 0 rfl rfl (fun hg=>Ff) ?_
  refine Dt 0 rfl rfl (fun hg=>Ff) ?_
  refine Dt 0 rfl rfl (fun hg=>by first | exact Jaa (j:=0) (eg_ hg rfl) rfl rfl tk25 | exact Jaa (j:=1) (eg_ hg rfl) rfl rfl tk25 | exact Jaa (j:=2) (eg_ hg rfl) rfl rfl tk25 | exact Jaa (j:=3) (eg_ hg rfl) rfl rfl tk25 | exact Jaa (j:=4) (eg_ hg rfl) rfl rfl tk25 | exact Jaa (j:=5) (eg_ hg rfl) rfl rfl tk25 | exact Jaa (j:=6) (eg_ hg rfl) rfl rfl tk25 | exact Jaa (j:=7) (eg_ hg rfl) rfl rfl tk25 | exact Jaa (j:=8) (eg_ hg rfl) rfl rfl tk25 | exact Jaf (eg_ hg rfl) (by assumption) rfl tk25) ?_
  refine Dt 0 rfl rfl (fun hg=>Ff) ?_
  refine Dt 0 rfl rfl (fun hg=>by first | exact Jaa (j:=0) (eg_ hg rfl) rfl rfl tk3 | exact Jaf (eg_ hg rfl) (by assumption) rfl tk3) ?_
  refine Dt 0 rfl rfl (fun hg=>Xc (eg_ hg rfl)) ?_
  refine Dt 0 rfl rfl (fun hg=>Ff) ?_
  refine Dt 0 rfl rfl (fun hg=>Uc 3 0) ?_
  refine Dt 0 rfl rfl (fun hg=>Fm) ?_
  refine Dt 0 rfl rfl (fun hg=>Fc) ?_
  refine Dt 0 rfl rfl (fun hg=>Ff) ?_
  refine Dt 0 rfl rfl (fun hg=>by first | exact Jcq (eg_ hg rfl) (by assumption) (by (try simp only [bq] at hg); omega) tk3 | exact Jaa (j:=0) (eg_ hg rfl) rfl rfl tk3 | exact Jaa (j:=1) (eg_ hg rfl) rfl rfl tk3 | exact Jaa (j:=2) (eg_ hg rfl) rfl rfl tk3 | exact Jaa (j:=3) (eg_ hg rfl) rfl rfl tk3 | exact Jaa (j:=4) (eg_ hg rfl) rfl rfl tk3 | exact Jaa (j:=5) (eg_ hg rfl) rfl rfl tk3 | exact Jaa (j:=6) (eg_ hg rfl) rfl rfl tk3 | exact Jaa (j:=7) (eg_ hg rfl) rfl rfl tk3 | exact Jaa (j:=8) (eg_ hg rfl) rfl rfl tk3 | exact Jaf (eg_ hg rfl) (by assumption) rfl tk3) ?_
  refine Dt 0 rfl rfl (fun hg=>Fq) ?_
  refine Dt 0 rfl rfl (fun hg=>Fm (eg_ hg rfl)) ?_
  refine Dn 0 rfl rfl rfl (fun hg=>Fm) ?_
  refine Dn 0 rfl rfl rfl (fun hg=>Fc) ?_
  refine Dn 0 rfl rfl rfl (fun hg=>Ff) ?_
  refine Dn 0 rfl rfl rfl (fun hg=>Ff) ?_
  refine Dn 0 rfl rfl rfl (fun hg=>by first | exact Jaa (j:=0) (eg_ hg rfl) rfl rfl tk25 | exact Jaa (j:=1) (eg_ hg rfl) rfl rfl tk25 | exact Jaa (j:=2) (eg_ hg rfl) rfl rfl tk25 | exact Jaa (j:=3) (eg_ hg rfl) rfl rfl tk25 | exact Jaa (j:=4) (eg_ hg rfl) rfl rfl tk25 | exact Jaa (j:=5) (eg_ hg rfl) rfl rfl tk25 | exact Jaa (j:=6) (eg_ hg rfl) rfl rfl tk25 | exact Jaa (j:=7) (eg_ hg rfl) rfl rfl tk25 | exact Jaa (j:=8) (eg_ hg rfl) rfl rfl tk25 | exact Jaf (eg_ hg rfl) (by assumption) rfl tk25) ?_
  refine Dn 0 rfl rfl rfl (fun hg=>Ff) ?_
  refine Dn 0 rfl rfl rfl (fun hg=>by first | exact Jaa (j:=0) (eg_ hg rfl) rfl rfl tk3 | exact Jaf (eg_ hg rfl) (by assumption) rfl tk3) ?_
  refine Dn 0 rfl rfl rfl (fun hg=>Xc (eg_ hg rfl)) ?_
  refine Dn 0 rfl rfl rfl (fun hg=>Ff) ?_
  refine Dn 0 rfl rfl rfl (fun hg=>Uc 3 1) ?_
  refine Dn 0 rfl rfl rfl (fun hg=>Fm) ?_
  refine Dn 0 rfl rfl rfl (fun hg=>Fc) ?_
  refine Dn 0 rfl rfl rfl (fun hg=>Ff) ?_
  refine Dn 0 rfl rfl rfl (fun hg=>by first | exact Jcq (eg_ hg rfl) (by assumption) (by (try simp only [bq] at hg); omega) tk3 | exact Jaa (j:=0) (eg_ hg rfl) rfl rfl tk3 | exact Jaa (j:=1) (eg_ hg rfl) rfl rfl tk3 | exact Jaa (j:=2) (eg_ hg rfl) rfl rfl tk3 | exact Jaa (j:=3) (eg_ hg rfl) rfl rfl tk3 | exact Jaa (j:=4) (eg_ hg rfl) rfl rfl tk3 | exact Jaa (j:=5) (eg_ hg rfl) rfl rfl tk3 | exact Jaa (j:=6) (eg_ hg rfl) rfl rfl tk3 | exact Jaa (j:=7) (eg_ hg rfl) rfl rfl tk3 | exact Jaa (j:=8) (eg_ hg rfl) rfl rfl tk3 | exact Jaf (eg_ hg rfl) (by assumption) rfl tk3) ?_
  refine Dn 0 rfl rfl rfl (fun hg=>Fq) ?_
  refine Dt 0 rfl rfl (fun hg=>Jhr (eg_ hg rfl) (Jsz hg rfl) rfl) ?_
  refine Dk 1 Pa ?_
  exact Dd (Qc (Cr (Qs (Qr (out1 rfl rfl (Jah (by unfold canT; rw [if_pos hc1])))))))
 refine Nz 2 ?_
 refine Wd (Qc (CS.cond rfl ?_ ?_))<;>intro hc2<;>try simp only [bq] at hc2
 ·
  refine Cs (Cs (Dr mixed 1 ?_))
  refine Dk 4 (by first | exact Jaa (j:=0) rfl rfl rfl tk3 | exact Jaf rfl (by assumption) rfl tk3) ?_
  refine Dk 0 (by first | exact Jaa (j:=0) rfl rfl rfl tk23 | exact Jaa (j:=1) rfl rfl rfl tk23 | exact Jaa (j:=2) rfl rfl rfl tk23 | exact Jaa (j:=3) rfl rfl rfl tk23 | exact Jaa (j:=4) rfl rfl rfl tk23 | exact Jaa (j:=5) rfl rfl rfl tk23 | exact Jaa (j:=6) rfl rfl rfl tk23 | exact Jaa (j:=7) rfl rfl rfl tk23 | exact Jaa (j:=8) rfl rfl rfl tk23 | exact Jaf rfl (by assumption) rfl tk23) ?_
  refine Dk 0 Nc ?_
  refine Dk 0 Zb ?_
  refine Dk 1 (Cb rfl rfl Jlw (fun u hu=>Jfg _ _ _ u)) ?_
  refine Dd (Qc (CS.cond rfl ?_ ?_))<;>intro hc3<;>try simp only [bq] at hc3
  ·
   have hrn:(decide (0≤t.n) && decide (t.n≤(r.ths.l.length:Int) - 1))=false:=by simp; omega
   refine Nz 1 ?_
   exact Wd (Qc (Cr (Qr (Qs (Qr (out1 rfl rfl (Jah (by unfold canT; rw [if_neg hc1,if_pos hc2,hrn]; rfl))))))))
  have hrng:0≤t.n∧t.n≤(r.ths.l.length:Int) - 1:=by first | omega | (simp at hc3; omega)
  have hst:=Jnb (hR.ths _ (Jak hrng.1 (show t.n < (r.ths.l.length:Int) by omega)))
  refine Ck (Qc (Cs ?_))
  refine CS.drawnAll (k:=11) mixed rfl rfl ?_
  refine Ar [0,1,2,3] ?_
  refine Ak 4 [5] rfl (by first | exact Jaa (j:=0) rfl rfl rfl tk23 | exact Jaa (j:=1) rfl rfl rfl tk23 | exact Jaa (j:=2) rfl rfl rfl tk23 | exact Jaa (j:=3) rfl rfl rfl tk23 | exact Jaa (j:=4) rfl rfl rfl tk23 | exact Jaa (j:=5) rfl rfl rfl tk23 | exact Jaa (j:=6) rfl rfl rfl tk23 | exact Jaa (j:=7) rfl rfl rfl tk23 | exact Jaa (j:=8) rfl rfl rfl tk23 | exact Jaf rfl (by assumption) rfl tk23) ?_
  refine Ak 6 [] rfl (by first | exact Jaa (j:=0) rfl rfl rfl tk3 | exact Jaf rfl (by assumption) rfl tk3) ?_
  refine Ak 7 [] rfl Xc ?_
  refine Ak 8 [] rfl Ua ?_
  refine Ao 9 rfl ?_
  refine Wl 0 zv97 (fun _=>rfl) (fun _=>rfl) fun b5 hb5=>?_
  refine Wd (Qa ?_)
  refine Ao 10 rfl ?_
  refine Wv 0 0 ?_
  refine Wd (Qa ?_)
  refine Ae ?_
  refine Qc (Cs (Dr mixed 1 ?_))
  refine Dk 3 (by first | exact Jaa (j:=0) rfl rfl rfl tk3 | exact Jaf rfl (by assumption) rfl tk3) ?_
  refine Dk 2 (by first | exact Jcq rfl (by assumption) (by omega) tk3 | exact Jaa (j:=0) rfl rfl rfl tk3 | exact Jaa (j:=1) rfl rfl rfl tk3 | exact Jaa (j:=2) rfl rfl rfl tk3 | exact Jaa (j:=3) rfl rfl rfl tk3 | exact Jaa (j:=4) rfl rfl rfl tk3 | exact Jaa (j:=5) rfl rfl rfl tk3 | exact Jaa (j:=6) rfl rfl rfl tk3 | exact Jaa (j:=7) rfl rfl rfl tk3 | exact Jaa (j:=8) rfl rfl rfl tk3 | exact Jaf rfl (by assumption) rfl tk3) ?_
  refine Dt 0 rfl rfl (fun hg=>Ff) ?_
  refine Dt 0 rfl rfl (fun hg=>by first | exact Jaa (j:=1) (eg_ hg rfl) rfl rfl tk3 | exact Jaf (eg_ hg rfl) (by assumption) rfl tk3) ?_
  refine Dt 0 rfl rfl (fun hg=>Ff) ?_
  refine Dt 0 rfl rfl (fun hg=>by first | exact Jaa (j:=0) (eg_ hg rfl) rfl rfl tk3 | exact Jaf (eg_ hg rfl) (by assumption) rfl tk3) ?_
  refine Dt 0 rfl rfl (fun hg=>Zb) ?_
  refine Dt 0 rfl rfl (fun hg=>Cb rfl (ec_ (eg_ hg rfl) (ec_ rfl (ec_ (eg_ hg rfl) en_))) Jlw (fun u hu=>Jfg _ _ _ u)) ?_
  refine Dk 1 Pa ?_
  refine Dt 0 rfl rfl (fun hg=>Fm) ?_
  refine Dt 0 rfl rfl (fun hg=>Fc) ?_
  refine Dt 0 rfl rfl (fun hg=>Ff) ?_
  refine Dt 0 rfl rfl (fun hg=>Ff) ?_
  refine Dt 0 rfl rfl (fun hg=>by first | exact Jcz (eg_ hg rfl) (by assumption) (by (try simp only [bq] at hg); omega) tk42 | exact Jaa (j:=0) (eg_ hg rfl) rfl rfl tk42 | exact Jaa (j:=1) (eg_ hg rfl) rfl rfl tk42 | exact Jaa (j:=2) (eg_ hg rfl) rfl rfl tk42 | exact Jaa (j:=3) (eg_ hg rfl) rfl rfl tk42 | exact Jaa (j:=4) (eg_ hg rfl) rfl rfl tk42 | exact Jaa (j:=5) (eg_ hg rfl) rfl rfl tk42 | exact Jaa (j:=6) (eg_ hg rfl) rfl rfl tk42 | exact Jaa (j:=7) (eg_ hg rfl) rfl rfl tk42 | exact Jaa (j:=8) (eg_ hg rfl) rfl rfl tk42 | exact Jaf (eg_ hg rfl) (by assumption) rfl tk42) ?_
  refine Dt 0 rfl rfl (fun hg=>Ff) ?_
  refine Dt 0 rfl rfl (fun hg=>by first | exact Jaa (j:=1) (eg_ hg rfl) rfl rfl tk3 | exact Jaf (eg_ hg rfl) (by assumption) rfl tk3) ?_
  refine Dt 0 rfl rfl (fun hg=>by first | exact Jd0 sl42 (eg_ hg rfl) (eg_ hg rfl) (by assumption) (by (try simp only [bq] at hg); omega) (by (try simp only [bq] at hg); omega) | exact Jde sl42 (eg_ hg rfl) (eg_ hg rfl) (by (try simp only [bq] at hg); omega) (by (try simp only [bq] at hg); omega)) ?_
  refine Dt 0 rfl rfl (fun hg=>by first | exact Jcq (eg_ hg rfl) (by assumption) (by (try simp only [bq] at hg); omega) tk3 | exact Jaa (j:=0) (eg_ hg rfl) rfl rfl tk3 | exact Jaa (j:=1) (eg_ hg rfl) rfl rfl tk3 | exact Jaa (j:=2) (eg_ hg rfl) rfl rfl tk3 | exact Jaa (j:=3) (eg_ hg rfl) rfl rfl tk3 | exact Jaa (j:=4) (eg_ hg rfl) rfl rfl tk3 | exact Jaa (j:=5) (eg_ hg rfl) rfl rfl tk3 | exact Jaa (j:=6) (eg_ hg rfl) rfl rfl tk3 | exact Jaa (j:=7) (eg_ hg rfl) rfl rfl tk3 | exact Jaa (j:=8) (eg_ hg rfl) rfl rfl tk3 | exact Jaf (eg_ hg rfl) (by assumption) rfl tk3) ?_
  refine Dt 0 rfl rfl (fun hg=>Ff) ?_
  refine Dt 0 rfl rfl (fun hg=>by first | exact Jaa (j:=1) (eg_ hg rfl) rfl rfl tk3 | exact Jaf (eg_ hg rfl) (by assumption) rfl tk3) ?_
  refine Dt 0 rfl rfl (fun hg=>Fr) ?_
  refine Dk 1 Pa ?_
  exact Dd (Qc (Cr (Qs (Qr (out1 rfl rfl (Jah (by unfold canT; rw [if_neg hc1,if_pos hc2]; simp [hrng]; rfl)))))))
 refine Nz 2 ?_
 refine Wd (Qc (CS.cond rfl ?_ ?_))<;>intro hc4<;>try simp only [bq] at hc4
 ·
  refine Cs (Cs (Dr mixed 1 ?_))
  refine Dk 2 (by first | exact Jaa (j:=0) rfl rfl rfl tk3 | exact Jaf rfl (by assumption) rfl tk3) ?_
  refine Df 0 rfl rfl (fun hg=>Ff) ?_
  refine Df 0 rfl rfl (fun hg=>by first | exact Jaa (j:=0) (eg_ hg rfl) rfl rfl tk3 | exact Jaf (eg_ hg rfl) (by assumption) rfl tk3) ?_
  refine Df 0 rfl rfl (fun hg=>Fm) ?_
  refine Df 0 rfl rfl (fun hg=>Fc) ?_
  refine Df 0 rfl rfl (fun hg=>Ff) ?_
  refine Df 0 rfl rfl (fun hg=>Ff) ?_
  refine Df 0 rfl rfl (fun hg=>by first | exact Jaa (j:=0) (eg_ hg rfl) rfl rfl tk24 | exact Jaa (j:=1) (eg_ hg rfl) rfl rfl tk24 | exact Jaa (j:=2) (eg_ hg rfl) rfl rfl tk24 | exact Jaa (j:=3) (eg_ hg rfl) rfl rfl tk24 | exact Jaa (j:=4) (eg_ hg rfl) rfl rfl tk24 | exact Jaa (j:=5) (eg_ hg rfl) rfl rfl tk24 | exact Jaa (j:=6) (eg_ hg rfl) rfl rfl tk24 | exact Jaa (j:=7) (eg_ hg rfl) rfl rfl tk24 | exact Jaa (j:=8) (eg_ hg rfl) rfl rfl tk24 | exact Jaf (eg_ hg rfl) (by assumption) rfl tk24) ?_
  refine Df 0 rfl rfl (fun hg=>Nc (eg_ hg rfl)) ?_
  refine Df 0 rfl rfl (fun hg=>Zb) ?_
  refine Df 0 rfl rfl (fun hg=>Cb rfl (ec_ (eg_ hg rfl) (ec_ rfl (ec_ (eg_ hg rfl) en_))) Jlw (fun u hu=>Jfg _ _ _ u)) ?_
  refine Df 0 rfl rfl (fun hg=>Fn) ?_
  refine Dk 1 Po ?_
  refine Df 0 rfl rfl (fun hg=>Fm) ?_
  refine Df 0 rfl rfl (fun hg=>Fc) ?_
  refine Df 0 rfl rfl (fun hg=>Ff) ?_
  refine Df 0 rfl rfl (fun hg=>Ff) ?_
  refine Df 0 rfl rfl (fun hg=>by first | exact Jcz (eg_ hg rfl) (by assumption) (by (try simp only [bq] at hg); omega) tk42 | exact Jaa (j:=0) (eg_ hg rfl) rfl rfl tk42 | exact Jaa (j:=1) (eg_ hg rfl) rfl rfl tk42 | exact Jaa (j:=2) (eg_ hg rfl) rfl rfl tk42 | exact Jaa (j:=3) (eg_ hg rfl) rfl rfl tk42 | exact Jaa (j:=4) (eg_ hg rfl) rfl rfl tk42 | exact Jaa (j:=5) (eg_ hg rfl) rfl rfl tk42 | exact Jaa (j:=6) (eg_ hg rfl) rfl rfl tk42 | exact Jaa (j:=7) (eg_ hg rfl) rfl rfl tk42 | exact Jaa (j:=8) (eg_ hg rfl) rfl rfl tk42 | exact Jaf (eg_ hg rfl) (by assumption) rfl tk42) ?_
  refine Df 0 rfl rfl (fun hg=>Ff) ?_
  refine Df 0 rfl rfl (fun hg=>by first | exact Jaa (j:=0) (eg_ hg rfl) rfl rfl tk3 | exact Jaf (eg_ hg rfl) (by assumption) rfl tk3) ?_
  refine Df 0 rfl rfl (fun hg=>by first | exact Jd0 sl42 (eg_ hg rfl) (eg_ hg rfl) (by assumption) (by (try simp only [bq] at hg); omega) (by (try simp only [bq] at hg); omega) | exact Jde sl42 (eg_ hg rfl) (eg_ hg rfl) (by (try simp only [bq] at hg); omega) (by (try simp only [bq] at hg); omega)) ?_
  refine Df 0 rfl rfl (fun hg=>by first | exact Jcq (eg_ hg rfl) (by assumption) (by (try simp only [bq] at hg); omega) tk3 | exact Jaa (j:=0) (eg_ hg rfl) rfl rfl tk3 | exact Jaa (j:=1) (eg_ hg rfl) rfl rfl tk3 | exact Jaa (j:=2) (eg_ hg rfl) rfl rfl tk3 | exact Jaa (j:=3) (eg_ hg rfl) rfl rfl tk3 | exact Jaa (j:=4) (eg_ hg rfl) rfl rfl tk3 | exact Jaa (j:=5) (eg_ hg rfl) rfl rfl tk3 | exact Jaa (j:=6) (eg_ hg rfl) rfl rfl tk3 | exact Jaa (j:=7) (eg_ hg rfl) rfl rfl tk3 | exact Jaa (j:=8) (eg_ hg rfl) rfl rfl tk3 | exact Jaf (eg_ hg rfl) (by assumption) rfl tk3) ?_
  refine Df 0 rfl rfl (fun hg=>Fm) ?_
  refine Df 0 rfl rfl (fun hg=>Fc) ?_
  refine Df 0 rfl rfl (fun hg=>Ff) ?_
  refine Df 0 rfl rfl (fun hg=>Ff) ?_
  refine Df 0 rfl rfl (fun hg=>by first | exact Jcz (eg_ hg rfl) (by assumption) (by (try simp only [bq] at hg); omega) tk42 | exact Jaa (j:=0) (eg_ hg rfl) rfl rfl tk42 | exact Jaa (j:=1) (eg_ hg rfl) rfl rfl tk42 | exact Jaa (j:=2) (eg_ hg rfl) rfl rfl tk42 | exact Jaa (j:=3) (eg_ hg rfl) rfl rfl tk42 | exact Jaa (j:=4) (eg_ hg rfl) rfl rfl tk42 | exact Jaa (j:=5) (eg_ hg rfl) rfl rfl tk42 | exact Jaa (j:=6) (eg_ hg rfl) rfl rfl tk42 | exact Jaa (j:=7) (eg_ hg rfl) rfl rfl tk42 | exact Jaa (j:=8) (eg_ hg rfl) rfl rfl tk42 | exact Jaf (eg_ hg rfl) (by assumption) rfl tk42) ?_
  refine Df 0 rfl rfl (fun hg=>Ff) ?_
  refine Df 0 rfl rfl (fun hg=>by first | exact Jaa (j:=0) (eg_ hg rfl) rfl rfl tk3 | exact Jaf (eg_ hg rfl) (by assumption) rfl tk3) ?_
  refine Df 0 rfl rfl (fun hg=>by first | exact Jd0 sl42 (eg_ hg rfl) (eg_ hg rfl) (by assumption) (by (try simp only [bq] at hg); omega) (by (try simp only [bq] at hg); omega) | exact Jde sl42 (eg_ hg rfl) (eg_ hg rfl) (by (try simp only [bq] at hg); omega) (by (try simp only [bq] at hg); omega)) ?_
  refine Df 0 rfl rfl (fun hg=>by first | exact Jcq (eg_ hg rfl) (by assumption) (by (try simp only [bq] at hg); omega) tk3 | exact Jaa (j:=0) (eg_ hg rfl) rfl rfl tk3 | exact Jaa (j:=1) (eg_ hg rfl) rfl rfl tk3 | exact Jaa (j:=2) (eg_ hg rfl) rfl rfl tk3 | exact Jaa (j:=3) (eg_ hg rfl) rfl rfl tk3 | exact Jaa (j:=4) (eg_ hg rfl) rfl rfl tk3 | exact Jaa (j:=5) (eg_ hg rfl) rfl rfl tk3 | exact Jaa (j:=6) (eg_ hg rfl) rfl rfl tk3 | exact Jaa (j:=7) (eg_ hg rfl) rfl rfl tk3 | exact Jaa (j:=8) (eg_ hg rfl) rfl rfl tk3 | exact Jaf (eg_ hg rfl) (by assumption) rfl tk3) ?_
  refine Df 0 rfl rfl (fun hg=>Fq) ?_
  refine Dk 0 Po ?_
  refine Dd (Qc (CS.cond rfl ?_ ?_))<;>intro hc5<;>try simp only [bq] at hc5
  ·
   have hc5b:(decide (t.a=0) && (decide (0≤t.n) && decide (t.n≤(r.prs.l.length:Int) - 1)) && !decide (nth n.prs.l t.n=nth f.prs.l t.n))=false:=by
    rw [Bool.eq_false_iff]; intro h9; simp only [Bool.and_eq_true,decide_eq_true_eq,Bool.not_eq_true',decide_eq_false_iff_not] at h9; grind
   refine Nz 1 ?_
   exact Wd (Qc (Cr (Qr (Qs (Qr (out1 rfl rfl (Jah (by unfold canT; rw [if_neg hc1,if_neg hc2,if_pos hc4,show (n.x.2.1:List Int)=n.prs.l from rfl,show (f.x.2.1:List Int)=f.prs.l from rfl,hc5b]; rfl))))))))
  have hc5b:(decide (t.a=0) && (decide (0≤t.n) && decide (t.n≤(r.prs.l.length:Int) - 1)) && !decide (nth n.prs.l t.n=nth f.prs.l t.n))=true:=by
   simp only [Bool.and_eq_true,decide_eq_true_eq,Bool.not_eq_true',decide_eq_false_iff_not]; grind
  have hrng:0≤t.n∧t.n≤(r.prs.l.length:Int) - 1:=by simp at hc5b; omega
  have hwh:SlT cLit w (nth r.prs.l t.n).wh:=hr.prs.at hrng.1 (by omega)
  refine Ck (Qc (Cs (Dr mixed 4 ?_)))
  refine Dk 1 (by first | exact Jcz rfl (by assumption) (by omega) tk42 | exact Jaa (j:=0) rfl rfl rfl tk42 | exact Jaa (j:=1) rfl rfl rfl tk42 | exact Jaa (j:=2) rfl rfl rfl tk42 | exact Jaa (j:=3) rfl rfl rfl tk42 | exact Jaa (j:=4) rfl rfl rfl tk42 | exact Jaa (j:=5) rfl rfl rfl tk42 | exact Jaa (j:=6) rfl rfl rfl tk42 | exact Jaa (j:=7) rfl rfl rfl tk42 | exact Jaa (j:=8) rfl rfl rfl tk42 | exact Jaf rfl (by assumption) rfl tk42) ?_
  refine Dk 0 (by first | exact Jaa (j:=0) rfl rfl rfl tk3 | exact Jaf rfl (by assumption) rfl tk3) ?_
  refine Dk 0 (by first | exact Jd0 sl42 rfl rfl (by assumption) (by omega) (by omega) | exact Jde sl42 rfl rfl (by omega) (by omega)) ?_
  refine Dk 1 (by first | exact Jcq rfl (by assumption) (by omega) tk3 | exact Jaa (j:=0) rfl rfl rfl tk3 | exact Jaa (j:=1) rfl rfl rfl tk3 | exact Jaa (j:=2) rfl rfl rfl tk3 | exact Jaa (j:=3) rfl rfl rfl tk3 | exact Jaa (j:=4) rfl rfl rfl tk3 | exact Jaa (j:=5) rfl rfl rfl tk3 | exact Jaa (j:=6) rfl rfl rfl tk3 | exact Jaa (j:=7) rfl rfl rfl tk3 | exact Jaa (j:=8) rfl rfl rfl tk3 | exact Jaf rfl (by assumption) rfl tk3) ?_
  refine Dd (Qc (Cs (Dr mixed 3 ?_)))
  refine Df 0 rfl rfl (fun hg=>Fm) ?_
  refine Df 0 rfl rfl (fun hg=>Fm) ?_
  refine Df 0 rfl rfl (fun hg=>Fc) ?_
  refine Df 0 rfl rfl (fun hg=>Ff) ?_
  refine Df 0 rfl rfl (fun hg=>by first | exact Jcq (eg_ hg rfl) (by assumption) (by (try simp only [bq] at hg); omega) tk3 | exact Jaa (j:=0) (eg_ hg rfl) rfl rfl tk3 | exact Jaa (j:=1) (eg_ hg rfl) rfl rfl tk3 | exact Jaa (j:=2) (eg_ hg rfl) rfl rfl tk3 | exact Jaa (j:=3) (eg_ hg rfl) rfl rfl tk3 | exact Jaa (j:=4) (eg_ hg rfl) rfl rfl tk3 | exact Jaa (j:=5) (eg_ hg rfl) rfl rfl tk3 | exact Jaa (j:=6) (eg_ hg rfl) rfl rfl tk3 | exact Jaa (j:=7) (eg_ hg rfl) rfl rfl tk3 | exact Jaa (j:=8) (eg_ hg rfl) rfl rfl tk3 | exact Jaf (eg_ hg rfl) (by assumption) rfl tk3) ?_
  refine Df 0 rfl rfl (fun hg=>Fq) ?_
  refine Df 0 rfl rfl (fun hg=>Fm (eg_ hg rfl)) ?_
  refine Dn 0 rfl rfl rfl (fun hg=>Fm) ?_
  refine Dn 0 rfl rfl rfl (fun hg=>Fm) ?_
  refine Dn 0 rfl rfl rfl (fun hg=>Fc) ?_
  refine Dn 0 rfl rfl rfl (fun hg=>Ff) ?_
  refine Dn 0 rfl rfl rfl (fun hg=>Ff) ?_
  refine Dn 0 rfl rfl rfl (fun hg=>by first | exact Jaa (j:=0) (eg_ hg rfl) rfl rfl tk24 | exact Jaa (j:=1) (eg_ hg rfl) rfl rfl tk24 | exact Jaa (j:=2) (eg_ hg rfl) rfl rfl tk24 | exact Jaa (j:=3) (eg_ hg rfl) rfl rfl tk24 | exact Jaa (j:=4) (eg_ hg rfl) rfl rfl tk24 | exact Jaa (j:=5) (eg_ hg rfl) rfl rfl tk24 | exact Jaa (j:=6) (eg_ hg rfl) rfl rfl tk24 | exact Jaa (j:=7) (eg_ hg rfl) rfl rfl tk24 | exact Jaa (j:=8) (eg_ hg rfl) rfl rfl tk24 | exact Jaf (eg_ hg rfl) (by assumption) rfl tk24) ?_
  refine Dn 0 rfl rfl rfl (fun hg=>Ff) ?_
  refine Dn 0 rfl rfl rfl (fun hg=>by first | exact Jaa (j:=0) (eg_ hg rfl) rfl rfl tk3 | exact Jaf (eg_ hg rfl) (by assumption) rfl tk3) ?_
  refine Dn 0 rfl rfl rfl (fun hg=>Xc (eg_ hg rfl)) ?_
  refine Dn 0 rfl rfl rfl (fun hg=>Ff) ?_
  refine Dn 0 rfl rfl rfl (fun hg=>Uc 3 2) ?_
  refine Dn 0 rfl rfl rfl (fun hg=>Cb rfl (ec_ (eg_ hg rfl) (ec_ (eg_ hg rfl) en_)) Jz4 (fun u hu=>Jr6 r u (hr.st hu) g (hG.st hu) hn f n at_ b e (hb.st hu) (hf.st hu) (hz.st hu) (nth r.prs.l t.n).wh (hwh.st hu))) ?_
  refine Df 0 rfl rfl (fun hg=>Jcc (eg_ hg rfl) (Jgn hg rfl) rfl) ?_
  refine Dk 1 Po ?_
  exact Dd (Qc (Cr (Qs (Qr (out1 rfl rfl (Jah (by unfold canT; rw [if_neg hc1,if_neg hc2,if_pos hc4,show (n.x.2.1:List Int)=n.prs.l from rfl,show (f.x.2.1:List Int)=f.prs.l from rfl,hc5b]; rfl)))))))
 refine Ck (Qb (Qc (Nz 1 ?_)))
 exact Wd (Qc (Cr (out1 rfl rfl (Jah (by unfold canT; rw [if_neg hc1,if_neg hc2,if_neg hc4])))))
theorem Jx5 {w u:World} (r:Room) (hr:RoomOk w r) (R:SA) (f:Stt) (b:Nat) (va vb vc:Value) (x:P3) (at_:Int) (t:Task) (hl:Len3 r x) (hl2:Len3 r f.x) (hc:canT r f.x x at_ t=true) (hu:St w.heap.size w [blk b [r.pls.v,r.ths.v,r.prs.v,r.wys.v,r.acs.v,r.aus.v,.int .i64 r.ply,r.gl.v,f.ths.v,f.prs.v,f.pls.v,va,vb,vc,.int .i64 at_] 117,oints 3 va x.1,oints 3 vb x.2.1,oints 3 vc x.2.2,roS fun u=>SttOk u f,R] u) :
  Calls Tryz.prog 57 #[.pointer (some ⟨b,0,none⟩),.agg #[.int .i64 t.k,.int .i64 t.n,.int .i64 t.a]] u (fun e u'=>e = .returned (.tuple #[])∧St w.heap.size w [blk b [r.pls.v,r.ths.v,r.prs.v,r.wys.v,r.acs.v,r.aus.v,.int .i64 r.ply,r.gl.v,f.ths.v,f.prs.v,f.pls.v,va,vb,vc,.int .i64 (doT r f.x x at_ t).2] 117,oints 3 va (doT r f.x x at_ t).1.1,oints 3 vb (doT r f.x x at_ t).1.2.1,oints 3 vc (doT r f.x x at_ t).1.2.2,roS fun u=>SttOk u f,R] u'):=by
 have kwy:=hr.wys
 have hfo:=hu.ro (j:=4) rfl
 have e1:=hl.th
 have e2:=hl.pr
 have e3:=hl2.th
 have e4:=hl2.pr
 have e4:f.prs.l.length=r.prs.l.length:=e4
 refine Jd5 hu Tryz.func57 rfl rfl (Nat.le_of_ble_eq_true rfl) ?_
 refine Nz 0 ?_
 refine Wb 0 rfl rfl (fun _=>rfl) (fun _=>rfl) fun b3 hb3=>?_
 refine Wd (Qc (Nz 1 ?_))
 refine Wk 0 (by first | exact Jaa (j:=0) rfl rfl rfl tk3 | exact Jaf rfl (by assumption) rfl tk3) ?_
 refine Wd (Qc (Ce (Nz 2 ?_)))
 refine Wd (Qc (CS.cond rfl ?_ ?_))<;>intro hc1<;>try simp only [bq] at hc1
 ·
  have hrng:0≤t.n∧t.n≤(r.wys.l.length:Int) - 1:=by unfold canT at hc; rw [if_pos hc1] at hc; simp at hc; omega
  have hwo:cWay.ok w (nth r.wys.l t.n):=hr.wys.at hrng.1 (by omega)
  have hdo:doT r f.x x at_ t=(x,wr (wr ((nth r.wys.l t.n).a+(nth r.wys.l t.n).b) - at_)):=if_pos hc1
  rw [hdo]
  refine Cs ?_
  refine CS.drawnAll (k:=11) mixed rfl rfl ?_
  refine Ar [0,1,2,3] ?_
  refine Ak 4 [5] rfl (by first | exact Jaa (j:=0) rfl rfl rfl tk25 | exact Jaa (j:=1) rfl rfl rfl tk25 | exact Jaa (j:=2) rfl rfl rfl tk25 | exact Jaa (j:=3) rfl rfl rfl tk25 | exact Jaa (j:=4) rfl rfl rfl tk25 | exact Jaa (j:=5) rfl rfl rfl tk25 | exact Jaa (j:=6) rfl rfl rfl tk25 | exact Jaa (j:=7) rfl rfl rfl tk25 | exact Jaa (j:=8) rfl rfl rfl tk25 | exact Jaf rfl (by assumption) rfl tk25) ?_
  refine Ak 6 [] rfl (by first | exact Jaa (j:=0) rfl rfl rfl tk3 | exact Jaf rfl (by assumption) rfl tk3) ?_
  refine Ak 7 [] rfl Xc ?_
  refine Ak 8 [] rfl (by first | exact Jjk rfl (by assumption) rfl ⟨(by omega),(by omega)⟩ rfl Jxw | exact Jdb (jj:=5) rfl rfl rfl ⟨(by omega),(by omega)⟩ rfl Jxw) ?_
  refine Ao 9 rfl ?_
  refine Wl 0 Jk8 (fun _=>rfl) (fun _=>rfl) fun b4 hb4=>?_
  refine Wd (Qa ?_)
  refine Ao 10 rfl ?_
  refine Wv 0 0 ?_
  refine Wd (Qa ?_)
  refine Ae ?_
  refine Qc ?_
  refine CS.drawnTill 13 (k:=14) mixed rfl rfl ?_
  refine Tr 14 [0,1] ?_
  refine Tk 14 2 [3] rfl (by first | exact Jaa (j:=0) rfl rfl rfl tk3 | exact Jaf rfl (by assumption) rfl tk3) ?_
  refine Tk 14 4 [] rfl (by first | exact Jaa (j:=0) rfl rfl rfl tk3 | exact Jaf rfl (by assumption) rfl tk3) ?_
  refine Tk 14 5 [6,7,8] rfl (Jtm rfl rfl) ?_
  refine Tk 14 9 [] rfl (by first | exact Jcq rfl (by assumption) (by omega) tk3 | exact Jaa (j:=0) rfl rfl rfl tk3 | exact Jaa (j:=1) rfl rfl rfl tk3 | exact Jaa (j:=2) rfl rfl rfl tk3 | exact Jaa (j:=3) rfl rfl rfl tk3 | exact Jaa (j:=4) rfl rfl rfl tk3 | exact Jaa (j:=5) rfl rfl rfl tk3 | exact Jaa (j:=6) rfl rfl rfl tk3 | exact Jaa (j:=7) rfl rfl rfl tk3 | exact Jaa (j:=8) rfl rfl rfl tk3 | exact Jaf rfl (by assumption) rfl tk3 | exact Jly (j:=6) rfl rfl (by omega) (by omega) tk3 | exact Jml (j:=6) rfl rfl (by omega) tk3) ?_
  refine Tk 14 10 [11,12] rfl (Jgo rfl rfl) ?_
  refine To 13 rfl ?_
  first | refine WS.store (j:=0) rfl rfl (by first | decide | omega | (simp; done) | (simp; omega) | exact Nat.le_of_ble_eq_true rfl) rfl (by first | rfl | assumption) tk3 rfl rfl ?_ | refine WS.store (j:=0) rfl rfl (by first | decide | omega | (simp; done) | (simp; omega) | exact Nat.le_of_ble_eq_true rfl) rfl (by first | rfl | assumption) tk3 (Jan _ _ _) rfl ?_ | refine WS.store (j:=1) rfl rfl (by first | decide | omega | (simp; done) | (simp; omega) | exact Nat.le_of_ble_eq_true rfl) rfl (by first | rfl | assumption) tk3 rfl rfl ?_ | refine WS.store (j:=1) rfl rfl (by first | decide | omega | (simp; done) | (simp; omega) | exact Nat.le_of_ble_eq_true rfl) rfl (by first | rfl | assumption) tk3 (Jan _ _ _) rfl ?_ | refine WS.store (j:=2) rfl rfl (by first | decide | omega | (simp; done) | (simp; omega) | exact Nat.le_of_ble_eq_true rfl) rfl (by first | rfl | assumption) tk3 rfl rfl ?_ | refine WS.store (j:=2) rfl rfl (by first | decide | omega | (simp; done) | (simp; omega) | exact Nat.le_of_ble_eq_true rfl) rfl (by first | rfl | assumption) tk3 (Jan _ _ _) rfl ?_ | refine WS.store (j:=3) rfl rfl (by first | decide | omega | (simp; done) | (simp; omega) | exact Nat.le_of_ble_eq_true rfl) rfl (by first | rfl | assumption) tk3 rfl rfl ?_ | refine WS.store (j:=3) rfl rfl (by first | decide | omega | (simp; done) | (simp; omega) | exact Nat.le_of_ble_eq_true rfl) rfl (by first | rfl | assumption) tk3 (Jan _ _ _) rfl ?_ | refine WS.store (j:=4) rfl rfl (by first | decide | omega | (simp; done) | (simp; omega) | exact Nat.le_of_ble_eq_true rfl) rfl (by first | rfl | assumption) tk3 rfl rfl ?_ | refine WS.store (j:=4) rfl rfl (by first | decide | omega | (simp; done) | (simp; omega) | exact Nat.le_of_ble_eq_true rfl) rfl (by first | rfl | assumption) tk3 (Jan _ _ _) rfl ?_ | refine WS.store (j:=5) rfl rfl (by first | decide | omega | (simp; done) | (simp; omega) | exact Nat.le_of_ble_eq_true rfl) rfl (by first | rfl | assumption) tk3 rfl rfl ?_ | refine WS.store (j:=5) rfl rfl (by first | decide | omega | (simp; done) | (simp; omega) | exact Nat.le_of_ble_eq_true rfl) rfl (by first | rfl | assumption) tk3 (Jan _ _ _) rfl ?_ | refine WS.store (j:=6) rfl rfl (by first | decide | omega | (simp; done) | (simp; omega) | exact Nat.le_of_ble_eq_true rfl) rfl (by first | rfl | assumption) tk3 rfl rfl ?_ | refine WS.store (j:=6) rfl rfl (by first | decide | omega | (simp; done) | (simp; omega) | exact Nat.le_of_ble_eq_true rfl) rfl (by first | rfl | assumption) tk3 (Jan _ _ _) rfl ?_ | refine WS.store (j:=7) rfl rfl (by first | decide | omega | (simp; done) | (simp; omega) | exact Nat.le_of_ble_eq_true rfl) rfl (by first | rfl | assumption) tk3 rfl rfl ?_ | refine WS.store (j:=7) rfl rfl (by first | decide | omega | (simp; done) | (simp; omega) | exact Nat.le_of_ble_eq_true rfl) rfl (by first | rfl | assumption) tk3 (Jan _ _ _) rfl ?_ | refine WS.store (j:=8) rfl rfl (by first | decide | omega | (simp; done) | (simp; omega) | exact Nat.le_of_ble_eq_true rfl) rfl (by first | rfl | assumption) tk3 rfl rfl ?_ | refine WS.store (j:=8) rfl rfl (by first | decide | omega | (simp; done) | (simp; omega) | exact Nat.le_of_ble_eq_true rfl) rfl (by first | rfl | assumption) tk3 (Jan _ _ _) rfl ?_
  refine Wd (Qt ?_)
  refine Te ?_
  exact Qb (out0 (Or.inr rfl) rfl (fun u hu=>⟨rfl,hu.sel [2,2,2,2,2,2] rfl⟩))
 refine Nz 2 ?_
 refine Wd (Qc (CS.cond rfl ?_ ?_))<;>intro hc2<;>try simp only [bq] at hc2
 ·
  have hrng:0≤t.n∧t.n≤(r.ths.l.length:Int) - 1:=by unfold canT at hc; rw [if_neg hc1,if_pos hc2] at hc; simp at hc; omega
  have hdo:doT r f.x x at_ t=((x.1.set t.n.toNat t.a,x.2),at_):=(if_neg hc1).trans (if_pos hc2)
  rw [hdo]
  refine CS.drawnTill 10 (k:=11) mixed rfl rfl ?_
  refine Tr 11 [0,1,2,3] ?_
  refine Tk 11 4 [5] rfl (by first | exact Jcz rfl (by assumption) (by omega) tk42 | exact Ji8 (j:=5) rfl rfl (by assumption) (by omega) tk42 | exact Jaa (j:=0) rfl rfl rfl tk42 | exact Jaa (j:=1) rfl rfl rfl tk42 | exact Jaa (j:=2) rfl rfl rfl tk42 | exact Jaa (j:=3) rfl rfl rfl tk42 | exact Jaa (j:=4) rfl rfl rfl tk42 | exact Jaa (j:=5) rfl rfl rfl tk42 | exact Jaa (j:=6) rfl rfl rfl tk42 | exact Jaa (j:=7) rfl rfl rfl tk42 | exact Jaa (j:=8) rfl rfl rfl tk42 | exact Jaf rfl (by assumption) rfl tk42) ?_
  refine Tk 11 6 [7] rfl (by first | exact Jaa (j:=0) rfl rfl rfl tk3 | exact Jaf rfl (by assumption) rfl tk3) ?_
  refine Tk 11 8 [] rfl (by first | exact Jaa (j:=0) rfl rfl rfl tk3 | exact Jaf rfl (by assumption) rfl tk3) ?_
  refine Tk 11 9 [] rfl (Xb 2) ?_
  refine To 10 rfl ?_
  refine WS.storeOI (j:=2) rfl rfl (by omega) rfl tk3 rfl ?_
  refine Wd (Qt ?_)
  refine Te ?_
  exact Qb (out0 (Or.inr rfl) rfl (fun u hu=>⟨rfl,hu.sel [1,1,1,1,1,1] rfl⟩))
 refine Nz 2 ?_
 refine Wd (Qc (CS.cond rfl ?_ ?_))<;>intro hc3<;>try simp only [bq] at hc3
 ·
  have hrng:0≤t.n∧t.n≤(r.prs.l.length:Int) - 1:=by unfold canT at hc; rw [if_neg hc1,if_neg hc2,if_pos hc3] at hc; simp at hc; omega
  have hdo:doT r f.x x at_ t=((x.1,x.2.1.set t.n.toNat (nth f.prs.l t.n),x.2.2),at_):=(if_neg hc1).trans ((if_neg hc2).trans (if_pos hc3))
  rw [hdo]
  refine CS.drawnTill 17 (k:=18) mixed rfl rfl ?_
  refine Tr 18 [0,1,2,3] ?_
  refine Tk 18 4 [5] rfl (by first | exact Jcz rfl (by assumption) (by omega) tk42 | exact Ji8 (j:=5) rfl rfl (by assumption) (by omega) tk42 | exact Jaa (j:=0) rfl rfl rfl tk42 | exact Jaa (j:=1) rfl rfl rfl tk42 | exact Jaa (j:=2) rfl rfl rfl tk42 | exact Jaa (j:=3) rfl rfl rfl tk42 | exact Jaa (j:=4) rfl rfl rfl tk42 | exact Jaa (j:=5) rfl rfl rfl tk42 | exact Jaa (j:=6) rfl rfl rfl tk42 | exact Jaa (j:=7) rfl rfl rfl tk42 | exact Jaa (j:=8) rfl rfl rfl tk42 | exact Jaf rfl (by assumption) rfl tk42) ?_
  refine Tk 18 6 [7,8,9,10] rfl (by first | exact Jaa (j:=0) rfl rfl rfl tk3 | exact Jaf rfl (by assumption) rfl tk3) ?_
  refine Tk 18 11 [12] rfl (by first | exact Jcz rfl (by assumption) (by omega) tk42 | exact Ji8 (j:=5) rfl rfl (by assumption) (by omega) tk42 | exact Jaa (j:=0) rfl rfl rfl tk42 | exact Jaa (j:=1) rfl rfl rfl tk42 | exact Jaa (j:=2) rfl rfl rfl tk42 | exact Jaa (j:=3) rfl rfl rfl tk42 | exact Jaa (j:=4) rfl rfl rfl tk42 | exact Jaa (j:=5) rfl rfl rfl tk42 | exact Jaa (j:=6) rfl rfl rfl tk42 | exact Jaa (j:=7) rfl rfl rfl tk42 | exact Jaa (j:=8) rfl rfl rfl tk42 | exact Jaf rfl (by assumption) rfl tk42) ?_
  refine Tk 18 13 [] rfl (by first | exact Jaa (j:=0) rfl rfl rfl tk3 | exact Jaf rfl (by assumption) rfl tk3) ?_
  refine Tk 18 14 [] rfl (Jip (s:=f.prs) sl42 rfl rfl hfo.prs rfl (by omega) (by omega)) ?_
  refine Tk 18 15 [] rfl (Jsr 5 (s:=f.prs) rfl (fun _ h ↦ h.prs) rfl rfl ⟨by omega,by omega⟩ rfl tk3) ?_
  refine Tk 18 16 [] rfl (Xb 3) ?_
  refine To 17 rfl ?_
  refine WS.storeOI (j:=3) rfl rfl (by omega) rfl tk3 rfl ?_
  refine Wd (Qt ?_)
  refine Te ?_
  exact Qb (out0 (Or.inr rfl) rfl (fun u hu=>⟨rfl,hu.sel [1,1,1,1,1,1] rfl⟩))
 exfalso
 unfold canT at hc
 rw [if_neg hc1,if_neg hc2,if_neg hc3] at hc
 cases hc
theorem Jsf {w u:World} (r:Room) (hr:RoomOk w r) (g:Sl ByteArray) (hG:GOk w g) (hn:Near r) (R:SA) (f:Stt) (b:Nat) (va vb vc:Value) (x:P3) (l:Sl Task) (hk:SlT cTask w l) (hlm:l.l.length≤200) (hR:Ready r) (hl:Len3 r x) (hl2:Len3 r f.x) (y:P3) (hp:Jfb r f.x (x,0) l.l=some (y,0)) (hy:y.1=f.x.1∧y.2.1=f.x.2.1) (hu:St w.heap.size w [blk b [r.pls.v,r.ths.v,r.prs.v,r.wys.v,r.acs.v,r.aus.v,.int .i64 r.ply,r.gl.v,f.ths.v,f.prs.v,f.pls.v,va,vb,vc,.int .i64 0] 117,oints 3 va x.1,oints 3 vb x.2.1,oints 3 vc x.2.2,roS fun u=>SttOk u f,R] u) :
  Calls Tryz.prog 59 #[.pointer (some ⟨b,0,none⟩),l.v] u (fun e u'=>e = .returned (.tuple #[.int .i64 0,.int .i64 0])∧St w.heap.size w [blk b [r.pls.v,r.ths.v,r.prs.v,r.wys.v,r.acs.v,r.aus.v,.int .i64 r.ply,r.gl.v,f.ths.v,f.prs.v,f.pls.v,va,vb,vc,.int .i64 0] 117,oints 3 va y.1,oints 3 vb y.2.1,oints 3 vc y.2.2,roS fun u=>SttOk u f,R] u'):=by
 have lls:=hk.le
 have hfo:=hu.ro (j:=4) rfl
 refine Jd5 hu Tryz.func59 rfl rfl (Nat.le_of_ble_eq_true rfl) ?_
 refine Nz 2 ?_
 refine Wd (Qc (Cs (Nz 1 ?_)))
 refine Wk 1 Nc ?_
 refine Wd (Qc (CS.cond rfl ?_ ?_))<;>intro hc1<;>try simp only [bq] at hc1
 ·
  exact absurd hc1 (by omega)
 refine Ck (Qc (Cs (Nz 1 ?_)))
 refine Wk 1 Nc ?_
 refine Wd (Qc (Ce ?_))
 refine CS.loopM (σ:=Int × P3 × Int) [4,5,6,7,14,15,16,17,18,19,20,21,22,23,24,25,26] (fun s=>[(13,.int .i64 s.1)]) (fun s=>[blk b [r.pls.v,r.ths.v,r.prs.v,r.wys.v,r.acs.v,r.aus.v,.int .i64 r.ply,r.gl.v,f.ths.v,f.prs.v,f.pls.v,va,vb,vc,.int .i64 s.2.2] 117,oints 3 va s.2.1.1,oints 3 vb s.2.1.2.1,oints 3 vc s.2.1.2.2,roS fun u=>SttOk u f,R]) (fun s=>0≤s.1∧s.1≤l.l.length∧Len3 r s.2.1∧Jfb r f.x s.2 (l.l.drop s.1.toNat)=some (y,0)) (fun s=>(l.l.length - s.1).toNat) (0,x,0) (fun _ _=>rfl) rfl rfl ⟨by simp,by simp,hl,hp⟩ ?_
 intro s t hs
 obtain ⟨hs1,hs2,hs3,hs4⟩:=hs
 refine Nz 1 ?_
 refine Wd (Qc (Cs (CS.cond rfl ?_ ?_)))<;>intro hc2<;>try simp only [bq] at hc2
 ·
  have hs9:=hs4
  rw [Jdi hs1 (by omega)] at hs9
  obtain ⟨hcn,hnx⟩:=Jn4 hs9
  refine Ck (Qc (Cs (Ce (Nz 1 ?_))))
  refine Wk 0 Xc ?_
  refine Wk 0 (by first | exact Jjk rfl (by assumption) rfl ⟨(by omega),(by omega)⟩ rfl Jcn | exact Jdb (jj:=4) rfl rfl rfl ⟨(by omega),(by omega)⟩ rfl Jcn) ?_
  refine Wl 1 Jfo (fun _=>rfl) (fun _=>rfl) fun b7 hb7=>?_
  refine Wv 0 0 ?_
  refine Wd (Qc (Cs (Nz 1 ?_)))
  refine Wk 0 (by first | exact Jac (j:=0) rfl rfl Jcn | exact Jab (j:=0) rfl rfl (by rfl) Jcn | exact Jai rfl (by assumption) (by rfl) Jcn | exact Jad (n:=3) (j:=0) rfl rfl rfl rfl Jcn) ?_
  refine Wk 1 (Cb rfl rfl Jzv (fun u hu=>Jup r u (hr.st hu) g (hG.st hu) hn f ⟨⟨va,s.2.1.1⟩,⟨vb,s.2.1.2.1⟩,⟨vc,s.2.1.2.2⟩⟩ s.2.2 b _ (Jaw hu (j:=1) rfl) (hu.ro (j:=5) rfl) ⟨(Jal hu (j:=2) rfl).tree,(Jal hu (j:=3) rfl).tree,(Jal hu (j:=4) rfl).tree⟩ (nth l.l s.1) hR hs3 hl2)) ?_
  refine Wd (Qc (CS.cond rfl ?_ ?_))<;>intro hc3<;>try simp only [bq] at hc3
  ·
   exact Bool.noConfusion (hcn.symm.trans hc3)
  refine Ck (Qc (Ny 1 ?_))
  refine Wk 0 (by first | exact Jac (j:=0) rfl rfl Jcn | exact Jab (j:=0) rfl rfl (by rfl) Jcn | exact Jai rfl (by assumption) (by rfl) Jcn | exact Jad (n:=3) (j:=0) rfl rfl rfl rfl Jcn) ?_
  refine WS.sel [1,1,1,1,1,1] rfl ?_
  refine WS.callS (β:=Unit) (p:=fun _=>True) (v:=fun _=>.tuple #[]) (L':=fun _=>[blk b [r.pls.v,r.ths.v,r.prs.v,r.wys.v,r.acs.v,r.aus.v,.int .i64 r.ply,r.gl.v,f.ths.v,f.prs.v,f.pls.v,va,vb,vc,.int .i64 (doT r f.x s.2.1 s.2.2 (nth l.l s.1)).2] 117,oints 3 va (doT r f.x s.2.1 s.2.2 (nth l.l s.1)).1.1,oints 3 vb (doT r f.x s.2.1 s.2.2 (nth l.l s.1)).1.2.1,oints 3 vc (doT r f.x s.2.1 s.2.2 (nth l.l s.1)).1.2.2,roS fun u=>SttOk u f,R]) rfl rfl J0c (fun u hu=>Calls.mono (Jx5 r hr R f b va vb vc s.2.1 s.2.2 (nth l.l s.1) hs3 hl2 hcn hu) fun e u2 h=>⟨(),trivial,h.1,h.2⟩) (fun _=>rfl) ?_; rintro ⟨⟩ -
  refine Wd (Qb (Qc (Ny 0 ?_)))
  refine Wk 1 Za ?_
  exact Wd (QS.head ((s.1+1,doT r f.x s.2.1 s.2.2 (nth l.l s.1))) rfl rfl ⟨⟨by simp; omega,by simp; omega,hs3.doT hl2 hR hcn,hnx⟩,by simp; omega⟩)
 rw [List.drop_of_length_le (by omega)] at hs4
 have hs5:s.2=(y,0):=Option.some.inj hs4
 have hs6:s.2.1=y:=congrArg Prod.fst hs5
 have hs7:s.2.2=0:=congrArg Prod.snd hs5
 rw [hs7,hs6]
 refine Cv (Qe (Qe (Qx (Qc (Cs (Nz 1 ?_))))))
 refine Wk 2 (Cb rfl rfl Jyu (fun u hu=>(show Calls _ _ _ u (RetB u (.bool (decide (y.1=f.ths.l) && decide (y.2.1=f.prs.l)))) from Jnf r u (hr.st hu) f ⟨⟨va,y.1⟩,⟨vb,y.2.1⟩,⟨vc,y.2.2⟩⟩ 0 b _ (Jaw hu (j:=0) rfl) (hu.ro (j:=4) rfl) ⟨(Jal hu (j:=1) rfl).tree,(Jal hu (j:=2) rfl).tree,(Jal hu (j:=3) rfl).tree⟩))) ?_
 refine Wf 0 rfl rfl (fun hg=>Fm) ?_
 refine Wf 0 rfl rfl (fun hg=>Fc) ?_
 refine Wf 0 rfl rfl (fun hg=>Ff) ?_
 refine Wf 0 rfl rfl (fun hg=>by first | exact Jcq (eg_ hg rfl) (by assumption) (by (try simp only [bq] at hg); omega) tk3 | exact Jaa (j:=0) (eg_ hg rfl) rfl rfl tk3 | exact Jaa (j:=1) (eg_ hg rfl) rfl rfl tk3 | exact Jaa (j:=2) (eg_ hg rfl) rfl rfl tk3 | exact Jaa (j:=3) (eg_ hg rfl) rfl rfl tk3 | exact Jaa (j:=4) (eg_ hg rfl) rfl rfl tk3 | exact Jaa (j:=5) (eg_ hg rfl) rfl rfl tk3 | exact Jaa (j:=6) (eg_ hg rfl) rfl rfl tk3 | exact Jaa (j:=7) (eg_ hg rfl) rfl rfl tk3 | exact Jaa (j:=8) (eg_ hg rfl) rfl rfl tk3 | exact Jaf (eg_ hg rfl) (by assumption) rfl tk3 | exact Jly (j:=4) (eg_ hg rfl) rfl (by (try simp only [bq] at hg); omega) (by (try simp only [bq] at hg); omega) tk3 | exact Jml (j:=4) (eg_ hg rfl) rfl (by (try simp only [bq] at hg); omega) tk3) ?_
 refine Wf 0 rfl rfl (fun hg=>Fr) ?_
 refine Wk 0 Po ?_
 refine Wd (Qc (CS.cond rfl ?_ ?_))<;>intro hc4<;>try simp only [bq] at hc4
 ·
  exact absurd hc4 (by simp [show y.1=f.ths.l from hy.1,show y.2.1=f.prs.l from hy.2])
 refine Ck (Qc (Nz 2 ?_))
 exact Wd (Qc (Cr (out2 rfl rfl rfl (fun u hu=>⟨rfl,hu.sel [0,0,0,0,0,0] rfl⟩))))
theorem Jlm (r:Room) (w:World) (hr:RoomOk w r) (g:Sl ByteArray) (hG:GOk w g) (hn:Near r) (z:Stt) (hz:SttOk w z) (hm:z.ths.l.length≤1000000∧z.prs.l.length≤1000000∧z.pls.l.length≤1000000) (hB:(BeginV r).1=0) (hS:stL r z.x=0) (hR:Ready r) (hl:Len3 r z.x) (hl2:Len3 r (BeginV r).2) (l:Sl Task) (hk:SlT cTask w l) (hlm:l.l.length≤200) (hp:List9 r (BeginV r).2 z.x l.l) :
  Calls Tryz.prog 16 #[.agg #[r.pls.v,r.ths.v,r.prs.v,r.wys.v,r.acs.v,r.aus.v,.int .i64 r.ply,r.gl.v],.agg #[z.ths.v,z.prs.v,z.pls.v],l.v] w (RetS w ((BeginV r).2.1,(BeginV r).2.2.1,z.x.2.2) fun v=>.tuple #[v,.int .i64 0]):=by
 have o1:=Sl.one hr.pls
 have o2:=Sl.one hr.ths
 have o3:=Sl.one hr.prs
 have o4:=Sl.one hr.wys
 have o5:=Sl.one hr.acs
 have o6:=Sl.one hr.aus
 have o7:=Sl.one hr.gl
 obtain ⟨p1,p2,p3⟩:=hz.ones
 obtain ⟨y0,hy1,hy2,hy3⟩:=hp.run
 have hy4:=Jmf hy1
 refine enter Tryz.func16 rfl rfl (Nat.le_of_ble_eq_true rfl) ?_
 refine Nz 0 ?_
 refine Wb 0 rfl rfl (fun _=>rfl) (fun _=>rfl) fun b3 hb3=>?_
 refine Wb 0 rfl rfl (fun _=>rfl) (fun _=>rfl) fun b4 hb4=>?_
 refine Wl 1 zv44 (fun _=>rfl) (fun _=>rfl) fun b6 hb6=>?_
 refine Wd (Qc (Nz 0 ?_))
 refine Wk 0 (by first | exact Jac (j:=2) rfl rfl tk31 | exact Jab (j:=2) rfl rfl (by rfl) tk31 | exact Jai rfl (by assumption) (by rfl) tk31 | exact Jad (n:=8) (j:=2) rfl rfl rfl rfl tk31) ?_
 refine Wk 0 (by first | exact Jac (j:=1) rfl rfl tk44 | exact Jab (j:=1) rfl rfl (by rfl) tk44 | exact Jai rfl (by assumption) (by rfl) tk44 | exact Jad (n:=3) (j:=1) rfl rfl rfl rfl tk44) ?_
 refine Wc rfl rfl Jxv (fun u hu=>Jjw r u (hr.st hu) g (hG.st hu) hn z (hz.st hu) hm hB hS) (fun _=>rfl) ?_; rintro ⟨kb,f,a,b,c⟩ ⟨⟨hfx,uf,hfok⟩,oa,ob,oc⟩
 dsimp only at hfx hfok oa ob oc
 refine WS.unpack ?_
 refine Wz 5 ?_
 refine Wd (Qc (Cs (Nz 2 ?_)))
 refine Wd (Qc (CS.cond rfl ?_ ?_))<;>intro hc1<;>try simp only [bq] at hc1
 ·
  exact absurd trivial hc1
 refine Ck (Qc (Cs (Nz 2 ?_)))
 refine WS.sel [0,1,1,1,0,0] rfl ?_
 refine WS.callS (β:=Unit) (p:=fun _=>True) (v:=fun _=>.tuple #[.int .i64 0,.int .i64 0]) (L':=fun _=>[blk kb [r.pls.v,r.ths.v,r.prs.v,r.wys.v,r.acs.v,r.aus.v,.int .i64 r.ply,r.gl.v,f.ths.v,f.prs.v,f.pls.v,a,b,c,.int .i64 0] 117,oints 3 a y0.1,oints 3 b y0.2.1,oints 3 c y0.2.2,roS fun u=>SttOk u f,blk b6 [.slice none 0 0,.slice none 0 0,.slice none 0 0] 44]) rfl rfl J02 (fun u hu=>Calls.mono (Jsf r hr g hG hn _ f kb a b c z.x l hk hlm hR hl (by rw [hfx]; exact hl2) y0 (by rw [hfx]; exact hy1) (by rw [hfx]; exact ⟨hy2,hy3⟩) hu) fun e u2 h=>⟨(),trivial,h.1,h.2⟩) (fun _=>rfl) ?_; rintro ⟨⟩ -
 refine Wz 5 ?_
 refine Wd (Qc (Nz 2 ?_))
 refine Wd (Qc (CS.cond rfl ?_ ?_))<;>intro hc2<;>try simp only [bq] at hc2
 ·
  exact absurd trivial hc2
 refine Ck (Qc (Nz 3 ?_))
 refine Wk 0 (by first | exact Jac (j:=0) rfl rfl tk44 | exact Jac (j:=1) rfl rfl tk44 | exact Jac (j:=2) rfl rfl tk44 | exact Jac (j:=3) rfl rfl tk44 | exact Jac (j:=4) rfl rfl tk44 | exact Jac (j:=5) rfl rfl tk44 | exact Jac (j:=6) rfl rfl tk44 | exact Jac (j:=7) rfl rfl tk44 | exact Jac (j:=8) rfl rfl tk44 | exact Jac (j:=9) rfl rfl tk44 | exact Jac (j:=10) rfl rfl tk44 | exact Jac (j:=11) rfl rfl tk44 | exact Jab (j:=0) rfl rfl (by rfl) tk44 | exact Jab (j:=1) rfl rfl (by rfl) tk44 | exact Jab (j:=2) rfl rfl (by rfl) tk44 | exact Jab (j:=3) rfl rfl (by rfl) tk44 | exact Jab (j:=4) rfl rfl (by rfl) tk44 | exact Jab (j:=5) rfl rfl (by rfl) tk44 | exact Jab (j:=6) rfl rfl (by rfl) tk44 | exact Jab (j:=7) rfl rfl (by rfl) tk44 | exact Jab (j:=8) rfl rfl (by rfl) tk44 | exact Jab (j:=9) rfl rfl (by rfl) tk44 | exact Jab (j:=10) rfl rfl (by rfl) tk44 | exact Jab (j:=11) rfl rfl (by rfl) tk44 | exact Jai rfl (by assumption) (by rfl) tk44 | exact Jad (n:=3) (j:=0) rfl rfl rfl rfl tk44 | exact Jad (n:=3) (j:=1) rfl rfl rfl rfl tk44 | exact Jad (n:=3) (j:=2) rfl rfl rfl rfl tk44 | exact Jad (n:=3) (j:=3) rfl rfl rfl rfl tk44 | exact Jad (n:=3) (j:=4) rfl rfl rfl rfl tk44 | exact Jad (n:=3) (j:=5) rfl rfl rfl rfl tk44 | exact Jad (n:=3) (j:=6) rfl rfl rfl rfl tk44 | exact Jad (n:=3) (j:=7) rfl rfl rfl rfl tk44 | exact Jad (n:=3) (j:=8) rfl rfl rfl rfl tk44 | exact Jad (n:=3) (j:=9) rfl rfl rfl rfl tk44 | exact Jad (n:=3) (j:=10) rfl rfl rfl rfl tk44 | exact Jad (n:=3) (j:=11) rfl rfl rfl rfl tk44) ?_
 refine Wv 1 5 ?_
 refine Wd (Qc (Cr ?_))
 exact outR (Jda rfl (Jau (j:=5) rfl rfl tk44) rfl) (by
   rw [← hy2, ← hy3, ← hy4]
   exact fun u hu=>retS (f:=fun v=>.tuple #[v,.int .i64 0]) (is:=[1,1,1]) rfl hu)
end Go.Proofs.YtbboikncaihafaaGreatDoor
