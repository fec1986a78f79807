/- Merged texts of this proof (walks and plain laws), printed by a program of the prover. -/
import Derived.Test.YtfbfdnoodccgiaaGreatDoorZb
import Derived.Lib.AppendZerosOnto
namespace Go.Proofs.YtfbfdnoodccgiaaGreatDoor
set_option linter.unusedVariables false
set_option linter.unusedSimpArgs false
open Go.RowKit
section
variable {α:Type} (key:α→Int)
def Eqv (l l':List α):Prop:=∀ v:Int,l'.filter (fun x=>decide (key x=v))=l.filter (fun x=>decide (key x=v))
def Srt (l:List α):Prop:=l.Pairwise fun x y=>key x≤key y
variable {key}
theorem Eqv.refl (l:List α):Eqv key l l:=fun _=>rfl
theorem Eqv.trans {a b c:List α} (h:Eqv key a b) (h2:Eqv key b c):Eqv key a c:=fun v=>(h2 v).trans (h v)
theorem Eqv.symm {a b:List α} (h:Eqv key a b):Eqv key b a:=fun v=>(h v).symm
theorem Eqv.app {a b c d:List α} (h:Eqv key a b) (h2:Eqv key c d):Eqv key (a++c) (b++d):=fun v=>by rw [List.filter_append,List.filter_append,h v,h2 v]
theorem Eqv.mem {a b:List α} (h:Eqv key a b) {x:α}:x∈b ↔ x∈a:=by
 have h1:x∈b.filter (fun y=>decide (key y=key x)) ↔ x∈b:=by simp
 have h2:x∈a.filter (fun y=>decide (key y=key x)) ↔ x∈a:=by simp
 rw [← h1, ← h2,h (key x)]
theorem Eqv.swap {a b:List α} (h:∀ x∈a,∀ y∈b,key x≠key y):Eqv key (a++b) (b++a):=fun v=>by
 rw [List.filter_append,List.filter_append]
 by_cases ha:a.filter (fun x=>decide (key x=v))=[]
 ·
  rw [ha,List.append_nil,List.nil_append]
 have hb:b.filter (fun x=>decide (key x=v))=[]:=by
  rw [List.filter_eq_nil_iff]
  intro y hy hv
  obtain ⟨x,hx⟩:=List.exists_mem_of_ne_nil _ ha
  rw [List.mem_filter] at hx
  simp only [decide_eq_true_eq] at hx hv
  exact h x hx.1 y hy (hx.2.trans hv.symm)
 rw [hb,List.append_nil,List.nil_append]
theorem Eqv.len:∀ {a b:List α},Eqv key a b→b.length=a.length
 | [],b,h=>by
  cases b with
  | nil=>rfl
  | cons y b=>exact absurd (h.mem.1 (List.mem_cons_self (a:=y) (l:=b))) List.not_mem_nil
 | x::a,b,h=>by
  have hx:x∈b:=h.mem.2 List.mem_cons_self
  obtain ⟨b1,b2,hb,hn⟩:∃ b1 b2,b=b1++x::b2∧∀ y∈b1,key y≠key x:=by
   have h1:=h (key x)
   rw [List.filter_cons,if_pos (by simp)] at h1
   have h2:=List.filter_eq_cons_iff.1 h1
   obtain ⟨b1,b2,e,q1,_,_⟩:=h2
   exact ⟨b1,b2,e,fun y hy hk=>by have:=q1 y hy; simp [hk] at this⟩
  subst hb
  have h3:Eqv key (x::a) (x::(b1++b2)):=h.trans (by
   have q:Eqv key (b1++[x]) ([x]++b1):=Eqv.swap fun y hy z hz=>by rw [List.mem_singleton.1 hz]; exact hn y hy
   have:=q.app (Eqv.refl b2)
   simpa using this)
  have h4:Eqv key a (b1++b2):=fun v=>by
   have:=h3 v
   rw [List.filter_cons,List.filter_cons] at this
   by_cases hv:decide (key x=v)=true
   ·
    rw [if_pos hv,if_pos hv] at this; exact (List.cons.inj this).2
   rw [if_neg hv,if_neg hv] at this; exact this
  have:=Eqv.len h4
  simp only [List.length_append,List.length_cons] at this ⊢
  omega
theorem Srt.app {a b:List α} (h:Srt key a) (h2:Srt key b) (h3:∀ x∈a,∀ y∈b,key x≤key y):Srt key (a++b):=List.pairwise_append.2 ⟨h,h2,h3⟩
theorem Srt.left {a b:List α} (h:Srt key (a++b)):Srt key a:=(List.pairwise_append.1 h).1
theorem Srt.right {a b:List α} (h:Srt key (a++b)):Srt key b:=(List.pairwise_append.1 h).2.1
theorem Srt.nil:Srt key []:=List.Pairwise.nil
theorem Srt.one (x:α):Srt key [x]:=List.pairwise_singleton _ _
theorem Srt.small {a:List α} (h:a.length≤1):Srt key a:=by
 match a,h with
 | [],_=>exact Srt.nil
 | [x],_=>exact Srt.one x
end
section
variable {α:Type} [Inhabited α]
theorem Js7 {a b:List α} {i:Int} (h:i < a.length) (h0:0≤i):nth (a++b) i=nth a i:=by
 have:i.toNat < a.length:=by omega
 simp [nth,List.getD,List.getElem?_append_left this]
theorem Jul {a b:List α} {i:Int} (h:(a.length:Int)≤i):nth (a++b) i=nth b (i - a.length):=by
 have:a.length≤i.toNat:=by omega
 have e:i.toNat - a.length=(i - a.length).toNat:=by omega
 unfold nth
 rw [List.getD_eq_getElem?_getD,List.getD_eq_getElem?_getD,List.getElem?_append_right this,e]
theorem J0v {l:List α} {i:Int} {n:Nat} (h:i < n) (h0:0≤i):nth (l.take n) i=nth l i:=by
 have:i.toNat < n:=by omega
 simp [nth,List.getD,List.getElem?_take,this]
variable {key:α→Int}
end
section
variable {α:Type} (key:α→Int)
variable {key}
theorem Eqv.cons {x:α} {a b:List α} (h:Eqv key a b):Eqv key (x::a) (x::b):=(Eqv.refl [x]).app h
theorem Eqv.parts (p:α→Bool) (hp:∀ x y,key x=key y→p x=p y):∀ (l:List α),Eqv key (l.filter p++l.filter fun x => !p x) l
 | l=>fun v=>by
  rw [List.filter_append,List.filter_filter,List.filter_filter]
  by_cases h:∃ x∈l,key x=v∧p x=true
  ·
   obtain ⟨x,hx,hv,hpx⟩:=h
   have e1:(l.filter fun y=>decide (key y=v) && p y)=l.filter fun y=>decide (key y=v):=List.filter_congr fun y hy=>by
    by_cases hk:key y=v
    ·
     rw [hp y x (hk.trans hv.symm),hpx]; simp
    simp [hk]
   have e2:(l.filter fun y=>decide (key y=v) && !p y)=[]:=by
    rw [List.filter_eq_nil_iff]
    intro y hy hc
    simp at hc
    rw [hp y x (hc.1.trans hv.symm),hpx] at hc
    exact absurd hc.2 (by decide)
   rw [e1,e2,List.append_nil]
  have e1:(l.filter fun y=>decide (key y=v) && p y)=[]:=by
   rw [List.filter_eq_nil_iff]
   intro y hy hc
   simp at hc
   exact h ⟨y,hy,hc.1,hc.2⟩
  have e2:(l.filter fun y=>decide (key y=v) && !p y)=l.filter fun y=>decide (key y=v):=List.filter_congr fun y hy=>by
   by_cases hk:key y=v
   ·
    cases hq:p y
    ·
     simp
    exact absurd ⟨y,hy,hk,hq⟩ h
   simp [hk]
  rw [e1,e2,List.nil_append]
end
section
variable {α:Type} {key:α→Int}
inductive Blk (key:α→Int) (k:Nat):List α→Prop
 | last {l:List α}:l.length≤k→Srt key l→Blk key k l
 | cons {b l:List α}:b.length=k→Srt key b→Blk key k l→Blk key k (b++l)
inductive Full (key:α→Int) (k:Nat):List α→Prop
 | nil:Full key k []
 | snoc {D b:List α}:Full key k D→b.length=k→Srt key b→Full key k (D++b)
theorem Full.blk {k:Nat} {D l:List α} (h:Full key k D) (hl:Blk key k l):Blk key k (D++l):=by
 induction h generalizing l with
 | nil=>exact hl
 | snoc _ hb hs ih=>rw [List.append_assoc]; exact ih (.cons hb hs hl)
theorem Blk.split {k:Nat} {l:List α} (h:Blk key k l) (hl:k < l.length):∃ b r,l=b++r∧b.length=k∧Srt key b∧Blk key k r:=by
 cases h with
 | last h _=>omega
 | cons hb hs h=>exact ⟨_,_,rfl,hb,hs,h⟩
end
section
variable {α:Type}
def lk (A:List α) (x:α) (Y B:List α) (k:Int):List α:=A++(Y.take k.toNat++x::(Y.drop k.toNat++B))
end
section
variable {α:Type} [Inhabited α] {d:α→Bool}
theorem Jk8 {xs:List α} {j:Int} (h0:0≤j) (h1:j < xs.length):(xs.take (j+1).toNat).filter (fun x => !d x)=(xs.take j.toNat).filter (fun x => !d x)++(if d (nth xs j)=true then [] else [nth xs j]):=by
 rw [Jdr h0 h1,List.filter_append]
 congr 1
 cases hd:d (nth xs j) <;> simp [hd]
theorem Js4 {xs:List α} (h:∀ j:Int,0≤j→j < xs.length→d (nth xs j)=false):xs.filter (fun x => !d x)=xs:=by
 rw [List.filter_eq_self]
 intro a ha
 obtain ⟨i,h0,h1,rfl⟩:=Jbw ha
 rw [h i h0 h1]; rfl
theorem Jpr {xs:List α} {i:Int} (h0:0≤i) (h1:i < xs.length) (h:∀ j:Int,0≤j→j < i→d (nth xs j)=false) (hd:d (nth xs i)=true):(xs.take (i+1).toNat).filter (fun x => !d x)=xs.take i.toNat:=by
 rw [Jk8 h0 h1,if_pos hd,List.append_nil]
 refine Js4 fun j j0 j1=>?_
 rw [List.length_take] at j1
 rw [J0v (by omega) j0]
 exact h j j0 (by omega)
end
end Go.Proofs.YtfbfdnoodccgiaaGreatDoor
namespace Go.Proofs.YtfbfdnoodccgiaaGreatDoor
set_option linter.unusedVariables false
set_option linter.unusedSimpArgs false
open Go.RowKit Go.Proofs
structure DelI {α:Type} (d:α→Bool) (xs ys:List α) (i j:Int):Prop where
 i0:0≤i
 ij:i < j
 jn:j≤xs.length
 len:ys.length=xs.length
 tk:ys.take i.toNat=(xs.take j.toNat).filter (fun x => !d x)
 dp:ys.drop j.toNat=xs.drop j.toNat
section
variable {α:Type} [Inhabited α] {d:α→Bool} {xs ys:List α} {i j:Int}
theorem DelI.first (h0:0≤i) (h1:i < xs.length) (h:∀ k:Int,0≤k→k < i→d (nth xs k)=false) (hd:d (nth xs i)=true):DelI d xs xs i (i+1) :=
 ⟨h0,by omega,by omega,rfl,(Jpr h0 h1 h hd).symm,rfl⟩
theorem DelI.at (h:DelI d xs ys i j) (hj:j < xs.length):nth ys j=nth xs j:=by
 have h0:=h.i0; have h1:=h.ij; have h2:=h.len
 have e1:=Jbd (xs:=ys) (s:=j) (by omega) (by omega)
 rw [h.dp,Jbd (by omega) hj] at e1
 exact (List.cons.inj e1).1.symm
theorem DelI.keep (h:DelI d xs ys i j) (hj:j < xs.length) (hd:¬ d (nth ys j)=true):DelI d xs (ys.set i.toNat (nth ys j)) (i+1) (j+1):=by
 have h0:=h.i0; have h1:=h.ij; have h2:=h.len
 refine ⟨by omega,by omega,by omega,by simp [h2],?_,?_⟩
 ·
  rw [Jk8 (by omega) hj, ← h.at hj,if_neg hd, ← h.tk,show (i+1).toNat=i.toNat+1 by omega]
  rw [List.take_add_one,List.take_set_of_le (Nat.le_refl _),List.getElem?_set_self (by omega)]; rfl
 rw [show (j+1).toNat=j.toNat+1 by omega,List.drop_set_of_lt (by omega)]
 have e1:=Jbd (xs:=ys) (s:=j) (by omega) (by omega)
 rw [h.dp,Jbd (by omega) hj] at e1
 rw [show (j+1).toNat=j.toNat+1 by omega] at e1
 exact (List.cons.inj e1).2.symm
omit [Inhabited α] in
theorem DelI.fin (h:DelI d xs ys i j) (hj:¬ j < xs.length):ys.take i.toNat=xs.filter fun x => !d x:=by
 have h2:=h.jn
 rw [h.tk,List.take_of_length_le (by omega)]
end
end Go.Proofs.YtfbfdnoodccgiaaGreatDoor
namespace Go.Proofs.YtfbfdnoodccgiaaGreatDoor
set_option linter.unusedVariables false
set_option linter.unusedSimpArgs false
open Go.RowKit Go.Proofs Go.MapKept
def MapAt (u:World) (b:Nat) (f:Int→Int):Prop:=∃ es c,u.heap[b]? = some (.map es c)∧MapI es f
theorem MapAt.ext {w u:World} {b:Nat} {f:Int→Int} (h:MapAt w b f) (hb:Below w.heap.size w u):MapAt u b f:=by
 obtain ⟨es,c,h1,h2⟩:=h
 exact ⟨es,c,(hb.block b (Array.getElem?_eq_some_iff.1 h1).1).trans h1,h2⟩
structure Task where
 k:Int
 n:Int
 a:Int
 deriving Inhabited,DecidableEq
abbrev wr (n:Int):Int:=IntKind.i64.wrap n
def canT (r:Room) (f x:P3) (at_:Int) (t:Task):Bool :=
 if t.k=1 then (decide (t.a=0) && (decide (0≤t.n) && decide (t.n≤(r.wys.l.length:Int) - 1))) && (decide ((nth r.wys.l t.n).a=at_) || decide ((nth r.wys.l t.n).b=at_))
 else if t.k=2 then (decide (0≤t.n) && decide (t.n≤(r.ths.l.length:Int) - 1)) && ((decide ((nth r.ths.l t.n).pl=at_) && (decide (0≤t.a) && decide (t.a≤(nth r.ths.l t.n).st - 1))) && !decide (nth x.1 t.n=t.a))
 else if t.k=3 then ((decide (t.a=0) && (decide (0≤t.n) && decide (t.n≤(r.prs.l.length:Int) - 1))) && !decide (nth x.2.1 t.n=nth f.2.1 t.n)) && (decide (nth f.2.1 t.n = -1) || (decide (nth f.2.1 t.n=at_) && (HoldsV r x (nth r.prs.l t.n).wh.l).2))
 else false
def doT (r:Room) (f x:P3) (at_:Int) (t:Task):P3 × Int :=
 if t.k=1 then (x,wr (wr ((nth r.wys.l t.n).a+(nth r.wys.l t.n).b) - at_))
 else if t.k=2 then ((x.1.set t.n.toNat t.a,x.2),at_)
 else if t.k=3 then ((x.1,x.2.1.set t.n.toNat (nth f.2.1 t.n),x.2.2),at_)
 else (x,at_)
def Jre (r:Room) (f:P3):P3 × Int→List Task→Option (P3 × Int)
 | s,[]=>some s
 | s,t::l=>if canT r f s.1 s.2 t=true then Jre r f (doT r f s.1 s.2 t) l else none
structure Len3 (r:Room) (x:P3):Prop where
 th:x.1.length=r.ths.l.length
 pr:x.2.1.length=r.prs.l.length
 bt:∀ i:Int,0≤i→i < x.1.length → -1000≤nth x.1 i∧nth x.1 i≤1000
 bp:∀ i:Int,0≤i→i < x.2.1.length → -1000≤nth x.2.1 i∧nth x.2.1 i≤1000
abbrev AtB (a:Int):Prop := -9223372036854775808≤a∧a≤9223372036854775807
theorem J5i (n:Int):AtB (wr n):=by
 unfold AtB wr
 rw [IntKind.wrap_i64]
 omega
theorem J25 {r:Room} {x:Thing} (h:thB r x=true):2≤x.st∧x.st≤6:=by
 simp only [thB,Bool.and_eq_true,decide_eq_true_eq] at h
 omega
theorem Jyt {l:List Int} {n:Int} {v:Int} (h:∀ i:Int,0≤i→i < l.length → -1000≤nth l i∧nth l i≤1000) (hv : -1000≤v∧v≤1000):∀ i:Int,0≤i→i < (l.set n.toNat v).length → -1000≤nth (l.set n.toNat v) i∧nth (l.set n.toNat v) i≤1000:=fun i h0 h1=>by
 rw [List.length_set] at h1
 have e:nth (l.set n.toNat v) i=v∨nth (l.set n.toNat v) i=nth l i:=by
  unfold nth
  rw [List.getD_eq_getElem?_getD,List.getD_eq_getElem?_getD,List.getElem?_set]
  split
  ·
   split
   ·
    exact .inl rfl
   exact .inr (by rw [List.getElem?_eq_none (by omega)])
  exact .inr rfl
 rcases e with e | e
 ·
  rw [e]; exact hv
 rw [e]; exact h i h0 h1
theorem Len3.doT {r:Room} {f x:P3} {a:Int} {t:Task} (h:Len3 r x) (hf:Len3 r f) (hR:Ready r) (hc:canT r f x a t=true):Len3 r (doT r f x a t).1:=by
 obtain ⟨h1,h2,h3,h4⟩:=h
 unfold Go.Proofs.YtfbfdnoodccgiaaGreatDoor.doT
 unfold canT at hc
 by_cases k1:t.k=1
 ·
  rw [if_pos k1]; exact ⟨h1,h2,h3,h4⟩
 by_cases k2:t.k=2
 ·
  rw [if_neg k1,if_pos k2] at hc ⊢
  simp only [Bool.and_eq_true,decide_eq_true_eq] at hc
  have hst:=J25 (hR.ths _ (Jaj hc.1.1 (show t.n < (r.ths.l.length:Int) by omega)))
  exact ⟨by rw [List.length_set]; exact h1,h2,Jyt h3 (by omega),h4⟩
 by_cases k3:t.k=3
 ·
  rw [if_neg k1,if_neg k2,if_pos k3] at hc ⊢
  simp only [Bool.and_eq_true,decide_eq_true_eq] at hc
  exact ⟨h1,by rw [List.length_set]; exact h2,h3,Jyt h4 (hf.bp t.n (by omega) (by rw [hf.pr]; omega))⟩
 rw [if_neg k1,if_neg k2,if_neg k3]; exact ⟨h1,h2,h3,h4⟩
theorem J2l {r:Room} {f x:P3} {a:Int} {t:Task} (h:AtB a):AtB (doT r f x a t).2:=by
 unfold doT
 repeat' split
 ·
  exact J5i _
 all_goals exact h
theorem J4y {r:Room} {f x:P3} {a:Int} {t:Task}:(doT r f x a t).1.2.2=x.2.2:=by
 unfold doT
 repeat' split
 all_goals rfl
structure Stand where
 z:Stt
 at_:Int
 bf:Int
 tk:Task
 deriving Inhabited
def Stand.s (s:Stand):P3 × Int:=(s.z.x,s.at_)
structure Reach (r:Room) (f x0:P3) (ss:List Stand):Prop where
 ne:0 < ss.length
 first:(nth ss 0).s=(x0,0)
 len:∀ i:Int,0≤i→i < ss.length→Len3 r (nth ss i).z.x∧(nth ss i).z.x.2.2=x0.2.2∧AtB (nth ss i).at_
 step:∀ i:Int,1≤i→i < ss.length→(0≤(nth ss i).bf∧(nth ss i).bf < i)∧canT r f (nth ss (nth ss i).bf).z.x (nth ss (nth ss i).bf).at_ (nth ss i).tk=true∧(nth ss i).s=doT r f (nth ss (nth ss i).bf).z.x (nth ss (nth ss i).bf).at_ (nth ss i).tk
theorem Reach.one {r:Room} {f:P3} {s:Stand} (h:Len3 r s.z.x) (h0:s.at_=0):Reach r f s.z.x [s] :=
 ⟨by simp,by unfold Stand.s; rw [show nth [s] 0=s from rfl,h0],fun i i0 i1=>by
  have:i=0:=by simp at i1; omega
  subst this; exact ⟨h,rfl,by rw [show (nth [s] 0).at_=s.at_ from rfl,h0]; decide⟩,fun i i0 i1=>by simp at i1; omega⟩
theorem Jc8 {α:Type} [Inhabited α] {l:List α} {x:α} {i:Int} (h0:0≤i) (h1:i < l.length):nth (l++[x]) i=nth l i:=Js7 h1 h0
theorem Jh2 {α:Type} [Inhabited α] {l:List α} {x:α} {i:Int} (h:i=l.length):nth (l++[x]) i=x:=by
 rw [Jul (by omega),h,Int.sub_self]; rfl
theorem Reach.snoc {r:Room} {f x0:P3} {ss:List Stand} {y:Stand} (h:Reach r f x0 ss) (hf:Len3 r f) (hR:Ready r) {i:Int} (h0:0≤i) (h1:i < ss.length) (hb:y.bf=i) (hc:canT r f (nth ss i).z.x (nth ss i).at_ y.tk=true) (hs:y.s=doT r f (nth ss i).z.x (nth ss i).at_ y.tk):Reach r f x0 (ss++[y]):=by
 have hz:y.z.x=(doT r f (nth ss i).z.x (nth ss i).at_ y.tk).1:=congrArg Prod.fst hs
 have hz2:y.at_=(doT r f (nth ss i).z.x (nth ss i).at_ y.tk).2:=congrArg Prod.snd hs
 have hl:=h.len i h0 h1
 refine ⟨by simp,by rw [Jc8 (Int.le_refl 0) (by have:=h.ne; omega)]; exact h.first,fun j j0 j1=>?_,fun j j0 j1=>?_⟩
 ·
  by_cases hj:j < ss.length
  ·
   rw [Jc8 j0 hj]; exact h.len j j0 hj
  rw [Jh2 (by simp at j1; omega),hz,hz2]
  exact ⟨hl.1.doT hf hR hc,by rw [J4y]; exact hl.2.1,J2l hl.2.2⟩
 by_cases hj:j < ss.length
 ·
  obtain ⟨a1,a2,a3⟩:=h.step j j0 hj
  rw [Jc8 (by omega) hj,Jc8 a1.1 (by omega)]
  exact ⟨a1,a2,a3⟩
 rw [Jh2 (by simp at j1; omega),hb,Jc8 h0 h1]
 exact ⟨⟨h0,by simp at j1; omega⟩,hc,hs⟩
theorem Reach.back {r:Room} {f x0:P3} {ss:List Stand} (h:Reach r f x0 ss) {i:Int} (h0:1≤i) (h1:i < ss.length) {out:List Task} {z:P3 × Int} (hp:Jre r f (nth ss i).s out.reverse=some z) :
  Jre r f (nth ss (nth ss i).bf).s (out++[(nth ss i).tk]).reverse=some z:=by
 obtain ⟨a1,a2,a3⟩:=h.step i h0 h1
 rw [List.reverse_append]
 show Jre r f _ ((nth ss i).tk::out.reverse)=some z
 unfold Jre
 have e1:canT r f (nth ss (nth ss i).bf).s.1 (nth ss (nth ss i).bf).s.2 (nth ss i).tk=true:=a2
 rw [if_pos e1]
 rw [a3] at hp
 exact hp
structure MapS (es:Array MapEntry):Prop where
 num:∀ e∈es.toList,(∃ s,e.key = .string s)∧∃ v,e.val = .int .i64 v
section
variable {P:Program} {ro:Option Nat} {n0:Nat} {w0:World} {ds:List Deferred} {ops:Array Oper} {Q:Exit→Act→World→Prop} {L L':List SA} {rest:List Oper} {l:List Value} {ty:TypeId} {ps:String} {af:Array Edge}
 {T K E:TypeId} {x y z:Operand} {b j:Nat} {v:Int} {d:Option Tmp} {g:Option (Nat × Bool)} {t:ByteArray}
theorem MapS.keys {es:Array MapEntry} (h:MapS es):∀ x∈es.toList,IsKey .string x.key:=fun x hx=>by
 obtain ⟨⟨s,hs⟩,_⟩:=h.num x hx
 rw [hs]; trivial
theorem MapS.push {es:Array MapEntry} (h:MapS es) (t:ByteArray) (v:Int) (c:Nat):MapS (es.push ⟨.string t,.int .i64 v,c⟩):=⟨fun e he=>by
 rw [Array.toList_push,List.mem_append,List.mem_singleton] at he
 rcases he with he | rfl
 ·
  exact h.num e he
 exact ⟨⟨t,rfl⟩,v,rfl⟩⟩
theorem WS.callE {β:Type} {f:Operand} {args:List Operand} {ts:Array TypeId} {fn:FuncId} {cap:List Value} {vs:List Value} {v:β→Value} {p:β→Prop} {i:Nat} {l':β→List Value}
  (hf:evo l f=some (.func (.func fn) #[] cap.toArray)) (hv:evs l args=some vs) (he:Ent P fn)
  (hc:∀ u,St n0 w0 L u→Calls P fn (vs++cap).toArray u (fun e u'=>∃ x,p x∧RetB u (v x) e u'))
  (hl:∀ x,lset l i (v x)=some (l' x)) (k:∀ x,p x→WS P ro n0 w0 ds ops Q L rest (l' x)) :
  WS P ro n0 w0 ds ops Q L (⟨some i,.call ⟨.value f,args.toArray,ts⟩,ty,ps,af,none⟩::rest) l :=
 WS.callS (L':=fun _=>L) hf hv he (fun u hu=>(hc u hu).mono fun e u' ⟨x,h1,h2,h3⟩=>⟨x,h1,h2,hu.ext h3⟩) hl k
variable {α:Type} [Inhabited α] {C:Cel α}
end
end Go.Proofs.YtfbfdnoodccgiaaGreatDoor
namespace Go.Proofs.YtfbfdnoodccgiaaGreatDoor
set_option linter.unusedVariables false
set_option linter.unusedSimpArgs false
open Go.RowKit Go.Proofs
def sepd (c:UInt8):List (List UInt8)→List (List UInt8)
 | []=>[]
 | [z]=>[z]
 | x::y::xs=>(x++[c])::sepd c (y::xs)
theorem Jfg (c:UInt8) (x:List UInt8) {xs:List (List UInt8)} (h:0 < xs.length):sepd c (x::xs)=(x++[c])::sepd c xs:=by
 cases xs with
 | nil=>simp at h
 | cons y ys=>rfl
theorem Jql (c b:UInt8) (x:List UInt8) (xs:List (List UInt8)):sepd c ((b::x)::xs)=match sepd c (x::xs) with
  | z::zs=>(b::z)::zs
  | []=>[[b]]:=by
 cases xs with
 | nil=>rfl
 | cons y ys=>rfl
theorem Jf6 (c:UInt8):∀ l:List UInt8,Lib.splitK [c] 1 (Lib.count l [c]) l=sepd c (Jau c l)
 | []=>by rw [Lib.count_one]; rfl
 | b::r=>by
  have ih:=Jf6 c r
  by_cases h:b=c
  ·
   subst h
   rw [Lib.count_cons_eq,Nat.add_comm]
   have hi:Lib.index (b::r) [b]=0:=by rw [Lib.index]; simp [List.isPrefixOf]
   unfold Lib.splitK Jau
   rw [hi,if_neg (by decide),if_pos rfl,Jfg _ _ (Jd4 b r)]
   simp [ih]
  rw [Lib.count_cons_ne _ _ _ h]
  have hp:([c]:List UInt8).isPrefixOf (b::r)=false:=by simp [List.isPrefixOf,Ne.symm h]
  have hi:Lib.index (b::r) [c]=if Lib.index r [c] == -1 then -1 else Lib.index r [c]+1:=by rw [Lib.index,hp]; simp
  have e:sepd c (Jau c (b::r))=match sepd c (Jau c r) with
    | z::zs=>(b::z)::zs
    | []=>[[b]]:=by
   have hq:=Jd4 c r
   rw [Jau,if_neg h]
   cases hs:Jau c r with
   | nil=>rw [hs] at hq; simp at hq
   | cons x xs=>exact Jql c b x xs
  rw [e, ← ih]
  cases hk:Lib.count r [c] with
  | zero=>rfl
  | succ k =>
   have hne:¬ Lib.index r [c] = -1:=fun e=>by rw [Lib.count_miss e] at hk; cases hk
   have hge:=Lib.index_ge r [c]
   unfold Lib.splitK
   rw [hi,if_neg (show ¬ (Lib.index r [c] == -1)=true by simpa using hne),if_neg (show ¬ (Lib.index r [c]+1 == -1)=true by simp; omega)]
   have e1:(Lib.index r [c]+1).toNat=(Lib.index r [c]).toNat+1:=by omega
   simp only [e1,List.take_succ_cons,List.length_cons,List.length_nil,Nat.zero_add,List.drop_succ_cons]
   rw [if_neg (show ¬ (Lib.index r [c] == -1)=true by simpa using hne)]
def aftS (c:UInt8) (t:ByteArray):List ByteArray:=(sepd c (Jau c (bl t))).map ba
theorem Jk5 (c:UInt8) (s:ByteArray):Lib.splitB ⟨#[c]⟩ 1 (Lib.countB s ⟨#[c]⟩) s=aftS c s:=by
 have h:=Lib.splitB_data ⟨#[c]⟩ 1 (Lib.countB s ⟨#[c]⟩) s
 have h2:Lib.splitK [c] 1 (Lib.count (bl s) [c]) (bl s)=sepd c (Jau c (bl s)):=Jf6 c (bl s)
 have h3:(Lib.splitB ⟨#[c]⟩ 1 (Lib.countB s ⟨#[c]⟩) s).map bl=sepd c (Jau c (bl s)):=h.trans h2
 unfold aftS
 rw [← h3,List.map_map]
 conv=>lhs; rw [← List.map_id (Lib.splitB ⟨#[c]⟩ 1 (Lib.countB s ⟨#[c]⟩) s)]
 rfl
theorem Jnu (c:UInt8):∀ l:List (List UInt8),(sepd c l).length=l.length
 | []=>rfl
 | [_]=>rfl
 | x::y::xs=>by rw [Jfg c x (by simp),List.length_cons,Jnu c (y::xs)]; rfl
theorem Jiz (c:UInt8) (t:ByteArray):(aftS c t).length=(Jad c t).length:=by
 unfold aftS Jad
 rw [List.length_map,List.length_map,Jnu]
theorem Jm7 (c:UInt8):∀ (l:List (List UInt8)) (i:Nat),i+1 < l.length→(sepd c l)[i]? = (l[i]?).map (· ++ [c])
 | x::y::xs,0,_=>rfl
 | x::y::xs,i+1,h=>by
  rw [Jfg c x (by simp),List.getElem?_cons_succ,List.getElem?_cons_succ,Jm7 c (y::xs) i (by simpa using h)]
 | [_],i,h=>by simp at h
 | [],i,h=>by simp at h
theorem Jkg (c:UInt8):∀ (l:List (List UInt8)) (i:Nat),i+1=l.length→(sepd c l)[i]? = l[i]?
 | [_],0,_=>rfl
 | x::y::xs,0,h=>by simp at h
 | x::y::xs,i+1,h=>by
  rw [Jfg c x (by simp),List.getElem?_cons_succ,List.getElem?_cons_succ,Jkg c (y::xs) i (by simpa using h)]
 | [_],i+1,h=>by simp at h
 | [],i,h=>by simp at h
theorem Jqm {α:Type} [Inhabited α] {l:List α} {i:Int} {x:α} (h:l[i.toNat]? = some x):nth l i=x:=by simp [nth,List.getD,h]
theorem Jgr {α:Type} [Inhabited α] {l:List α} {i:Int} (h0:0≤i) (h1:i < l.length):l[i.toNat]? = some (nth l i):=by
 have:i.toNat < l.length:=by omega
 simp [nth,List.getD,this]
theorem Jzq {c:UInt8} {t:ByteArray} {i:Int} (h0:0≤i) (h1:i+1 < (Jad c t).length):nth (aftS c t) i=nth (Jad c t) i++(⟨#[c]⟩:ByteArray):=by
 have hl:i.toNat+1 < (Jau c (bl t)).length:=by simp only [Jad,List.length_map] at h1; omega
 refine Jqm ?_
 have e:=Jgr (l:=Jad c t) h0 (by omega)
 unfold Jad at e
 unfold aftS
 rw [List.getElem?_map] at e
 rw [List.getElem?_map,Jm7 _ _ _ hl]
 cases hx:(Jau c (bl t))[i.toNat]? with
 | none=>rw [hx] at e; cases e
 | some x =>
  rw [hx] at e
  have e2:=Option.some.inj e
  rw [Option.map_some,Option.map_some,show nth (Jad c t) i=ba x from e2.symm]
  exact congrArg some (Jjs (by simp [Jfb,Jth]))
theorem Jni {c:UInt8} {t:ByteArray} {i:Int} (h0:0≤i) (h1:i+1=(Jad c t).length):nth (aftS c t) i=nth (Jad c t) i:=by
 have hl:i.toNat+1=(Jau c (bl t)).length:=by simp only [Jad,List.length_map] at h1; omega
 refine Jqm ?_
 have e:=Jgr (l:=Jad c t) h0 (by omega)
 unfold Jad at e
 unfold aftS
 rw [List.getElem?_map] at e
 rw [List.getElem?_map,Jkg _ _ _ hl]
 exact e
def Jka:ByteArray:=⟨#[109,111,118,101]⟩
def Jj2:ByteArray:=⟨#[104,105,110,116]⟩
def Jhf:ByteArray:=⟨#[112,97,117,115,101]⟩
def Jez:ByteArray:=⟨#[114,101,115,117,109,101]⟩
def Jgy:ByteArray:=⟨#[115,101,110,115,101]⟩
def kwE (k:Int):ByteArray:=if k=1 then Jka else if k=2 then Jj2 else if k=3 then Jhf else if k=4 then Jez else Jgy
def Jfx (w:ByteArray):Int:=if seq w Jka=true then 1 else if seq w Jj2=true then 2 else if seq w Jhf=true then 3 else if seq w Jez=true then 4 else if seq w Jgy=true then 5 else 0
def fldE (x:Entr):List Int:=if x.k=1 then [x.m.p,x.m.k,x.m.n] else if x.k=2 then [x.a] else if x.k=5 then [x.a,x.b] else []
def clkB (n:Int):Bool:=decide (0≤n) && decide (n≤1000000)
def okE (x:Entr):Bool:=Jci x && (clkB x.t && (fldE x).all clkB)
def linE (x:Entr):List ByteArray:=digB x.t::kwE x.k::(fldE x).map digB
def FmtE (l:List Entr):ByteArray × Int:=if 500 < (l.length:Int) then (⟨#[]⟩,2) else if l.all okE=true then (Jej (l.map linE),0) else (⟨#[]⟩,120)
def numE (t:ByteArray):Option Int:=(numB 7 t).bind fun n=>if n≤1000000 then some n else none
def mkE (t k:Int):List Int→Option Entr
 | []=>if k=3∨k=4 then some ⟨t,k,mv0,0,0⟩ else none
 | [a]=>if k=2 then some ⟨t,2,mv0,a,0⟩ else none
 | [a,b]=>if k=5 then some ⟨t,5,mv0,a,b⟩ else none
 | [a,b,c]=>if k=1 then some ⟨t,1,⟨a,b,c⟩,0,0⟩ else none
 | _=>none
def Jcx:List ByteArray→Option (List Int)
 | []=>some []
 | w::ws=>(numE w).bind fun n=>(Jcx ws).map (n :: ·)
def logW:List ByteArray→Option Entr
 | a::w::ws=>(numE a).bind fun t=>(Jcx ws).bind fun fs=>mkE t (Jfx w) fs
 | _=>none
def logE (t:ByteArray):Option Entr:=logW (Jad 32 t)
def parE (acc:List Entr) (i:Int):List ByteArray→List Entr × Int × Int
 | []=>([],i+1,4)
 | [z]=>if seq z ⟨#[]⟩=true then (if 500 < (acc.length:Int) then ([],0,2) else (acc,0,0)) else ([],i+1,4)
 | l::l2::ls=>match logE l with
  | some x=>parE (acc++[x]) (i+1) (l2::ls)
  | none=>([],i+1,4)
def Jdq (t:ByteArray):List Entr × Int × Int:=parE [] 0 (Jad 10 t)
theorem Ji0 {k:Int} (h:1≤k∧k≤5):Jfx (kwE k)=k:=by
 rcases (show k=1∨k=2∨k=3∨k=4∨k=5 by omega) with rfl | rfl | rfl | rfl | rfl <;> decide +kernel
theorem Jns:∀ (m u:Nat),u < 10 ^ (m+1)→1≤(Lib.decDigits u).length∧(Lib.decDigits u).length≤m+1
 | 0,u,h=>by rw [Lib.decDigits_one (by simpa using h)]; simp
 | m+1,u,h=>by
  by_cases a:u < 10
  ·
   rw [Lib.decDigits_one a]; simp
  have h2:(Lib.decDigits u).length=(Lib.decDigits (u / 10)).length+1:=by
   conv=>lhs; rw [Lib.decDigits,dif_neg a]
   simp
  have h3:=Jns m (u / 10) (by rw [Nat.pow_succ] at h; omega)
  omega
theorem dig7 {n:Int} (h:clkB n=true):numE (digB n)=some n∧(digB n).size≤7:=by
 simp only [clkB,Bool.and_eq_true,decide_eq_true_eq] at h
 have h1:=Jns 6 n.toNat (by show n.toNat < 10000000; omega)
 refine ⟨?_,?_⟩
 ·
  unfold numE
  rw [Ju7 h.1 ⟨h1.1,by omega⟩,Option.bind_some,if_pos h.2]
 rw [← Jb6,Jha]
 exact h1.2
theorem Jk1:∀ {l:List Int},l.all clkB=true→Jcx (l.map digB)=some l
 | [],_=>rfl
 | n::l,h=>by
  rw [List.all_cons,Bool.and_eq_true] at h
  rw [List.map_cons,Jcx,(dig7 h.1).1,Option.bind_some,Jk1 h.2]
  rfl
theorem Jn9 {x:Entr} (h:okE x=true):Jci x=true∧clkB x.t=true∧(fldE x).all clkB=true:=by
 simpa only [okE,Bool.and_eq_true] using h
theorem J2k {x:Entr} (h:Jci x=true):mkE x.t x.k (fldE x)=some x:=by
 obtain ⟨t,k,⟨p,q,n⟩,a,b⟩:=x
 have hk:=Ji4 h
 simp only at hk
 unfold Jci at h
 rcases hk with rfl | rfl | rfl | rfl | rfl
 all_goals simp [mv0] at h
 all_goals simp [fldE,mkE,mv0,h]
theorem Jfe {x:Entr} (h:okE x=true):J4j 5 (linE x):=by
 obtain ⟨h1,h2,h3⟩:=Jn9 h
 have hw:FineW (kwE x.k):=by
  unfold kwE
  split
  ·
   exact Jey (l:=[Jka]) (by decide +kernel) _ (by simp)
  split
  ·
   exact Jey (l:=[Jj2]) (by decide +kernel) _ (by simp)
  split
  ·
   exact Jey (l:=[Jhf]) (by decide +kernel) _ (by simp)
  split
  ·
   exact Jey (l:=[Jez]) (by decide +kernel) _ (by simp)
  exact Jey (l:=[Jgy]) (by decide +kernel) _ (by simp)
 have hd:∀ n,clkB n=true→FineW (digB n):=fun n hn=>⟨fun b hb=>by have:=Jx4 n b hb; omega,by have:=(dig7 hn).2; omega⟩
 refine ⟨List.cons_ne_nil _ _,Jkd (hd _ h2) (Jkd hw fun y hy=>?_),?_⟩
 ·
  obtain ⟨n,hn,rfl⟩:=List.mem_map.1 hy
  exact hd n (List.all_eq_true.1 h3 n hn)
 simp only [linE,List.length_cons,List.length_map]
 have:(fldE x).length≤3:=by
  unfold fldE
  split
  ·
   simp
  split
  ·
   simp
  split <;> simp
 omega
theorem Jko {x:Entr} (h:okE x=true):logE (jnB (linE x))=some x:=by
 obtain ⟨h1,h2,h3⟩:=Jn9 h
 have hk:=Ji4 h1
 have hf:=Jfe h
 unfold logE
 rw [Jwe hf.1 fun y hy=>(Jzy (hf.2.1 y hy).hi).1]
 show logW (digB x.t::kwE x.k::(fldE x).map digB)=_
 rw [logW,(dig7 h2).1,Option.bind_some,Jk1 h3,Option.bind_some,Ji0 (by omega)]
 exact J2k h1
theorem Jk3:∀ {l:List Entr} {acc:List Entr} {i:Int},l.all okE=true→parE acc i (l.map (fun x=>jnB (linE x))++[⟨#[]⟩])=if 500 < ((acc++l).length:Int) then ([],0,2) else (acc++l,0,0)
 | [],acc,i,_=>by
  rw [List.append_nil]
  show parE acc i [⟨#[]⟩]=_
  rw [parE,if_pos (by decide +kernel)]
 | x::l,acc,i,h=>by
  rw [List.all_cons,Bool.and_eq_true] at h
  have ih:=Jk3 (l:=l) (acc:=acc++[x]) (i:=i+1) h.2
  rw [List.append_assoc,List.singleton_append] at ih
  rw [← ih]
  cases l with
  | nil =>
   show parE acc i [jnB (linE x),⟨#[]⟩]=_
   rw [parE,Jko h.1]
   rfl
  | cons y l =>
   show parE acc i (jnB (linE x)::jnB (linE y)::(l.map (fun x=>jnB (linE x))++[⟨#[]⟩]))=_
   rw [parE,Jko h.1]
   rfl
theorem Jjh {l:List Entr} (h:l.all okE=true) (hl:¬ 500 < (l.length:Int)):Jdq (Jej (l.map linE))=(l,0,0):=by
 unfold Jdq
 rw [Jpg fun ws hw x hx=>by
  obtain ⟨y,hy,rfl⟩:=List.mem_map.1 hw
  exact (Jfe (List.all_eq_true.1 h y hy)).2.1 x hx]
 have e:=Jk3 (acc:=[]) (i:=0) h
 rw [List.nil_append,if_neg hl] at e
 rw [List.map_map]
 exact e
theorem Jfi {l:List Entr} (h:l.all okE=true) {n:Nat} (hl:l.length≤n):(Jej (l.map linE)).size≤81 * n:=by
 have e:=Jtt (n:=81) (ls:=l.map linE) fun ws hw=>by
  obtain ⟨y,hy,rfl⟩:=List.mem_map.1 hw
  exact Jqs (Jfe (List.all_eq_true.1 h y hy))
 rw [← Jq1,Jb6,List.length_map] at e
 exact Nat.le_trans e (Nat.mul_le_mul_left _ hl)
def offE (k:Int):List Nat:=if k=1 then [2,3,4] else if k=2 then [5] else if k=5 then [5,6] else []
def setE (x:Entr) (o:Nat) (v:Int):Entr:=if o=2 then ⟨x.t,x.k,⟨v,x.m.k,x.m.n⟩,x.a,x.b⟩ else if o=3 then ⟨x.t,x.k,⟨x.m.p,v,x.m.n⟩,x.a,x.b⟩ else if o=4 then ⟨x.t,x.k,⟨x.m.p,x.m.k,v⟩,x.a,x.b⟩
 else if o=5 then ⟨x.t,x.k,x.m,v,x.b⟩ else if o=6 then ⟨x.t,x.k,x.m,x.a,v⟩ else x
def zerE (x:Entr) (n:Nat):Entr:=((offE x.k).take n).foldl (fun y o=>setE y o 0) x
theorem Jys {k:Int} {n o:Nat} (h:(offE k)[n]? = some o):2≤o∧o≤6:=by
 have hm:=List.mem_of_getElem? h
 unfold offE at hm
 split at hm
 ·
  simp at hm; omega
 split at hm
 ·
  simp at hm; omega
 split at hm
 ·
  simp at hm; omega
 cases hm
theorem Juq (k:Int):(offE k).length≤3:=by
 unfold offE
 split
 ·
  simp
 split
 ·
  simp
 split <;> simp
theorem Jue (x:Entr):(fldE x).length=(offE x.k).length:=by
 unfold fldE offE
 split
 ·
  rfl
 split
 ·
  rfl
 split <;> rfl
theorem Jjn {y:Entr} {o:Nat} (h:2≤o∧o≤6) (v:Int):(cEntry.cells y).set o (.int .i64 v)=cEntry.cells (setE y o v):=by
 rcases (show o=2∨o=3∨o=4∨o=5∨o=6 by omega) with rfl | rfl | rfl | rfl | rfl <;> rfl
theorem J2e (y:Entr) (o:Nat) (v:Int):(setE y o v).k=y.k∧(setE y o v).t=y.t:=by
 unfold setE
 split
 ·
  exact ⟨rfl,rfl⟩
 split
 ·
  exact ⟨rfl,rfl⟩
 split
 ·
  exact ⟨rfl,rfl⟩
 split
 ·
  exact ⟨rfl,rfl⟩
 split <;> exact ⟨rfl,rfl⟩
theorem J3o (os:List Nat):∀ x:Entr,(os.foldl (fun y o=>setE y o 0) x).k=x.k∧(os.foldl (fun y o=>setE y o 0) x).t=x.t:=by
 induction os with
 | nil=>exact fun x=>⟨rfl,rfl⟩
 | cons o os ih =>
  intro x
  rw [List.foldl_cons]
  exact ⟨(ih _).1.trans (J2e x o 0).1,(ih _).2.trans (J2e x o 0).2⟩
theorem J4f (x:Entr) (n:Nat):(zerE x n).k=x.k∧(zerE x n).t=x.t:=J3o _ x
theorem Jw2 {x:Entr} {n o:Nat} (h:(offE x.k)[n]? = some o):zerE x (n+1)=setE (zerE x n) o 0:=by
 unfold zerE
 rw [List.take_add_one,h,List.foldl_append]
 rfl
theorem J3v {x:Entr} {n o:Nat} (h:(offE x.k)[n]? = some o):(cEntry.cells (zerE x n))[o]? = some (.int .i64 (nth (fldE x) n)):=by
 obtain ⟨t,k,⟨p,q,z⟩,a,b⟩:=x
 by_cases h1:k=1
 ·
  subst h1
  match n,h with
  | 0,h =>
   obtain rfl:2=o:=by simpa [offE] using h
   rfl
  | 1,h =>
   obtain rfl:3=o:=by simpa [offE] using h
   rfl
  | 2,h =>
   obtain rfl:4=o:=by simpa [offE] using h
   rfl
  | n+3,h=>simp [offE] at h
 by_cases h2:k=2
 ·
  subst h2
  match n,h with
  | 0,h =>
   obtain rfl:5=o:=by simpa [offE] using h
   rfl
  | n+1,h=>simp [offE] at h
 by_cases h5:k=5
 ·
  subst h5
  match n,h with
  | 0,h =>
   obtain rfl:5=o:=by simpa [offE] using h
   rfl
  | 1,h =>
   obtain rfl:6=o:=by simpa [offE] using h
   rfl
  | n+2,h=>simp [offE] at h
 simp [offE,h1,h2,h5] at h
theorem Jnh {x:Entr} (hk:1≤x.k∧x.k≤5):zerE x (offE x.k).length=⟨x.t,x.k,mv0,0,0⟩ ↔ Jci x=true:=by
 obtain ⟨t,k,⟨p,q,z⟩,a,b⟩:=x
 simp only at hk
 rcases (show k=1∨k=2∨k=3∨k=4∨k=5 by omega) with rfl | rfl | rfl | rfl | rfl
 all_goals simp [zerE,offE,setE,Jci,mv0]
theorem Jrv {x:Entr} (h:Jci x=true):1≤x.k∧x.k≤5:=by
 have:=Ji4 h
 omega
theorem Jhj {l:List Entr} (h:500 < (l.length:Int)):FmtE l=(⟨#[]⟩,2):=if_pos h
theorem Je6 {l:List Entr} (h:¬ 500 < (l.length:Int)) {x:Entr} (hx:x∈l) (ho:okE x=false):FmtE l=(⟨#[]⟩,120):=by
 unfold FmtE
 rw [if_neg h,if_neg fun hq=>by rw [List.all_eq_true.1 hq x hx] at ho; cases ho]
theorem Jm0 {l:List Entr} (h:¬ 500 < (l.length:Int)) (hq:l.all okE=true):FmtE l=(Jej (l.map linE),0):=by
 unfold FmtE
 rw [if_neg h,if_pos hq]
theorem Jm6 {x:Entr} {i:Int} (h0:0≤i) (h1:i < (fldE x).length) (h:clkB (nth (fldE x) i)=false):okE x=false:=by
 unfold okE
 have:(fldE x).all clkB=false:=List.all_eq_false.2 ⟨_,Jaj h0 h1,by rw [h]; decide⟩
 rw [this,Bool.and_false,Bool.and_false]
theorem Jza {x:Entr} (h:Jci x=false):okE x=false:=by unfold okE; rw [h]; rfl
theorem Jyu {x:Entr} (h:Jci x=true) (ht:clkB x.t=true) (hf:(fldE x).all clkB=true):okE x=true:=by unfold okE; rw [h,ht,hf]; rfl
theorem Jgh {α:Type} [Inhabited α] {p:α→Bool} {l:List α} {i:Int} (h0:0≤i) (h1:i < l.length) (h:(l.take i.toNat).all p=true) (hx:p (nth l i)=true):(l.take (i+1).toNat).all p=true:=by
 rw [Ja2 l h0 h1,List.all_append,h]
 simp [hx]
theorem Jks {l:List Entr} {i:Int} (h0:0≤i) (h1:i < l.length):Jej ((l.take (i+1).toNat).map linE)=Jej ((l.take i.toNat).map linE)++Jgt (linE (nth l i)):=by
 rw [Ja2 l h0 h1,List.map_append,List.map_singleton,Jun]
def inK (k:Int):Bool:=decide (1≤k) && decide (k≤5)
theorem Jjb {k:Int} (h:inK k=true):k=1∨k=2∨k=3∨k=4∨k=5:=by
 simp only [inK,Bool.and_eq_true,decide_eq_true_eq] at h
 omega
theorem Jz0 {k:Int} (h:inK k=true):1≤k∧k≤5:=by simpa only [inK,Bool.and_eq_true,decide_eq_true_eq] using h
theorem J4m {j k:Int} (hj:inK j=true) (hk:inK k=true) (h:kwE j=kwE k):j=k:=by
 rw [← Ji0 (Jz0 hj), ← Ji0 (Jz0 hk),h]
theorem J0t (w:ByteArray):Jfx w=0∨(inK (Jfx w)=true∧kwE (Jfx w)=w):=by
 unfold Jfx
 by_cases h1:seq w Jka=true
 ·
  rw [if_pos h1]; exact .inr ⟨rfl,(Jew.1 h1).symm⟩
 rw [if_neg h1]
 by_cases h2:seq w Jj2=true
 ·
  rw [if_pos h2]; exact .inr ⟨rfl,(Jew.1 h2).symm⟩
 rw [if_neg h2]
 by_cases h3:seq w Jhf=true
 ·
  rw [if_pos h3]; exact .inr ⟨rfl,(Jew.1 h3).symm⟩
 rw [if_neg h3]
 by_cases h4:seq w Jez=true
 ·
  rw [if_pos h4]; exact .inr ⟨rfl,(Jew.1 h4).symm⟩
 rw [if_neg h4]
 by_cases h5:seq w Jgy=true
 ·
  rw [if_pos h5]; exact .inr ⟨rfl,(Jew.1 h5).symm⟩
 rw [if_neg h5]; exact .inl rfl
theorem Jpk {L:List ByteArray} (h:L.length < 2):logW L=none:=by
 match L,h with
 | [],_=>rfl
 | [_],_=>rfl
theorem Jl2 {L:List ByteArray} (h:2≤L.length):logW L=(numE (nth L 0)).bind fun t=>(Jcx (L.drop 2)).bind fun fs=>mkE t (Jfx (nth L 1)) fs:=by
 match L,h with
 | a::w::ws,_=>rfl
theorem Jn0:∀ {ws:List ByteArray} {fs:List Int},Jcx ws=some fs→fs.length=ws.length
 | [],fs,h=>by obtain rfl:=Option.some.inj h; rfl
 | w::ws,fs,h=>by
  rw [Jcx] at h
  cases hn:numE w with
  | none=>rw [hn] at h; cases h
  | some n =>
   rw [hn,Option.bind_some] at h
   cases hs:Jcx ws with
   | none=>rw [hs] at h; cases h
   | some gs =>
    rw [hs] at h
    obtain rfl:=Option.some.inj h
    rw [List.length_cons,List.length_cons,Jn0 hs]
theorem Jnr:∀ {ws:List ByteArray} {vs:List Int} {w:ByteArray} {v:Int},Jcx ws=some vs→numE w=some v→Jcx (ws++[w])=some (vs++[v])
 | [],vs,w,v,h,hv=>by
  obtain rfl:=Option.some.inj h
  show Jcx [w]=some [v]
  rw [Jcx,hv]
  rfl
 | x::ws,vs,w,v,h,hv=>by
  rw [Jcx] at h
  cases hn:numE x with
  | none=>rw [hn] at h; cases h
  | some n =>
   rw [hn,Option.bind_some] at h
   cases hs:Jcx ws with
   | none=>rw [hs] at h; cases h
   | some gs =>
    rw [hs] at h
    obtain rfl:=Option.some.inj h
    rw [List.cons_append,Jcx,hn,Option.bind_some,Jnr hs hv]
    rfl
theorem Jkf:∀ {ws:List ByteArray} {w:ByteArray},w∈ws→numE w=none→Jcx ws=none
 | x::ws,w,h,hn=>by
  rw [Jcx]
  rcases List.mem_cons.1 h with rfl | h
  ·
   rw [hn]; rfl
  rw [Jkf h hn]
  cases numE x <;> rfl
theorem Jos {α:Type} [Inhabited α] (l:List α) {i:Int} (h0:0≤i):nth (l.drop 2) i=nth l (i+2):=by
 have e:(i+2).toNat=2+i.toNat:=by omega
 simp only [nth,List.getD,e,List.getElem?_drop]
theorem J0k {t k:Int} {fs:List Int} (h:inK k=false∨fs.length≠(offE k).length):mkE t k fs=none:=by
 cases hk:inK k with
 | false =>
  have h1:¬ (1≤k∧k≤5):=fun q=>by simp [inK,q] at hk
  match fs with
  | []=>exact if_neg (by omega)
  | [_]=>exact if_neg (by omega)
  | [_,_]=>exact if_neg (by omega)
  | [_,_,_]=>exact if_neg (by omega)
  | _::_::_::_::_=>rfl
 | true =>
  have h2:fs.length≠(offE k).length:=h.resolve_left (by rw [hk]; decide)
  rcases Jjb hk with rfl | rfl | rfl | rfl | rfl
  all_goals
   match fs,h2 with
   | [],h2=>first | rfl | exact absurd rfl h2
   | [_],h2=>first | rfl | exact absurd rfl h2
   | [_,_],h2=>first | rfl | exact absurd rfl h2
   | [_,_,_],h2=>first | rfl | exact absurd rfl h2
   | _::_::_::_::_,_=>rfl
def stoE (t k:Int) (vs:List Int):Entr:=((offE k).zip vs).foldl (fun y p=>setE y p.1 p.2) ⟨t,k,mv0,0,0⟩
theorem Jzf {t k:Int} {fs:List Int} (hk:inK k=true) (h:fs.length=(offE k).length):mkE t k fs=some (stoE t k fs):=by
 rcases Jjb hk with rfl | rfl | rfl | rfl | rfl
 all_goals
  match fs,h with
  | [],h=>first | rfl | (simp [offE] at h; done)
  | [_],h=>first | rfl | (simp [offE] at h; done)
  | [_,_],h=>first | rfl | (simp [offE] at h; done)
  | [_,_,_],h=>first | rfl | (simp [offE] at h; done)
  | _::_::_::_::_,h=>exact absurd h (by simp [offE])
theorem Jnv {α β:Type}:∀ {l:List α} {vs:List β} {o:α} {v:β},l[vs.length]? = some o→l.zip (vs++[v])=l.zip vs++[(o,v)]
 | a::l,[],o,v,h=>by
  obtain rfl:a=o:=by simpa using h
  simp
 | a::l,b::vs,o,v,h=>by
  have e:=Jnv (l:=l) (vs:=vs) (o:=o) (v:=v) (by simpa using h)
  rw [List.cons_append,List.zip_cons_cons,e]
  rfl
 | [],vs,o,v,h=>by simp at h
theorem Jzh {t k:Int} {vs:List Int} {o:Nat} {v:Int} (h:(offE k)[vs.length]? = some o):stoE t k (vs++[v])=setE (stoE t k vs) o v:=by
 unfold stoE
 rw [Jnv h,List.foldl_append]
 rfl
theorem Jwn {t:ByteArray} (h:(Jad 32 t).length < 2):logE t=none:=Jpk h
theorem Jsp {t:ByteArray} (h:2≤(Jad 32 t).length) (hn:numE (nth (Jad 32 t) 0)=none∨inK (Jfx (nth (Jad 32 t) 1))=false∨(Jad 32 t).length - 2≠(offE (Jfx (nth (Jad 32 t) 1))).length):logE t=none:=by
 unfold logE
 rw [Jl2 h]
 rcases hn with hn | hn
 ·
  rw [hn]; rfl
 cases h1:numE (nth (Jad 32 t) 0) with
 | none=>rfl
 | some n =>
  rw [Option.bind_some]
  cases h2:Jcx ((Jad 32 t).drop 2) with
  | none=>rfl
  | some fs =>
   have h3:=Jn0 h2
   rw [List.length_drop] at h3
   rw [Option.bind_some]
   exact J0k (hn.imp id fun hne=>by rw [h3]; exact hne)
theorem Jxq {t:ByteArray} (h:2≤(Jad 32 t).length) {i:Int} (h0:0≤i) (h1:i+2 < (Jad 32 t).length) (hn:numE (nth (Jad 32 t) (i+2))=none):logE t=none:=by
 unfold logE
 rw [Jl2 h,Jkf (ws:=(Jad 32 t).drop 2) (Jaj (i:=i) h0 (by rw [List.length_drop]; omega)) (by rw [Jos _ h0]; exact hn)]
 cases numE (nth (Jad 32 t) 0) <;> rfl
theorem J0w {t:ByteArray} (h:2≤(Jad 32 t).length) {n:Int} {vs:List Int} (h1:numE (nth (Jad 32 t) 0)=some n) (h2:Jcx ((Jad 32 t).drop 2)=some vs) (hk:inK (Jfx (nth (Jad 32 t) 1))=true) (hl:vs.length=(offE (Jfx (nth (Jad 32 t) 1))).length) :
  logE t=some (stoE n (Jfx (nth (Jad 32 t) 1)) vs):=by
 unfold logE
 rw [Jl2 h,h1,Option.bind_some,h2,Option.bind_some,Jzf hk hl]
theorem Juj {L:List ByteArray} {i:Int} {vs:List Int} {v:Int} (h0:0≤i) (h1:i+2 < L.length) (h:Jcx ((L.drop 2).take i.toNat)=some vs) (hv:numE (nth L (i+2))=some v):Jcx ((L.drop 2).take (i+1).toNat)=some (vs++[v]):=by
 rw [Ja2 (L.drop 2) h0 (by rw [List.length_drop]; omega),Jos L h0]
 exact Jnr h hv
theorem Jg3 {c:UInt8}:∀ {l x:List UInt8},x∈Jau c l→c ∉ x
 | [],x,h=>by
  rw [Jau,List.mem_singleton] at h
  subst h
  simp
 | b::l,x,h=>by
  have ih:=fun y hy=>Jg3 (c:=c) (l:=l) (x:=y) hy
  rw [Jau] at h
  split at h
  ·
   rcases List.mem_cons.1 h with rfl | h
   ·
    simp
   exact ih x h
  rename_i hb
  cases hs:Jau c l with
  | nil=>have:=Jd4 c l; rw [hs] at this; simp at this
  | cons y ys =>
   rw [hs] at h ih
   rcases List.mem_cons.1 h with rfl | h
   ·
    intro hm
    rcases List.mem_cons.1 hm with e | hm
    ·
     exact hb e.symm
    exact ih y (by simp) hm
   exact ih x (by simp [h])
theorem Jmr {c:UInt8} {t x:ByteArray} (h:x∈Jad c t):c ∉ bl x:=by
 obtain ⟨y,hy,rfl⟩:=List.mem_map.1 h
 have:=Jg3 hy
 simpa using this
theorem Jn6 {L:List ByteArray} {acc:List Entr} {i:Int} (h0:0≤i) (h1:i+1 < L.length) :
  parE acc i (L.drop i.toNat)=match logE (nth L i) with
   | some x=>parE (acc++[x]) (i+1) (L.drop (i+1).toNat)
   | none=>([],i+1,4):=by
 have e1:=Jgr (l:=L) h0 (by omega)
 have e2:=Jgr (l:=L) (i:=i+1) (by omega) (by omega)
 have d1:L.drop i.toNat=nth L i::L.drop (i+1).toNat:=by
  obtain ⟨q1,q2⟩:=List.getElem?_eq_some_iff.1 e1
  rw [List.drop_eq_getElem_cons q1,q2,show (i+1).toNat=i.toNat+1 by omega]
 have d2:L.drop (i+1).toNat=nth L (i+1)::L.drop ((i+1).toNat+1):=by
  obtain ⟨q1,q2⟩:=List.getElem?_eq_some_iff.1 e2
  rw [List.drop_eq_getElem_cons q1,q2]
 rw [d1,d2]
 rfl
theorem Jm1 {L:List ByteArray} {acc:List Entr} {i:Int} (h0:0≤i) (h1:i+1=L.length) :
  parE acc i (L.drop i.toNat)=if seq (nth L i) ⟨#[]⟩=true then (if 500 < (acc.length:Int) then ([],0,2) else (acc,0,0)) else ([],i+1,4):=by
 have e1:=Jgr (l:=L) h0 (by omega)
 have d1:L.drop i.toNat=[nth L i]:=by
  obtain ⟨q1,q2⟩:=List.getElem?_eq_some_iff.1 e1
  rw [List.drop_eq_getElem_cons q1,q2,List.drop_eq_nil_of_le (by omega)]
 rw [d1]
 rfl
def Jkk (t:ByteArray):ByteArray:=nth (Jad 10 t) ((Jad 10 t).length - 1)
def linS (t:ByteArray):List ByteArray:=if seq (Jkk t) ⟨#[]⟩=true then (aftS 10 t).dropLast else aftS 10 t
theorem Juo (t:ByteArray):((linS t).length:Int)=if seq (Jkk t) ⟨#[]⟩=true then ((Jad 10 t).length:Int) - 1 else (Jad 10 t).length:=by
 have h:=Jiz 10 t
 have hp:=Jif 10 t
 unfold linS
 split
 ·
  rw [List.length_dropLast,h]; omega
 rw [h]
theorem J0r {t:ByteArray} {i:Int} (h0:0≤i) (h1:i < (linS t).length):nth (linS t) i=nth (aftS 10 t) i:=by
 unfold linS at h1 ⊢
 split
 ·
  rename_i hq
  rw [if_pos hq,List.length_dropLast] at h1
  have e:=Jgr (l:=aftS 10 t) h0 (by omega)
  refine Jqm ?_
  rw [List.dropLast_eq_take,List.getElem?_take,if_pos (by omega)]
  exact e
 rfl
end Go.Proofs.YtfbfdnoodccgiaaGreatDoor
namespace Go.Proofs.YtfbfdnoodccgiaaGreatDoor
set_option linter.unusedVariables false
set_option linter.unusedSimpArgs false
open Go Go.RowKit Go.Proofs MapKept
structure MapW (w:World) (m:Nat) (es:List MapEntry) (c:Nat):Prop where
 at_:w.heap[m]? = some (.map es.toArray c)
 born:∀ e∈es,e.born < c
 nodup:(es.map (·.born)).Nodup
theorem MapW.lt {w:World} {m:Nat} {es:List MapEntry} {c:Nat} (h:MapW w m es c):m < w.heap.size:=(Array.getElem?_eq_some_iff.1 h.at_).1
theorem MapW.ext {w u:World} {m:Nat} {es:List MapEntry} {c:Nat} (h:MapW w m es c) (hb:Below w.heap.size w u):MapW u m es c:=⟨(hb.block m h.lt).trans h.at_,h.born,h.nodup⟩
def J58 (seen:List Nat):Option MapEntry→List Nat
 | some e=>seen++[e.born]
 | none=>seen
def Jrl (es:List MapEntry) (seen:List Nat):Option MapEntry→Prop
 | some e=>e∈es∧e.born ∉ seen
 | none=>∀ e∈es,e.born∈seen
def Jix:Option MapEntry→Value
 | some e=>.tuple #[.bool true,e.key,e.val]
 | none=>.tuple #[.bool false]
def Jjl (es:List MapEntry) (seen:List Nat):Nat:=(es.filter fun e => !seen.contains e.born).length
theorem Jg4 {es:List MapEntry} {seen:List Nat} {e:MapEntry} (h:e∈es∧e.born ∉ seen):Jjl es (seen++[e.born]) < Jjl es seen:=by
 unfold Jjl
 have hsub:(es.filter fun x => !(seen++[e.born]).contains x.born)=(es.filter fun x => !seen.contains x.born).filter fun x => !(x.born == e.born):=by
  rw [List.filter_filter]
  refine List.filter_congr fun x _=>?_
  by_cases h1:x.born∈seen <;> by_cases h2:x.born=e.born <;> simp [h1,h2]
 rw [hsub]
 refine List.length_filter_lt_length_iff_exists.2 ⟨e,List.mem_filter.2 ⟨h.1,by simpa using h.2⟩,by simp⟩
def itP (r m c:Nat) (seen:List Nat):SA where
 h S u:=(∀ k,S k ↔ k=r)∧u.heap[r]? = some (.mapIter (some m) c seen.toArray c)
 loc S u u' h hk:=⟨h.1,hk r ((h.1 r).2 rfl) _ h.2⟩
 dom S u k h hS:=by
  rw [(h.1 k).1 hS]
  exact (Array.getElem?_eq_some_iff.1 h.2).1
section
variable {P:Program} {ro:Option Nat} {n0:Nat} {w0:World} {ds:List Deferred} {ops:Array Oper} {Q:Exit→Act→World→Prop} {L L':List SA} {rest:List Oper} {l:List Value} {ty:TypeId} {ps:String} {af:Array Edge}
variable {T K E:TypeId} {x y:Operand} {d:Option Tmp} {g:Option (Nat × Bool)}
theorem St.itP {u:World} {r m c j:Nat} {seen:List Nat} (h:St n0 w0 L u) (hj:L[j]? = some (Go.Proofs.YtfbfdnoodccgiaaGreatDoor.itP r m c seen)):n0≤r∧u.heap[r]? = some (.mapIter (some m) c seen.toArray c):=by
 obtain ⟨S,h1,h2,h3⟩:=h.get hj
 exact ⟨h1 r ((h2 r).2 rfl),h3⟩
theorem WS.range {i m c:Nat} {es:List MapEntry} {l':Nat→List Value} (hT:P.underlying T=some (.map K E)) (hx:evo l x=some (.map (some m))) (hm:MapW w0 m es c) (hn:n0=w0.heap.size)
  (hl:∀ r,lset l i (.pointer (some ⟨r,0,none⟩))=some (l' r)) (kk:∀ r,n0≤r→WS P ro n0 w0 ds ops Q (Go.Proofs.YtfbfdnoodccgiaaGreatDoor.itP r m c []::L) rest (l' r)) :
  WS P ro n0 w0 ds ops Q L (⟨some i,.range T x,ty,ps,af,none⟩::rest) l:=by
 subst hn
 (replace hx:=Jaf hx)
 refine WS.world rfl rfl fun u hu=>?_
 have hmu:=hm.ext hu.below
 refine ⟨.pointer (some ⟨u.heap.size,0,none⟩),u.alloc (.mapIter (some m) c #[] c),?_,?_⟩
 ·
  simp [execOp,Instr.range,hx,run_underlying hT,MapKept.run_getObj_map hmu.at_,Result.andThen]
 rw [Jan,Jae (hl _)]
 exact kk _ hu.size _ (hu.cons (T:=fun k=>k=u.heap.size) ((Below.refl _ u).alloc (Nat.le_refl _) _) ⟨fun k=>Iff.rfl,World.alloc_heap_new u _⟩ (fun k hk=>by omega))
theorem Jef {u:World} {r m c:Nat} {seen:List Nat} (hr:u.heap[r]? = some (.mapIter (some m) c seen.toArray c)):(getObj r).run P u = .ok (.mapIter (some m) c seen.toArray c) u:=by
 simp [getObj,Sem.run,hr]
theorem Ju4 {n:Nat} (h:0 < n) (u:World):∃ k d,k < n ∧
  (if (Question.mapNext n).forced=true then Result.ok 0 u else Result.ok ((Question.mapNext n).cut (u.tape u.drawn (.mapNext n))) u.drew)=(Result.ok k { u with drawn:=d }:Result Nat):=by
 by_cases hf:(Question.mapNext n).forced=true
 ·
  exact ⟨0,u.drawn,h,by rw [if_pos hf]⟩
 exact ⟨u.tape u.drawn (.mapNext n) % n,u.drawn+1,Nat.mod_lt _ h,by rw [if_neg hf]; rfl⟩
theorem Jvg {u:World} {r m c:Nat} {es:List MapEntry} {seen:List Nat} (hm:MapW u m es c) (hr:u.heap[r]? = some (.mapIter (some m) c seen.toArray c)) (ty:TypeId) :
  (∃ d,Jrl es seen none∧(Instr.next (.pointer (some ⟨r,0,none⟩)) false ty).run P u = .ok (Jix none) { u with drawn:=d }) ∨
  ∃ e d,Jrl es seen (some e)∧(Instr.next (.pointer (some ⟨r,0,none⟩)) false ty).run P u = .ok (Jix (some e)) { u with drawn:=d,heap:=u.heap.setIfInBounds r (.mapIter (some m) c (seen++[e.born]).toArray c) }:=by
 have h4:¬ ((¬ seen=[]∧¬ es=[])∧∀ (i:Nat) (x:i < es.length),c≤(es[i]).born):=fun ⟨⟨_,h2⟩,h3⟩=>by
  have hp:0 < es.length:=List.length_pos_iff.2 h2
  have:=hm.born _ (List.getElem_mem hp)
  have:=h3 0 hp
  omega
 have f1:es.filter (fun a=>decide (a.born < c) && !decide (a.born∈seen))=es.filter fun a => !decide (a.born∈seen):=List.filter_congr fun a ha=>by simp [hm.born a ha]
 have f2:es.filter (fun a=>decide (c≤a.born) && !decide (a.born∈seen))=[]:=List.filter_eq_nil_iff.2 fun a ha=>by have:=hm.born a ha; simp; omega
 by_cases hl:∀ a,a∈es→a.born < c→a.born∈seen
 ·
  have hx:es.filter (fun a => !decide (a.born∈seen))=[]:=List.filter_eq_nil_iff.2 fun a ha=>by simpa using hl a ha (hm.born a ha)
  refine .inl ⟨u.drawn,fun e he=>hl e he (hm.born e he),?_⟩
  simp [Instr.next,Jef hr,MapKept.run_getObj_map hm.at_,Result.andThen,h4,f1,f2,hx,if_pos hl,Question.forced,Jix]
 have hx:0 < (es.filter fun a => !decide (a.born∈seen)).length:=List.length_pos_iff.2 fun h=>hl fun a ha _=>by simpa using List.filter_eq_nil_iff.1 h a ha
 obtain ⟨k,d,hk,hr2⟩:=Ju4 hx u
 obtain ⟨e,he⟩:∃ e,(es.filter fun a => !decide (a.born∈seen))[k]? = some e:=⟨_,List.getElem?_eq_getElem hk⟩
 have hmem:=List.mem_filter.1 (List.mem_of_getElem? he)
 refine .inr ⟨e,d,⟨hmem.1,by simpa using hmem.2⟩,?_⟩
 simp [Instr.next,Jef hr,MapKept.run_getObj_map hm.at_,Result.andThen,h4,f1,f2,if_neg hl,hr2,he,Jix,setObj,Sem.run,hr]
theorem St.drawn {u:World} (h:St n0 w0 L u) (n:Nat):St n0 w0 L { u with drawn:=n } :=
 ⟨h.le,⟨h.below.os,h.below.tape,h.below.output,h.below.size,h.below.block⟩,h.star.keep (fun _ _ _ h=>h) fun _ h _=>h⟩
theorem St.itSet {u:World} {r m c j n:Nat} {seen seen':List Nat} (h:St n0 w0 L u) (hj:L[j]? = some (Go.Proofs.YtfbfdnoodccgiaaGreatDoor.itP r m c seen)) :
  St n0 w0 (L.set j (Go.Proofs.YtfbfdnoodccgiaaGreatDoor.itP r m c seen')) { u with drawn:=n,heap:=u.heap.setIfInBounds r (.mapIter (some m) c seen'.toArray c) }:=by
 obtain ⟨T,hT,⟨hS,hb⟩,hc⟩:=h.upd hj
 have hlt:r < u.heap.size:=(Array.getElem?_eq_some_iff.1 hb).1
 refine hc _ _ (fun k=>k=r) ⟨rfl,rfl,rfl,by simp,fun k hk=>?_⟩ (fun k hk o' hcell=>?_) ⟨fun k=>Iff.rfl,by simp [hlt]⟩ (fun k hk=>by subst hk; exact ⟨hT _ ((hS _).2 rfl),.inl ((hS _).2 rfl)⟩)
 ·
  have:=hT r ((hS r).2 rfl)
  simp only [Array.getElem?_setIfInBounds]
  rw [if_neg (by omega)]
 simp only [Array.getElem?_setIfInBounds]
 rw [if_neg (fun e=>hk.2.2 ((hS k).2 e.symm))]
 exact hcell
theorem WS.next {i r m c j:Nat} {es:List MapEntry} {seen:List Nat} {l':Option MapEntry→List Value} {L':Option MapEntry→List SA} (hx:evo l x=some (.pointer (some ⟨r,0,none⟩))) (hj:L[j]? = some (Go.Proofs.YtfbfdnoodccgiaaGreatDoor.itP r m c seen)) (hm:MapW w0 m es c) (hn:n0=w0.heap.size)
  (hl:∀ o,lset l i (Jix o)=some (l' o)) (hL:∀ o,lset L j (Go.Proofs.YtfbfdnoodccgiaaGreatDoor.itP r m c (J58 seen o))=some (L' o)) (kk:∀ o,Jrl es seen o→WS P ro n0 w0 ds ops Q (L' o) rest (l' o)) :
  WS P ro n0 w0 ds ops Q L (⟨some i,.next x false,ty,ps,af,none⟩::rest) l:=by
 subst hn
 (replace hx:=Jaf hx)
 refine WS.world rfl rfl fun u hu=>?_
 have hmu:=hm.ext hu.below
 rcases Jvg (P:=P) hmu (hu.itP hj).2 ty with ⟨d,ho,hrun⟩ | ⟨e,d,ho,hrun⟩
 ·
  refine ⟨Jix none,{ u with drawn:=d },by simp only [execOp,hx]; simp [hrun,Result.andThen],?_⟩
  rw [Jan,Jae (hl _)]
  have h2:=kk none ho
  have hLn:L' none=L:=by
   have:=Jae (hL none)
   rw [← this]
   obtain ⟨h8,h9⟩:=List.getElem?_eq_some_iff.1 hj
   show L.set j (Go.Proofs.YtfbfdnoodccgiaaGreatDoor.itP r m c seen)=L
   rw [← h9]
   exact List.set_getElem_self h8
  rw [hLn] at h2
  exact h2 _ (hu.drawn d)
 refine ⟨Jix (some e),{ u with drawn:=d,heap:=u.heap.setIfInBounds r (.mapIter (some m) c (seen++[e.born]).toArray c) },by simp only [execOp,hx]; simp [hrun,Result.andThen],?_⟩
 rw [Jan,Jae (hl _)]
 have h2:=kk (some e) ho
 rw [← Jae (hL (some e))] at h2
 exact h2 _ (hu.itSet hj)
theorem Jpq {o:Option MapEntry} (hx:evo l x=some (Jix o)):Det P (St n0 w0 L) ⟨d,.extract x 0,ty,ps,af,g⟩ l (.bool o.isSome):=fun u _=>by
 (replace hx:=Jaf hx)
 cases o <;> simp [execOp,Jag,hx,Jix,Instr.extract]
theorem Jsb {r m c j:Nat} {es:List MapEntry} {seen:List Nat} {e:MapEntry} (hx:evo l x=some (.pointer (some ⟨r,0,none⟩))) (hj:L[j]? = some (Go.Proofs.YtfbfdnoodccgiaaGreatDoor.itP r m c (seen++[e.born]))) (hm:MapW w0 m es c) (he:e∈es) :
  Det P (St w0.heap.size w0 L) ⟨d,.entry x,ty,ps,af,g⟩ l (.tuple #[e.key,e.val]):=fun u hu=>by
 (replace hx:=Jaf hx)
 have hmu:=hm.ext hu.below
 have hf:es.find? (fun x=>x.born == e.born)=some e:=by
  obtain ⟨q,hq⟩:∃ q,es.find? (fun x=>x.born == e.born)=some q:=by
   cases h9:es.find? (fun x=>x.born == e.born) with
   | none=>have:=List.find?_eq_none.1 h9 e he; simp at this
   | some q=>exact ⟨q,rfl⟩
  have h1:q.born=e.born:=by simpa using List.find?_some hq
  have h2:=List.mem_of_find?_eq_some hq
  have hnd:=hm.nodup
  obtain ⟨a,ha,ea⟩:=List.getElem_of_mem h2
  obtain ⟨b,hb,eb⟩:=List.getElem_of_mem he
  have:=(List.getElem_inj (i:=a) (j:=b) (xs:=es.map fun z:MapEntry=>z.born) (h₀:=by simpa using ha) (h₁:=by simpa using hb) hnd).1 (by simp [ea,eb,h1])
  subst this
  rw [hq, ← ea,eb]
 simp [execOp,Jag,hx,Instr.entry,Jef (hu.itP hj).2,MapKept.run_getObj_map hmu.at_,Result.andThen,hf]
theorem Jpn {r m c j:Nat} {es:List MapEntry} {seen:List Nat} {e:MapEntry} {k v:Value} (hx:evo l x=some (.pointer (some ⟨r,0,none⟩))) (hj:L[j]? = some (Go.Proofs.YtfbfdnoodccgiaaGreatDoor.itP r m c (seen++[e.born]))) (hm:MapW w0 m es c) (he:e∈es) (hk:e.key=k) (hv:e.val=v) :
  Det P (St w0.heap.size w0 L) ⟨d,.entry x,ty,ps,af,g⟩ l (.tuple #[k,v]):=by
 subst hk; subst hv
 exact Jsb hx hj hm he
theorem Jvn {w:World} {m c:Nat} {es:List MapEntry} (hm:MapW w m es c) {e q:MapEntry} (he:e∈es) (hq:q∈es) (h:q.born=e.born):q=e:=by
 have hnd:=hm.nodup
 obtain ⟨a,ha,ea⟩:=List.getElem_of_mem hq
 obtain ⟨b,hb,eb⟩:=List.getElem_of_mem he
 have:=(List.getElem_inj (i:=a) (j:=b) (xs:=es.map fun z:MapEntry=>z.born) (h₀:=by simpa using ha) (h₁:=by simpa using hb) hnd).1 (by simp [ea,eb,h])
 subst this
 rw [← ea,eb]
theorem Jhv {m c:Nat} {es:List MapEntry} {k:Int} {v:Value} {ok:Bool} (hT:P.underlying T=some (.map K E)) (hK:P.underlying K=some (.int .i64)) (hx:evo l x=some (.map (some m))) (hy:evo l y=some (.int .i64 k)) (hm:MapW w0 m es c)
  (hk:∀ e∈es,∃ q,e.key = .int .i64 q) (h:(ok=true∧(∃ e∈es,e.key = .int .i64 k)∧∀ e∈es,e.key = .int .i64 k→e.val=v)∨(ok=false∧(∀ e∈es,e.key ≠ .int .i64 k)∧zo P E=some v)) :
  Det P (St w0.heap.size w0 L) ⟨d,.lookup T x y true,ty,ps,af,g⟩ l (.tuple #[v,.bool ok]):=fun u hu=>by
 (replace hx:=Jaf hx; replace hy:=Jaf hy)
 have hmu:=hm.ext hu.below
 have hkey:IsKey (.int .i64) (.int .i64 k):=rfl
 have hks:∀ x∈es,IsKey (.int .i64) x.key:=fun x hx=>by
  obtain ⟨q,e⟩:=hk x hx
  rw [e]; rfl
 rcases findNow_spec hkey es 0 hks with ⟨h1,h2⟩ | ⟨q,e,h1,h2,h3⟩
 ·
  rcases h with ⟨_,⟨e,he,ek⟩,_⟩ | ⟨rfl,_,hz⟩
  ·
   exact absurd ek (h2 e he)
  unfold zo at hz
  cases hi:P.info? E with
  | none=>simp [hi] at hz
  | some inf =>
   have hz2:inf.zero=some v:=by simpa [hi] using hz
   simp [execOp,Jag,hx,hy,Instr.lookup,run_underlying hT,MapKept.run_getObj_map hmu.at_,run_checkKey hK hkey,run_findKey hK h1,Result.andThen,zeroValue,typeInfo,hi,hz2]
 have hmem:=List.mem_of_getElem? h2
 rcases h with ⟨rfl,_,hv⟩ | ⟨_,hno,_⟩
 ·
  have hv:=hv e hmem h3
  simp [execOp,Jag,hx,hy,Instr.lookup,run_underlying hT,MapKept.run_getObj_map hmu.at_,run_checkKey hK hkey,run_findKey hK h1,Result.andThen,hv]
 exact absurd h3 (hno e hmem)
end
end Go.Proofs.YtfbfdnoodccgiaaGreatDoor
namespace Go.Proofs.YtfbfdnoodccgiaaGreatDoor
set_option linter.unusedVariables false
set_option linter.unusedSimpArgs false
open Go.RowKit Go.Proofs
def ptrL (b:Nat) (os:List Nat):List Value:=os.map fun o=>.pointer (some ⟨b,o,none⟩)
def Jmz (e:TypeId) (w:World) (b:Nat) (os:List Nat):Ending→World→Prop:=fun en w'=>∃ v:Value,v.oneCell'=true∧RetF w v (osl e 1 v os.length (ptrL b os)) en w'
theorem Juc {e:TypeId} {w0 u:World} {L:List SA} {b j:Nat} {os os':List Nat} {v:Value} (h:os=os') (hv:v.oneCell'=true) (hj:L[j]? = some (osl e 1 v os'.length (ptrL b os'))) (hu:St w0.heap.size w0 L u):Jmz e w0 b os (.returned v) u:=by
 subst h
 exact ⟨v,hv,retF hj u hu⟩
theorem Jyb {b:Nat} {os:List Nat} {i:Nat} {o:Nat} (h:os[i]? = some o):(ptrL b os)[i]? = some (.pointer (some ⟨b,o,none⟩)):=by simp [ptrL,h]
theorem Jiv (b:Nat) (os:List Nat):∀ v∈ptrL b os,v.oneCell'=true:=by
 intro v hv
 obtain ⟨o,_,rfl⟩:=List.mem_map.1 hv
 rfl
end Go.Proofs.YtfbfdnoodccgiaaGreatDoor
