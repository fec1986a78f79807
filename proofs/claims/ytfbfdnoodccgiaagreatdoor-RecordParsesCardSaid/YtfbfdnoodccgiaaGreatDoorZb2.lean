/- Merged texts of this proof (walks and plain laws), printed by a program of the prover. -/
import Derived.Test.YtfbfdnoodccgiaaGreatDoorZb
import Derived.Lib.AppendZerosOnto
namespace Go.Proofs.YtfbfdnoodccgiaaGreatDoor
set_option linter.unusedVariables false
set_option linter.unusedSimpArgs false
open Go.RowKit
section
variable {α:Type} (key:α→Int)
def Eqv (l l':List α):Prop:=∀ v:Int,l'.filter (fun x=>decide (key x=v))=l.filter (fun x=>decide (key x=v))
def Srt (l:List α):Prop:=l.Pairwise fun x y=>key x≤key y
variable {key}
theorem Eqv.refl (l:List α):Eqv key l l:=fun _=>rfl
theorem Eqv.trans {a b c:List α} (h:Eqv key a b) (h2:Eqv key b c):Eqv key a c:=fun v=>(h2 v).trans (h v)
theorem Eqv.symm {a b:List α} (h:Eqv key a b):Eqv key b a:=fun v=>(h v).symm
theorem Eqv.app {a b c d:List α} (h:Eqv key a b) (h2:Eqv key c d):Eqv key (a++c) (b++d):=fun v=>by rw [List.filter_append,List.filter_append,h v,h2 v]
theorem Eqv.mem {a b:List α} (h:Eqv key a b) {x:α}:x∈b ↔ x∈a:=by
 have h1:x∈b.filter (fun y=>decide (key y=key x)) ↔ x∈b:=by simp
 have h2:x∈a.filter (fun y=>decide (key y=key x)) ↔ x∈a:=by simp
 rw [← h1, ← h2,h (key x)]
theorem Eqv.swap {a b:List α} (h:∀ x∈a,∀ y∈b,key x≠key y):Eqv key (a++b) (b++a):=fun v=>by
 rw [List.filter_append,List.filter_append]
 by_cases ha:a.filter (fun x=>decide (key x=v))=[]
 ·
  rw [ha,List.append_nil,List.nil_append]
 have hb:b.filter (fun x=>decide (key x=v))=[]:=by
  rw [List.filter_eq_nil_iff]
  intro y hy hv
  obtain ⟨x,hx⟩:=List.exists_mem_of_ne_nil _ ha
  rw [List.mem_filter] at hx
  simp only [decide_eq_true_eq] at hx hv
  exact h x hx.1 y hy (hx.2.trans hv.symm)
 rw [hb,List.append_nil,List.nil_append]
theorem Eqv.len:∀ {a b:List α},Eqv key a b→b.length=a.length
 | [],b,h=>by
  cases b with
  | nil=>rfl
  | cons y b=>exact absurd (h.mem.1 (List.mem_cons_self (a:=y) (l:=b))) List.not_mem_nil
 | x::a,b,h=>by
  have hx:x∈b:=h.mem.2 List.mem_cons_self
  obtain ⟨b1,b2,hb,hn⟩:∃ b1 b2,b=b1++x::b2∧∀ y∈b1,key y≠key x:=by
   have h1:=h (key x)
   rw [List.filter_cons,if_pos (by simp)] at h1
   have h2:=List.filter_eq_cons_iff.1 h1
   obtain ⟨b1,b2,e,q1,_,_⟩:=h2
   exact ⟨b1,b2,e,fun y hy hk=>by have:=q1 y hy; simp [hk] at this⟩
  subst hb
  have h3:Eqv key (x::a) (x::(b1++b2)):=h.trans (by
   have q:Eqv key (b1++[x]) ([x]++b1):=Eqv.swap fun y hy z hz=>by rw [List.mem_singleton.1 hz]; exact hn y hy
   have:=q.app (Eqv.refl b2)
   simpa using this)
  have h4:Eqv key a (b1++b2):=fun v=>by
   have:=h3 v
   rw [List.filter_cons,List.filter_cons] at this
   by_cases hv:decide (key x=v)=true
   ·
    rw [if_pos hv,if_pos hv] at this; exact (List.cons.inj this).2
   rw [if_neg hv,if_neg hv] at this; exact this
  have:=Eqv.len h4
  simp only [List.length_append,List.length_cons] at this ⊢
  omega
theorem Srt.app {a b:List α} (h:Srt key a) (h2:Srt key b) (h3:∀ x∈a,∀ y∈b,key x≤key y):Srt key (a++b):=List.pairwise_append.2 ⟨h,h2,h3⟩
theorem Srt.left {a b:List α} (h:Srt key (a++b)):Srt key a:=(List.pairwise_append.1 h).1
theorem Srt.right {a b:List α} (h:Srt key (a++b)):Srt key b:=(List.pairwise_append.1 h).2.1
theorem Srt.nil:Srt key []:=List.Pairwise.nil
theorem Srt.one (x:α):Srt key [x]:=List.pairwise_singleton _ _
theorem Srt.small {a:List α} (h:a.length≤1):Srt key a:=by
 match a,h with
 | [],_=>exact Srt.nil
 | [x],_=>exact Srt.one x
end
section
variable {α:Type} [Inhabited α]
theorem Jpr {a b:List α} {i:Int} (h:i < a.length) (h0:0≤i):nth (a++b) i=nth a i:=by
 have:i.toNat < a.length:=by omega
 simp [nth,List.getD,List.getElem?_append_left this]
theorem Jr6 {a b:List α} {i:Int} (h:(a.length:Int)≤i):nth (a++b) i=nth b (i - a.length):=by
 have:a.length≤i.toNat:=by omega
 have e:i.toNat - a.length=(i - a.length).toNat:=by omega
 unfold nth
 rw [List.getD_eq_getElem?_getD,List.getD_eq_getElem?_getD,List.getElem?_append_right this,e]
theorem Jxp {l:List α} {i:Int} {n:Nat} (h:i < n) (h0:0≤i):nth (l.take n) i=nth l i:=by
 have:i.toNat < n:=by omega
 simp [nth,List.getD,List.getElem?_take,this]
variable {key:α→Int}
end
section
variable {α:Type} (key:α→Int)
variable {key}
theorem Eqv.cons {x:α} {a b:List α} (h:Eqv key a b):Eqv key (x::a) (x::b):=(Eqv.refl [x]).app h
theorem Eqv.parts (p:α→Bool) (hp:∀ x y,key x=key y→p x=p y):∀ (l:List α),Eqv key (l.filter p++l.filter fun x => !p x) l
 | l=>fun v=>by
  rw [List.filter_append,List.filter_filter,List.filter_filter]
  by_cases h:∃ x∈l,key x=v∧p x=true
  ·
   obtain ⟨x,hx,hv,hpx⟩:=h
   have e1:(l.filter fun y=>decide (key y=v) && p y)=l.filter fun y=>decide (key y=v):=List.filter_congr fun y hy=>by
    by_cases hk:key y=v
    ·
     rw [hp y x (hk.trans hv.symm),hpx]; simp
    simp [hk]
   have e2:(l.filter fun y=>decide (key y=v) && !p y)=[]:=by
    rw [List.filter_eq_nil_iff]
    intro y hy hc
    simp at hc
    rw [hp y x (hc.1.trans hv.symm),hpx] at hc
    exact absurd hc.2 (by decide)
   rw [e1,e2,List.append_nil]
  have e1:(l.filter fun y=>decide (key y=v) && p y)=[]:=by
   rw [List.filter_eq_nil_iff]
   intro y hy hc
   simp at hc
   exact h ⟨y,hy,hc.1,hc.2⟩
  have e2:(l.filter fun y=>decide (key y=v) && !p y)=l.filter fun y=>decide (key y=v):=List.filter_congr fun y hy=>by
   by_cases hk:key y=v
   ·
    cases hq:p y
    ·
     simp
    exact absurd ⟨y,hy,hk,hq⟩ h
   simp [hk]
  rw [e1,e2,List.nil_append]
end
section
variable {α:Type} {key:α→Int}
inductive Blk (key:α→Int) (k:Nat):List α→Prop
 | last {l:List α}:l.length≤k→Srt key l→Blk key k l
 | cons {b l:List α}:b.length=k→Srt key b→Blk key k l→Blk key k (b++l)
inductive Full (key:α→Int) (k:Nat):List α→Prop
 | nil:Full key k []
 | snoc {D b:List α}:Full key k D→b.length=k→Srt key b→Full key k (D++b)
theorem Full.blk {k:Nat} {D l:List α} (h:Full key k D) (hl:Blk key k l):Blk key k (D++l):=by
 induction h generalizing l with
 | nil=>exact hl
 | snoc _ hb hs ih=>rw [List.append_assoc]; exact ih (.cons hb hs hl)
theorem Blk.split {k:Nat} {l:List α} (h:Blk key k l) (hl:k < l.length):∃ b r,l=b++r∧b.length=k∧Srt key b∧Blk key k r:=by
 cases h with
 | last h _=>omega
 | cons hb hs h=>exact ⟨_,_,rfl,hb,hs,h⟩
end
section
variable {α:Type}
def lk (A:List α) (x:α) (Y B:List α) (k:Int):List α:=A++(Y.take k.toNat++x::(Y.drop k.toNat++B))
end
section
variable {α:Type} [Inhabited α] {d:α→Bool}
theorem Jji {xs:List α} {j:Int} (h0:0≤j) (h1:j < xs.length):(xs.take (j+1).toNat).filter (fun x => !d x)=(xs.take j.toNat).filter (fun x => !d x)++(if d (nth xs j)=true then [] else [nth xs j]):=by
 rw [Jdt h0 h1,List.filter_append]
 congr 1
 cases hd:d (nth xs j) <;> simp [hd]
theorem Jrj {xs:List α} (h:∀ j:Int,0≤j→j < xs.length→d (nth xs j)=false):xs.filter (fun x => !d x)=xs:=by
 rw [List.filter_eq_self]
 intro a ha
 obtain ⟨i,h0,h1,rfl⟩:=Jbw ha
 rw [h i h0 h1]; rfl
theorem Jo5 {xs:List α} {i:Int} (h0:0≤i) (h1:i < xs.length) (h:∀ j:Int,0≤j→j < i→d (nth xs j)=false) (hd:d (nth xs i)=true):(xs.take (i+1).toNat).filter (fun x => !d x)=xs.take i.toNat:=by
 rw [Jji h0 h1,if_pos hd,List.append_nil]
 refine Jrj fun j j0 j1=>?_
 rw [List.length_take] at j1
 rw [Jxp (by omega) j0]
 exact h j j0 (by omega)
end
end Go.Proofs.YtfbfdnoodccgiaaGreatDoor
namespace Go.Proofs.YtfbfdnoodccgiaaGreatDoor
set_option linter.unusedVariables false
set_option linter.unusedSimpArgs false
open Go.RowKit Go.Proofs
structure DelI {α:Type} (d:α→Bool) (xs ys:List α) (i j:Int):Prop where
 i0:0≤i
 ij:i < j
 jn:j≤xs.length
 len:ys.length=xs.length
 tk:ys.take i.toNat=(xs.take j.toNat).filter (fun x => !d x)
 dp:ys.drop j.toNat=xs.drop j.toNat
section
variable {α:Type} [Inhabited α] {d:α→Bool} {xs ys:List α} {i j:Int}
theorem DelI.first (h0:0≤i) (h1:i < xs.length) (h:∀ k:Int,0≤k→k < i→d (nth xs k)=false) (hd:d (nth xs i)=true):DelI d xs xs i (i+1) :=
 ⟨h0,by omega,by omega,rfl,(Jo5 h0 h1 h hd).symm,rfl⟩
theorem DelI.at (h:DelI d xs ys i j) (hj:j < xs.length):nth ys j=nth xs j:=by
 have h0:=h.i0; have h1:=h.ij; have h2:=h.len
 have e1:=Jbe (xs:=ys) (s:=j) (by omega) (by omega)
 rw [h.dp,Jbe (by omega) hj] at e1
 exact (List.cons.inj e1).1.symm
theorem DelI.keep (h:DelI d xs ys i j) (hj:j < xs.length) (hd:¬ d (nth ys j)=true):DelI d xs (ys.set i.toNat (nth ys j)) (i+1) (j+1):=by
 have h0:=h.i0; have h1:=h.ij; have h2:=h.len
 refine ⟨by omega,by omega,by omega,by simp [h2],?_,?_⟩
 ·
  rw [Jji (by omega) hj, ← h.at hj,if_neg hd, ← h.tk,show (i+1).toNat=i.toNat+1 by omega]
  rw [List.take_add_one,List.take_set_of_le (Nat.le_refl _),List.getElem?_set_self (by omega)]; rfl
 rw [show (j+1).toNat=j.toNat+1 by omega,List.drop_set_of_lt (by omega)]
 have e1:=Jbe (xs:=ys) (s:=j) (by omega) (by omega)
 rw [h.dp,Jbe (by omega) hj] at e1
 rw [show (j+1).toNat=j.toNat+1 by omega] at e1
 exact (List.cons.inj e1).2.symm
omit [Inhabited α] in
theorem DelI.fin (h:DelI d xs ys i j) (hj:¬ j < xs.length):ys.take i.toNat=xs.filter fun x => !d x:=by
 have h2:=h.jn
 rw [h.tk,List.take_of_length_le (by omega)]
end
end Go.Proofs.YtfbfdnoodccgiaaGreatDoor
namespace Go.Proofs.YtfbfdnoodccgiaaGreatDoor
set_option linter.unusedVariables false
set_option linter.unusedSimpArgs false
open Go.RowKit Go.Proofs Go.MapKept
def MapAt (u:World) (b:Nat) (f:Int→Int):Prop:=∃ es c,u.heap[b]? = some (.map es c)∧MapI es f
theorem MapAt.ext {w u:World} {b:Nat} {f:Int→Int} (h:MapAt w b f) (hb:Below w.heap.size w u):MapAt u b f:=by
 obtain ⟨es,c,h1,h2⟩:=h
 exact ⟨es,c,(hb.block b (Array.getElem?_eq_some_iff.1 h1).1).trans h1,h2⟩
structure Task where
 k:Int
 n:Int
 a:Int
 deriving Inhabited,DecidableEq
abbrev wr (n:Int):Int:=IntKind.i64.wrap n
def canT (r:Room) (f x:P3) (at_:Int) (t:Task):Bool :=
 if t.k=1 then (decide (t.a=0) && (decide (0≤t.n) && decide (t.n≤(r.wys.l.length:Int) - 1))) && (decide ((nth r.wys.l t.n).a=at_) || decide ((nth r.wys.l t.n).b=at_))
 else if t.k=2 then (decide (0≤t.n) && decide (t.n≤(r.ths.l.length:Int) - 1)) && ((decide ((nth r.ths.l t.n).pl=at_) && (decide (0≤t.a) && decide (t.a≤(nth r.ths.l t.n).st - 1))) && !decide (nth x.1 t.n=t.a))
 else if t.k=3 then ((decide (t.a=0) && (decide (0≤t.n) && decide (t.n≤(r.prs.l.length:Int) - 1))) && !decide (nth x.2.1 t.n=nth f.2.1 t.n)) && (decide (nth f.2.1 t.n = -1) || (decide (nth f.2.1 t.n=at_) && (HoldsV r x (nth r.prs.l t.n).wh.l).2))
 else false
def doT (r:Room) (f x:P3) (at_:Int) (t:Task):P3 × Int :=
 if t.k=1 then (x,wr (wr ((nth r.wys.l t.n).a+(nth r.wys.l t.n).b) - at_))
 else if t.k=2 then ((x.1.set t.n.toNat t.a,x.2),at_)
 else if t.k=3 then ((x.1,x.2.1.set t.n.toNat (nth f.2.1 t.n),x.2.2),at_)
 else (x,at_)
def Jr9 (r:Room) (f:P3):P3 × Int→List Task→Option (P3 × Int)
 | s,[]=>some s
 | s,t::l=>if canT r f s.1 s.2 t=true then Jr9 r f (doT r f s.1 s.2 t) l else none
structure Len3 (r:Room) (x:P3):Prop where
 th:x.1.length=r.ths.l.length
 pr:x.2.1.length=r.prs.l.length
 bt:∀ i:Int,0≤i→i < x.1.length → -1000≤nth x.1 i∧nth x.1 i≤1000
 bp:∀ i:Int,0≤i→i < x.2.1.length → -1000≤nth x.2.1 i∧nth x.2.1 i≤1000
abbrev AtB (a:Int):Prop := -9223372036854775808≤a∧a≤9223372036854775807
theorem J3y (n:Int):AtB (wr n):=by
 unfold AtB wr
 rw [IntKind.wrap_i64]
 omega
theorem J0r {r:Room} {x:Thing} (h:thB r x=true):2≤x.st∧x.st≤6:=by
 simp only [thB,Bool.and_eq_true,decide_eq_true_eq] at h
 omega
theorem Jwi {l:List Int} {n:Int} {v:Int} (h:∀ i:Int,0≤i→i < l.length → -1000≤nth l i∧nth l i≤1000) (hv : -1000≤v∧v≤1000):∀ i:Int,0≤i→i < (l.set n.toNat v).length → -1000≤nth (l.set n.toNat v) i∧nth (l.set n.toNat v) i≤1000:=fun i h0 h1=>by
 rw [List.length_set] at h1
 have e:nth (l.set n.toNat v) i=v∨nth (l.set n.toNat v) i=nth l i:=by
  unfold nth
  rw [List.getD_eq_getElem?_getD,List.getD_eq_getElem?_getD,List.getElem?_set]
  split
  ·
   split
   ·
    exact .inl rfl
   exact .inr (by rw [List.getElem?_eq_none (by omega)])
  exact .inr rfl
 rcases e with e | e
 ·
  rw [e]; exact hv
 rw [e]; exact h i h0 h1
theorem Len3.doT {r:Room} {f x:P3} {a:Int} {t:Task} (h:Len3 r x) (hf:Len3 r f) (hR:Ready r) (hc:canT r f x a t=true):Len3 r (doT r f x a t).1:=by
 obtain ⟨h1,h2,h3,h4⟩:=h
 unfold Go.Proofs.YtfbfdnoodccgiaaGreatDoor.doT
 unfold canT at hc
 by_cases k1:t.k=1
 ·
  rw [if_pos k1]; exact ⟨h1,h2,h3,h4⟩
 by_cases k2:t.k=2
 ·
  rw [if_neg k1,if_pos k2] at hc ⊢
  simp only [Bool.and_eq_true,decide_eq_true_eq] at hc
  have hst:=J0r (hR.ths _ (Jai hc.1.1 (show t.n < (r.ths.l.length:Int) by omega)))
  exact ⟨by rw [List.length_set]; exact h1,h2,Jwi h3 (by omega),h4⟩
 by_cases k3:t.k=3
 ·
  rw [if_neg k1,if_neg k2,if_pos k3] at hc ⊢
  simp only [Bool.and_eq_true,decide_eq_true_eq] at hc
  exact ⟨h1,by rw [List.length_set]; exact h2,h3,Jwi h4 (hf.bp t.n (by omega) (by rw [hf.pr]; omega))⟩
 rw [if_neg k1,if_neg k2,if_neg k3]; exact ⟨h1,h2,h3,h4⟩
theorem Jzn {r:Room} {f x:P3} {a:Int} {t:Task} (h:AtB a):AtB (doT r f x a t).2:=by
 unfold doT
 repeat' split
 ·
  exact J3y _
 all_goals exact h
theorem J1t {r:Room} {f x:P3} {a:Int} {t:Task}:(doT r f x a t).1.2.2=x.2.2:=by
 unfold doT
 repeat' split
 all_goals rfl
structure Stand where
 z:Stt
 at_:Int
 bf:Int
 tk:Task
 deriving Inhabited
def Stand.s (s:Stand):P3 × Int:=(s.z.x,s.at_)
structure Reach (r:Room) (f x0:P3) (ss:List Stand):Prop where
 ne:0 < ss.length
 first:(nth ss 0).s=(x0,0)
 len:∀ i:Int,0≤i→i < ss.length→Len3 r (nth ss i).z.x∧(nth ss i).z.x.2.2=x0.2.2∧AtB (nth ss i).at_
 step:∀ i:Int,1≤i→i < ss.length→(0≤(nth ss i).bf∧(nth ss i).bf < i)∧canT r f (nth ss (nth ss i).bf).z.x (nth ss (nth ss i).bf).at_ (nth ss i).tk=true∧(nth ss i).s=doT r f (nth ss (nth ss i).bf).z.x (nth ss (nth ss i).bf).at_ (nth ss i).tk
theorem Reach.one {r:Room} {f:P3} {s:Stand} (h:Len3 r s.z.x) (h0:s.at_=0):Reach r f s.z.x [s] :=
 ⟨by simp,by unfold Stand.s; rw [show nth [s] 0=s from rfl,h0],fun i i0 i1=>by
  have:i=0:=by simp at i1; omega
  subst this; exact ⟨h,rfl,by rw [show (nth [s] 0).at_=s.at_ from rfl,h0]; decide⟩,fun i i0 i1=>by simp at i1; omega⟩
theorem Jc7 {α:Type} [Inhabited α] {l:List α} {x:α} {i:Int} (h0:0≤i) (h1:i < l.length):nth (l++[x]) i=nth l i:=Jpr h1 h0
theorem Jhq {α:Type} [Inhabited α] {l:List α} {x:α} {i:Int} (h:i=l.length):nth (l++[x]) i=x:=by
 rw [Jr6 (by omega),h,Int.sub_self]; rfl
theorem Reach.snoc {r:Room} {f x0:P3} {ss:List Stand} {y:Stand} (h:Reach r f x0 ss) (hf:Len3 r f) (hR:Ready r) {i:Int} (h0:0≤i) (h1:i < ss.length) (hb:y.bf=i) (hc:canT r f (nth ss i).z.x (nth ss i).at_ y.tk=true) (hs:y.s=doT r f (nth ss i).z.x (nth ss i).at_ y.tk):Reach r f x0 (ss++[y]):=by
 have hz:y.z.x=(doT r f (nth ss i).z.x (nth ss i).at_ y.tk).1:=congrArg Prod.fst hs
 have hz2:y.at_=(doT r f (nth ss i).z.x (nth ss i).at_ y.tk).2:=congrArg Prod.snd hs
 have hl:=h.len i h0 h1
 refine ⟨by simp,by rw [Jc7 (Int.le_refl 0) (by have:=h.ne; omega)]; exact h.first,fun j j0 j1=>?_,fun j j0 j1=>?_⟩
 ·
  by_cases hj:j < ss.length
  ·
   rw [Jc7 j0 hj]; exact h.len j j0 hj
  rw [Jhq (by simp at j1; omega),hz,hz2]
  exact ⟨hl.1.doT hf hR hc,by rw [J1t]; exact hl.2.1,Jzn hl.2.2⟩
 by_cases hj:j < ss.length
 ·
  obtain ⟨a1,a2,a3⟩:=h.step j j0 hj
  rw [Jc7 (by omega) hj,Jc7 a1.1 (by omega)]
  exact ⟨a1,a2,a3⟩
 rw [Jhq (by simp at j1; omega),hb,Jc7 h0 h1]
 exact ⟨⟨h0,by simp at j1; omega⟩,hc,hs⟩
theorem Reach.back {r:Room} {f x0:P3} {ss:List Stand} (h:Reach r f x0 ss) {i:Int} (h0:1≤i) (h1:i < ss.length) {out:List Task} {z:P3 × Int} (hp:Jr9 r f (nth ss i).s out.reverse=some z) :
  Jr9 r f (nth ss (nth ss i).bf).s (out++[(nth ss i).tk]).reverse=some z:=by
 obtain ⟨a1,a2,a3⟩:=h.step i h0 h1
 rw [List.reverse_append]
 show Jr9 r f _ ((nth ss i).tk::out.reverse)=some z
 unfold Jr9
 have e1:canT r f (nth ss (nth ss i).bf).s.1 (nth ss (nth ss i).bf).s.2 (nth ss i).tk=true:=a2
 rw [if_pos e1]
 rw [a3] at hp
 exact hp
structure MapS (es:Array MapEntry):Prop where
 num:∀ e∈es.toList,(∃ s,e.key = .string s)∧∃ v,e.val = .int .i64 v
section
variable {P:Program} {ro:Option Nat} {n0:Nat} {w0:World} {ds:List Deferred} {ops:Array Oper} {Q:Exit→Act→World→Prop} {L L':List SA} {rest:List Oper} {l:List Value} {ty:TypeId} {ps:String} {af:Array Edge}
 {T K E:TypeId} {x y z:Operand} {b j:Nat} {v:Int} {d:Option Tmp} {g:Option (Nat × Bool)} {t:ByteArray}
theorem MapS.keys {es:Array MapEntry} (h:MapS es):∀ x∈es.toList,IsKey .string x.key:=fun x hx=>by
 obtain ⟨⟨s,hs⟩,_⟩:=h.num x hx
 rw [hs]; trivial
theorem MapS.push {es:Array MapEntry} (h:MapS es) (t:ByteArray) (v:Int) (c:Nat):MapS (es.push ⟨.string t,.int .i64 v,c⟩):=⟨fun e he=>by
 rw [Array.toList_push,List.mem_append,List.mem_singleton] at he
 rcases he with he | rfl
 ·
  exact h.num e he
 exact ⟨⟨t,rfl⟩,v,rfl⟩⟩
theorem WS.callE {β:Type} {f:Operand} {args:List Operand} {ts:Array TypeId} {fn:FuncId} {cap:List Value} {vs:List Value} {v:β→Value} {p:β→Prop} {i:Nat} {l':β→List Value}
  (hf:evo l f=some (.func (.func fn) #[] cap.toArray)) (hv:evs l args=some vs) (he:Ent P fn)
  (hc:∀ u,St n0 w0 L u→Calls P fn (vs++cap).toArray u (fun e u'=>∃ x,p x∧RetB u (v x) e u'))
  (hl:∀ x,lset l i (v x)=some (l' x)) (k:∀ x,p x→WS P ro n0 w0 ds ops Q L rest (l' x)) :
  WS P ro n0 w0 ds ops Q L (⟨some i,.call ⟨.value f,args.toArray,ts⟩,ty,ps,af,none⟩::rest) l :=
 WS.callS (L':=fun _=>L) hf hv he (fun u hu=>(hc u hu).mono fun e u' ⟨x,h1,h2,h3⟩=>⟨x,h1,h2,hu.ext h3⟩) hl k
variable {α:Type} [Inhabited α] {C:Cel α}
end
end Go.Proofs.YtfbfdnoodccgiaaGreatDoor
namespace Go.Proofs.YtfbfdnoodccgiaaGreatDoor
set_option linter.unusedVariables false
set_option linter.unusedSimpArgs false
open Go.RowKit Go.Proofs
def sepd (c:UInt8):List (List UInt8)→List (List UInt8)
 | []=>[]
 | [z]=>[z]
 | x::y::xs=>(x++[c])::sepd c (y::xs)
theorem Jen (c:UInt8) (x:List UInt8) {xs:List (List UInt8)} (h:0 < xs.length):sepd c (x::xs)=(x++[c])::sepd c xs:=by
 cases xs with
 | nil=>simp at h
 | cons y ys=>rfl
theorem Jo4 (c b:UInt8) (x:List UInt8) (xs:List (List UInt8)):sepd c ((b::x)::xs)=match sepd c (x::xs) with
  | z::zs=>(b::z)::zs
  | []=>[[b]]:=by
 cases xs with
 | nil=>rfl
 | cons y ys=>rfl
theorem Jfo (c:UInt8):∀ l:List UInt8,Lib.splitK [c] 1 (Lib.count l [c]) l=sepd c (Jav c l)
 | []=>by rw [Lib.count_one]; rfl
 | b::r=>by
  have ih:=Jfo c r
  by_cases h:b=c
  ·
   subst h
   rw [Lib.count_cons_eq,Nat.add_comm]
   have hi:Lib.index (b::r) [b]=0:=by rw [Lib.index]; simp [List.isPrefixOf]
   unfold Lib.splitK Jav
   rw [hi,if_neg (by decide),if_pos rfl,Jen _ _ (Jdy b r)]
   simp [ih]
  rw [Lib.count_cons_ne _ _ _ h]
  have hp:([c]:List UInt8).isPrefixOf (b::r)=false:=by simp [List.isPrefixOf,Ne.symm h]
  have hi:Lib.index (b::r) [c]=if Lib.index r [c] == -1 then -1 else Lib.index r [c]+1:=by rw [Lib.index,hp]; simp
  have e:sepd c (Jav c (b::r))=match sepd c (Jav c r) with
    | z::zs=>(b::z)::zs
    | []=>[[b]]:=by
   have hq:=Jdy c r
   rw [Jav,if_neg h]
   cases hs:Jav c r with
   | nil=>rw [hs] at hq; simp at hq
   | cons x xs=>exact Jo4 c b x xs
  rw [e, ← ih]
  cases hk:Lib.count r [c] with
  | zero=>rfl
  | succ k =>
   have hne:¬ Lib.index r [c] = -1:=fun e=>by rw [Lib.count_miss e] at hk; cases hk
   have hge:=Lib.index_ge r [c]
   unfold Lib.splitK
   rw [hi,if_neg (show ¬ (Lib.index r [c] == -1)=true by simpa using hne),if_neg (show ¬ (Lib.index r [c]+1 == -1)=true by simp; omega)]
   have e1:(Lib.index r [c]+1).toNat=(Lib.index r [c]).toNat+1:=by omega
   simp only [e1,List.take_succ_cons,List.length_cons,List.length_nil,Nat.zero_add,List.drop_succ_cons]
   rw [if_neg (show ¬ (Lib.index r [c] == -1)=true by simpa using hne)]
def aftS (c:UInt8) (t:ByteArray):List ByteArray:=(sepd c (Jav c (bl t))).map ba
theorem Jjr (c:UInt8) (s:ByteArray):Lib.splitB ⟨#[c]⟩ 1 (Lib.countB s ⟨#[c]⟩) s=aftS c s:=by
 have h:=Lib.splitB_data ⟨#[c]⟩ 1 (Lib.countB s ⟨#[c]⟩) s
 have h2:Lib.splitK [c] 1 (Lib.count (bl s) [c]) (bl s)=sepd c (Jav c (bl s)):=Jfo c (bl s)
 have h3:(Lib.splitB ⟨#[c]⟩ 1 (Lib.countB s ⟨#[c]⟩) s).map bl=sepd c (Jav c (bl s)):=h.trans h2
 unfold aftS
 rw [← h3,List.map_map]
 conv=>lhs; rw [← List.map_id (Lib.splitB ⟨#[c]⟩ 1 (Lib.countB s ⟨#[c]⟩) s)]
 rfl
theorem Jnr (c:UInt8):∀ l:List (List UInt8),(sepd c l).length=l.length
 | []=>rfl
 | [_]=>rfl
 | x::y::xs=>by rw [Jen c x (by simp),List.length_cons,Jnr c (y::xs)]; rfl
theorem Jir (c:UInt8) (t:ByteArray):(aftS c t).length=(Jab c t).length:=by
 unfold aftS Jab
 rw [List.length_map,List.length_map,Jnr]
theorem Jmx (c:UInt8):∀ (l:List (List UInt8)) (i:Nat),i+1 < l.length→(sepd c l)[i]? = (l[i]?).map (· ++ [c])
 | x::y::xs,0,_=>rfl
 | x::y::xs,i+1,h=>by
  rw [Jen c x (by simp),List.getElem?_cons_succ,List.getElem?_cons_succ,Jmx c (y::xs) i (by simpa using h)]
 | [_],i,h=>by simp at h
 | [],i,h=>by simp at h
theorem Jjx (c:UInt8):∀ (l:List (List UInt8)) (i:Nat),i+1=l.length→(sepd c l)[i]? = l[i]?
 | [_],0,_=>rfl
 | x::y::xs,0,h=>by simp at h
 | x::y::xs,i+1,h=>by
  rw [Jen c x (by simp),List.getElem?_cons_succ,List.getElem?_cons_succ,Jjx c (y::xs) i (by simpa using h)]
 | [_],i+1,h=>by simp at h
 | [],i,h=>by simp at h
theorem Jss {α:Type} [Inhabited α] {l:List α} {i:Int} {x:α} (h:l[i.toNat]? = some x):nth l i=x:=by simp [nth,List.getD,h]
theorem Jgk {α:Type} [Inhabited α] {l:List α} {i:Int} (h0:0≤i) (h1:i < l.length):l[i.toNat]? = some (nth l i):=by
 have:i.toNat < l.length:=by omega
 simp [nth,List.getD,this]
theorem Jx3 {c:UInt8} {t:ByteArray} {i:Int} (h0:0≤i) (h1:i+1 < (Jab c t).length):nth (aftS c t) i=nth (Jab c t) i++(⟨#[c]⟩:ByteArray):=by
 have hl:i.toNat+1 < (Jav c (bl t)).length:=by simp only [Jab,List.length_map] at h1; omega
 refine Jss ?_
 have e:=Jgk (l:=Jab c t) h0 (by omega)
 unfold Jab at e
 unfold aftS
 rw [List.getElem?_map] at e
 rw [List.getElem?_map,Jmx _ _ _ hl]
 cases hx:(Jav c (bl t))[i.toNat]? with
 | none=>rw [hx] at e; cases e
 | some x =>
  rw [hx] at e
  have e2:=Option.some.inj e
  rw [Option.map_some,Option.map_some,show nth (Jab c t) i=ba x from e2.symm]
  exact congrArg some (Jwj (by simp [Jms,Jyd]))
theorem Jmj {c:UInt8} {t:ByteArray} {i:Int} (h0:0≤i) (h1:i+1=(Jab c t).length):nth (aftS c t) i=nth (Jab c t) i:=by
 have hl:i.toNat+1=(Jav c (bl t)).length:=by simp only [Jab,List.length_map] at h1; omega
 refine Jss ?_
 have e:=Jgk (l:=Jab c t) h0 (by omega)
 unfold Jab at e
 unfold aftS
 rw [List.getElem?_map] at e
 rw [List.getElem?_map,Jjx _ _ _ hl]
 exact e
def Jni:ByteArray:=⟨#[109,111,118,101]⟩
def Jnq:ByteArray:=⟨#[104,105,110,116]⟩
def Jih:ByteArray:=⟨#[112,97,117,115,101]⟩
def Jf2:ByteArray:=⟨#[114,101,115,117,109,101]⟩
def Jiu:ByteArray:=⟨#[115,101,110,115,101]⟩
def kwE (k:Int):ByteArray:=if k=1 then Jni else if k=2 then Jnq else if k=3 then Jih else if k=4 then Jf2 else Jiu
def Jdl (w:ByteArray):Int:=if seq w Jni=true then 1 else if seq w Jnq=true then 2 else if seq w Jih=true then 3 else if seq w Jf2=true then 4 else if seq w Jiu=true then 5 else 0
def numE (t:ByteArray):Option Int:=(numB 7 t).bind fun n=>if n≤1000000 then some n else none
def mkE (t k:Int):List Int→Option Entr
 | []=>if k=3∨k=4 then some ⟨t,k,mv0,0,0⟩ else none
 | [a]=>if k=2 then some ⟨t,2,mv0,a,0⟩ else none
 | [a,b]=>if k=5 then some ⟨t,5,mv0,a,b⟩ else none
 | [a,b,c]=>if k=1 then some ⟨t,1,⟨a,b,c⟩,0,0⟩ else none
 | _=>none
def Jb7:List ByteArray→Option (List Int)
 | []=>some []
 | w::ws=>(numE w).bind fun n=>(Jb7 ws).map (n :: ·)
def logW:List ByteArray→Option Entr
 | a::w::ws=>(numE a).bind fun t=>(Jb7 ws).bind fun fs=>mkE t (Jdl w) fs
 | _=>none
def logE (t:ByteArray):Option Entr:=logW (Jab 32 t)
def parE (acc:List Entr) (i:Int):List ByteArray→List Entr × Int × Int
 | []=>([],i+1,4)
 | [z]=>if seq z ⟨#[]⟩=true then (if 500 < (acc.length:Int) then ([],0,2) else (acc,0,0)) else ([],i+1,4)
 | l::l2::ls=>match logE l with
  | some x=>parE (acc++[x]) (i+1) (l2::ls)
  | none=>([],i+1,4)
def Jch (t:ByteArray):List Entr × Int × Int:=parE [] 0 (Jab 10 t)
theorem Jh6 {k:Int} (h:1≤k∧k≤5):Jdl (kwE k)=k:=by
 rcases (show k=1∨k=2∨k=3∨k=4∨k=5 by omega) with rfl | rfl | rfl | rfl | rfl <;> decide +kernel
def offE (k:Int):List Nat:=if k=1 then [2,3,4] else if k=2 then [5] else if k=5 then [5,6] else []
def setE (x:Entr) (o:Nat) (v:Int):Entr:=if o=2 then ⟨x.t,x.k,⟨v,x.m.k,x.m.n⟩,x.a,x.b⟩ else if o=3 then ⟨x.t,x.k,⟨x.m.p,v,x.m.n⟩,x.a,x.b⟩ else if o=4 then ⟨x.t,x.k,⟨x.m.p,x.m.k,v⟩,x.a,x.b⟩
 else if o=5 then ⟨x.t,x.k,x.m,v,x.b⟩ else if o=6 then ⟨x.t,x.k,x.m,x.a,v⟩ else x
theorem J15 {k:Int} {n o:Nat} (h:(offE k)[n]? = some o):2≤o∧o≤6:=by
 have hm:=List.mem_of_getElem? h
 unfold offE at hm
 split at hm
 ·
  simp at hm; omega
 split at hm
 ·
  simp at hm; omega
 split at hm
 ·
  simp at hm; omega
 cases hm
theorem Jqf {y:Entr} {o:Nat} (h:2≤o∧o≤6) (v:Int):(cEntry.cells y).set o (.int .i64 v)=cEntry.cells (setE y o v):=by
 rcases (show o=2∨o=3∨o=4∨o=5∨o=6 by omega) with rfl | rfl | rfl | rfl | rfl <;> rfl
def inK (k:Int):Bool:=decide (1≤k) && decide (k≤5)
theorem Jkn {k:Int} (h:inK k=true):k=1∨k=2∨k=3∨k=4∨k=5:=by
 simp only [inK,Bool.and_eq_true,decide_eq_true_eq] at h
 omega
theorem Jup {k:Int} (h:inK k=true):1≤k∧k≤5:=by simpa only [inK,Bool.and_eq_true,decide_eq_true_eq] using h
theorem Jzf {j k:Int} (hj:inK j=true) (hk:inK k=true) (h:kwE j=kwE k):j=k:=by
 rw [← Jh6 (Jup hj), ← Jh6 (Jup hk),h]
theorem Jxi (w:ByteArray):Jdl w=0∨(inK (Jdl w)=true∧kwE (Jdl w)=w):=by
 unfold Jdl
 by_cases h1:seq w Jni=true
 ·
  rw [if_pos h1]; exact .inr ⟨rfl,(Jev.1 h1).symm⟩
 rw [if_neg h1]
 by_cases h2:seq w Jnq=true
 ·
  rw [if_pos h2]; exact .inr ⟨rfl,(Jev.1 h2).symm⟩
 rw [if_neg h2]
 by_cases h3:seq w Jih=true
 ·
  rw [if_pos h3]; exact .inr ⟨rfl,(Jev.1 h3).symm⟩
 rw [if_neg h3]
 by_cases h4:seq w Jf2=true
 ·
  rw [if_pos h4]; exact .inr ⟨rfl,(Jev.1 h4).symm⟩
 rw [if_neg h4]
 by_cases h5:seq w Jiu=true
 ·
  rw [if_pos h5]; exact .inr ⟨rfl,(Jev.1 h5).symm⟩
 rw [if_neg h5]; exact .inl rfl
theorem Jow {L:List ByteArray} (h:L.length < 2):logW L=none:=by
 match L,h with
 | [],_=>rfl
 | [_],_=>rfl
theorem Jk2 {L:List ByteArray} (h:2≤L.length):logW L=(numE (nth L 0)).bind fun t=>(Jb7 (L.drop 2)).bind fun fs=>mkE t (Jdl (nth L 1)) fs:=by
 match L,h with
 | a::w::ws,_=>rfl
theorem Jie:∀ {ws:List ByteArray} {fs:List Int},Jb7 ws=some fs→fs.length=ws.length
 | [],fs,h=>by obtain rfl:=Option.some.inj h; rfl
 | w::ws,fs,h=>by
  rw [Jb7] at h
  cases hn:numE w with
  | none=>rw [hn] at h; cases h
  | some n =>
   rw [hn,Option.bind_some] at h
   cases hs:Jb7 ws with
   | none=>rw [hs] at h; cases h
   | some gs =>
    rw [hs] at h
    obtain rfl:=Option.some.inj h
    rw [List.length_cons,List.length_cons,Jie hs]
theorem Jio:∀ {ws:List ByteArray} {vs:List Int} {w:ByteArray} {v:Int},Jb7 ws=some vs→numE w=some v→Jb7 (ws++[w])=some (vs++[v])
 | [],vs,w,v,h,hv=>by
  obtain rfl:=Option.some.inj h
  show Jb7 [w]=some [v]
  rw [Jb7,hv]
  rfl
 | x::ws,vs,w,v,h,hv=>by
  rw [Jb7] at h
  cases hn:numE x with
  | none=>rw [hn] at h; cases h
  | some n =>
   rw [hn,Option.bind_some] at h
   cases hs:Jb7 ws with
   | none=>rw [hs] at h; cases h
   | some gs =>
    rw [hs] at h
    obtain rfl:=Option.some.inj h
    rw [List.cons_append,Jb7,hn,Option.bind_some,Jio hs hv]
    rfl
theorem Jjk:∀ {ws:List ByteArray} {w:ByteArray},w∈ws→numE w=none→Jb7 ws=none
 | x::ws,w,h,hn=>by
  rw [Jb7]
  rcases List.mem_cons.1 h with rfl | h
  ·
   rw [hn]; rfl
  rw [Jjk h hn]
  cases numE x <;> rfl
theorem Jnk {α:Type} [Inhabited α] (l:List α) {i:Int} (h0:0≤i):nth (l.drop 2) i=nth l (i+2):=by
 have e:(i+2).toNat=2+i.toNat:=by omega
 simp only [nth,List.getD,e,List.getElem?_drop]
theorem Jyb {t k:Int} {fs:List Int} (h:inK k=false∨fs.length≠(offE k).length):mkE t k fs=none:=by
 cases hk:inK k with
 | false =>
  have h1:¬ (1≤k∧k≤5):=fun q=>by simp [inK,q] at hk
  match fs with
  | []=>exact if_neg (by omega)
  | [_]=>exact if_neg (by omega)
  | [_,_]=>exact if_neg (by omega)
  | [_,_,_]=>exact if_neg (by omega)
  | _::_::_::_::_=>rfl
 | true =>
  have h2:fs.length≠(offE k).length:=h.resolve_left (by rw [hk]; decide)
  rcases Jkn hk with rfl | rfl | rfl | rfl | rfl
  all_goals
   match fs,h2 with
   | [],h2=>first | rfl | exact absurd rfl h2
   | [_],h2=>first | rfl | exact absurd rfl h2
   | [_,_],h2=>first | rfl | exact absurd rfl h2
   | [_,_,_],h2=>first | rfl | exact absurd rfl h2
   | _::_::_::_::_,_=>rfl
def stoE (t k:Int) (vs:List Int):Entr:=((offE k).zip vs).foldl (fun y p=>setE y p.1 p.2) ⟨t,k,mv0,0,0⟩
theorem Jy3 {t k:Int} {fs:List Int} (hk:inK k=true) (h:fs.length=(offE k).length):mkE t k fs=some (stoE t k fs):=by
 rcases Jkn hk with rfl | rfl | rfl | rfl | rfl
 all_goals
  match fs,h with
  | [],h=>first | rfl | (simp [offE] at h; done)
  | [_],h=>first | rfl | (simp [offE] at h; done)
  | [_,_],h=>first | rfl | (simp [offE] at h; done)
  | [_,_,_],h=>first | rfl | (simp [offE] at h; done)
  | _::_::_::_::_,h=>exact absurd h (by simp [offE])
theorem Jma {α β:Type}:∀ {l:List α} {vs:List β} {o:α} {v:β},l[vs.length]? = some o→l.zip (vs++[v])=l.zip vs++[(o,v)]
 | a::l,[],o,v,h=>by
  obtain rfl:a=o:=by simpa using h
  simp
 | a::l,b::vs,o,v,h=>by
  have e:=Jma (l:=l) (vs:=vs) (o:=o) (v:=v) (by simpa using h)
  rw [List.cons_append,List.zip_cons_cons,e]
  rfl
 | [],vs,o,v,h=>by simp at h
theorem Jys {t k:Int} {vs:List Int} {o:Nat} {v:Int} (h:(offE k)[vs.length]? = some o):stoE t k (vs++[v])=setE (stoE t k vs) o v:=by
 unfold stoE
 rw [Jma h,List.foldl_append]
 rfl
theorem Jne {t:ByteArray} (h:(Jab 32 t).length < 2):logE t=none:=Jow h
theorem Jg4 {t:ByteArray} (h:2≤(Jab 32 t).length) (hn:numE (nth (Jab 32 t) 0)=none∨inK (Jdl (nth (Jab 32 t) 1))=false∨(Jab 32 t).length - 2≠(offE (Jdl (nth (Jab 32 t) 1))).length):logE t=none:=by
 unfold logE
 rw [Jk2 h]
 rcases hn with hn | hn
 ·
  rw [hn]; rfl
 cases h1:numE (nth (Jab 32 t) 0) with
 | none=>rfl
 | some n =>
  rw [Option.bind_some]
  cases h2:Jb7 ((Jab 32 t).drop 2) with
  | none=>rfl
  | some fs =>
   have h3:=Jie h2
   rw [List.length_drop] at h3
   rw [Option.bind_some]
   exact Jyb (hn.imp id fun hne=>by rw [h3]; exact hne)
theorem Jme {t:ByteArray} (h:2≤(Jab 32 t).length) {i:Int} (h0:0≤i) (h1:i+2 < (Jab 32 t).length) (hn:numE (nth (Jab 32 t) (i+2))=none):logE t=none:=by
 unfold logE
 rw [Jk2 h,Jjk (ws:=(Jab 32 t).drop 2) (Jai (i:=i) h0 (by rw [List.length_drop]; omega)) (by rw [Jnk _ h0]; exact hn)]
 cases numE (nth (Jab 32 t) 0) <;> rfl
theorem Jpq {t:ByteArray} (h:2≤(Jab 32 t).length) {n:Int} {vs:List Int} (h1:numE (nth (Jab 32 t) 0)=some n) (h2:Jb7 ((Jab 32 t).drop 2)=some vs) (hk:inK (Jdl (nth (Jab 32 t) 1))=true) (hl:vs.length=(offE (Jdl (nth (Jab 32 t) 1))).length) :
  logE t=some (stoE n (Jdl (nth (Jab 32 t) 1)) vs):=by
 unfold logE
 rw [Jk2 h,h1,Option.bind_some,h2,Option.bind_some,Jy3 hk hl]
theorem Jp6 {L:List ByteArray} {i:Int} {vs:List Int} {v:Int} (h0:0≤i) (h1:i+2 < L.length) (h:Jb7 ((L.drop 2).take i.toNat)=some vs) (hv:numE (nth L (i+2))=some v):Jb7 ((L.drop 2).take (i+1).toNat)=some (vs++[v]):=by
 rw [Jbb (L.drop 2) h0 (by rw [List.length_drop]; omega),Jnk L h0]
 exact Jio h hv
theorem Jgh {c:UInt8}:∀ {l x:List UInt8},x∈Jav c l→c ∉ x
 | [],x,h=>by
  rw [Jav,List.mem_singleton] at h
  subst h
  simp
 | b::l,x,h=>by
  have ih:=fun y hy=>Jgh (c:=c) (l:=l) (x:=y) hy
  rw [Jav] at h
  split at h
  ·
   rcases List.mem_cons.1 h with rfl | h
   ·
    simp
   exact ih x h
  rename_i hb
  cases hs:Jav c l with
  | nil=>have:=Jdy c l; rw [hs] at this; simp at this
  | cons y ys =>
   rw [hs] at h ih
   rcases List.mem_cons.1 h with rfl | h
   ·
    intro hm
    rcases List.mem_cons.1 hm with e | hm
    ·
     exact hb e.symm
    exact ih y (by simp) hm
   exact ih x (by simp [h])
theorem Jk1 {c:UInt8} {t x:ByteArray} (h:x∈Jab c t):c ∉ bl x:=by
 obtain ⟨y,hy,rfl⟩:=List.mem_map.1 h
 have:=Jgh hy
 simpa using this
theorem Jf4 {L:List ByteArray} {acc:List Entr} {i:Int} (h0:0≤i) (h1:i+1 < L.length) :
  parE acc i (L.drop i.toNat)=match logE (nth L i) with
   | some x=>parE (acc++[x]) (i+1) (L.drop (i+1).toNat)
   | none=>([],i+1,4):=by
 have e1:=Jgk (l:=L) h0 (by omega)
 have e2:=Jgk (l:=L) (i:=i+1) (by omega) (by omega)
 have d1:L.drop i.toNat=nth L i::L.drop (i+1).toNat:=by
  obtain ⟨q1,q2⟩:=List.getElem?_eq_some_iff.1 e1
  rw [List.drop_eq_getElem_cons q1,q2,show (i+1).toNat=i.toNat+1 by omega]
 have d2:L.drop (i+1).toNat=nth L (i+1)::L.drop ((i+1).toNat+1):=by
  obtain ⟨q1,q2⟩:=List.getElem?_eq_some_iff.1 e2
  rw [List.drop_eq_getElem_cons q1,q2]
 rw [d1,d2]
 rfl
theorem Jiv {L:List ByteArray} {acc:List Entr} {i:Int} (h0:0≤i) (h1:i+1=L.length) :
  parE acc i (L.drop i.toNat)=if seq (nth L i) ⟨#[]⟩=true then (if 500 < (acc.length:Int) then ([],0,2) else (acc,0,0)) else ([],i+1,4):=by
 have e1:=Jgk (l:=L) h0 (by omega)
 have d1:L.drop i.toNat=[nth L i]:=by
  obtain ⟨q1,q2⟩:=List.getElem?_eq_some_iff.1 e1
  rw [List.drop_eq_getElem_cons q1,q2,List.drop_eq_nil_of_le (by omega)]
 rw [d1]
 rfl
def Jjn (t:ByteArray):ByteArray:=nth (Jab 10 t) ((Jab 10 t).length - 1)
def linS (t:ByteArray):List ByteArray:=if seq (Jjn t) ⟨#[]⟩=true then (aftS 10 t).dropLast else aftS 10 t
theorem Jst (t:ByteArray):((linS t).length:Int)=if seq (Jjn t) ⟨#[]⟩=true then ((Jab 10 t).length:Int) - 1 else (Jab 10 t).length:=by
 have h:=Jir 10 t
 have hp:=Je6 10 t
 unfold linS
 split
 ·
  rw [List.length_dropLast,h]; omega
 rw [h]
theorem Jw3 {t:ByteArray} {i:Int} (h0:0≤i) (h1:i < (linS t).length):nth (linS t) i=nth (aftS 10 t) i:=by
 unfold linS at h1 ⊢
 split
 ·
  rename_i hq
  rw [if_pos hq,List.length_dropLast] at h1
  have e:=Jgk (l:=aftS 10 t) h0 (by omega)
  refine Jss ?_
  rw [List.dropLast_eq_take,List.getElem?_take,if_pos (by omega)]
  exact e
 rfl
theorem Jxj {α:Type} [Inhabited α] {L:List α} {i:Int} (h0:0≤i) (h1:i < L.length) (hn:i≠1):(L.take (i+1).toNat).eraseIdx 1=(L.take i.toNat).eraseIdx 1++[nth L i]:=by
 rw [Jbb L h0 h1]
 by_cases h:i=0
 ·
  subst h; rfl
 rw [List.eraseIdx_append_of_lt_length (by rw [List.length_take]; omega)]
theorem Jyl {α:Type} {L:List α} (h:2≤L.length):(L.take (1+1:Int).toNat).eraseIdx 1=(L.take (1:Int).toNat).eraseIdx 1:=by
 match L,h with
 | a::b::l,_=>rfl
theorem J0z {α:Type} [Inhabited α] {L:List α} (h:2≤L.length):L.eraseIdx 1=nth L 0::L.drop 2:=by
 match L,h with
 | a::b::l,_=>rfl
theorem Jsz {w:ByteArray} {ws:List ByteArray} {vs:List Int} (h:Jb7 (w::ws)=some vs):∃ n fs,vs=n::fs∧numE w=some n∧Jb7 ws=some fs:=by
 rw [Jb7] at h
 cases hn:numE w with
 | none=>rw [hn] at h; cases h
 | some n =>
  rw [hn,Option.bind_some] at h
  cases hs:Jb7 ws with
  | none=>rw [hs] at h; cases h
  | some gs =>
   rw [hs] at h
   exact ⟨n,gs,(Option.some.inj h).symm,rfl,rfl⟩
theorem Jtx {t:ByteArray} (h:(numB 7 t).isSome=false∨1000000 < (numB 7 t).getD 0):numE t=none:=by
 unfold numE
 cases hn:numB 7 t with
 | none=>rfl
 | some n =>
  rw [hn] at h
  have h2:1000000 < n:=by simpa using h
  rw [Option.bind_some,if_neg (by omega)]
theorem Jy2 {t:ByteArray} (h:(numB 7 t).isSome=true) (h2:¬ 1000000 < (numB 7 t).getD 0):numE t=some ((numB 7 t).getD 0):=by
 unfold numE
 cases hn:numB 7 t with
 | none=>rw [hn] at h; cases h
 | some n =>
  rw [hn] at h2
  have h2:¬ 1000000 < n:=by simpa using h2
  rw [Option.bind_some,if_pos (by omega)]
  rfl
theorem Jqn {k:Int} (h:inK k=true):((offE k).length=3 ↔ k=1)∧((offE k).length=1 ↔ k=2)∧((offE k).length=2 ↔ k=5):=by
 rcases Jkn h with rfl | rfl | rfl | rfl | rfl <;> decide
def stoA (t k:Int) (f:List Int):Entr:=if k=1 then ⟨t,1,⟨nth f 0,nth f 1,nth f 2⟩,0,0⟩ else ⟨t,k,mv0,0,0⟩
def stoB (t k:Int) (f:List Int):Entr:=if k=2∨k=5 then ⟨t,k,mv0,nth f 0,0⟩ else stoA t k f
def stoC (t k:Int) (f:List Int):Entr:=if k=5 then ⟨t,k,mv0,nth f 0,nth f 1⟩ else stoB t k f
theorem J29 {t k:Int} {f:List Int} (h:inK k=true) (hl:f.length=(offE k).length):stoC t k f=stoE t k f:=by
 rcases Jkn h with rfl | rfl | rfl | rfl | rfl
 all_goals
  match f,hl with
  | [],h=>first | rfl | (simp [offE] at h; done)
  | [_],h=>first | rfl | (simp [offE] at h; done)
  | [_,_],h=>first | rfl | (simp [offE] at h; done)
  | [_,_,_],h=>first | rfl | (simp [offE] at h; done)
  | _::_::_::_::_,h=>exact absurd h (by simp [offE])
theorem J0n {w:ByteArray} (h1:seq w Jni=false) (h2:seq w Jnq=false) (h3:seq w Jih=false) (h4:seq w Jf2=false) (h5:seq w Jiu=false):Jdl w=0:=by
 unfold Jdl
 rw [h1,h2,h3,h4,h5]
 rfl
theorem Jgx {w:ByteArray} {k:Int} (hk:inK k=true) (h:seq w (kwE k)=true):Jdl w=k:=by
 rw [Jev.1 h]
 exact Jh6 (Jup hk)
end Go.Proofs.YtfbfdnoodccgiaaGreatDoor
namespace Go.Proofs.YtfbfdnoodccgiaaGreatDoor
set_option linter.unusedVariables false
set_option linter.unusedSimpArgs false
open Go Go.RowKit Go.Proofs MapKept
structure MapW (w:World) (m:Nat) (es:List MapEntry) (c:Nat):Prop where
 at_:w.heap[m]? = some (.map es.toArray c)
 born:∀ e∈es,e.born < c
 nodup:(es.map (·.born)).Nodup
theorem MapW.lt {w:World} {m:Nat} {es:List MapEntry} {c:Nat} (h:MapW w m es c):m < w.heap.size:=(Array.getElem?_eq_some_iff.1 h.at_).1
theorem MapW.ext {w u:World} {m:Nat} {es:List MapEntry} {c:Nat} (h:MapW w m es c) (hb:Below w.heap.size w u):MapW u m es c:=⟨(hb.block m h.lt).trans h.at_,h.born,h.nodup⟩
def J4i (seen:List Nat):Option MapEntry→List Nat
 | some e=>seen++[e.born]
 | none=>seen
def Jqa (es:List MapEntry) (seen:List Nat):Option MapEntry→Prop
 | some e=>e∈es∧e.born ∉ seen
 | none=>∀ e∈es,e.born∈seen
def Jin:Option MapEntry→Value
 | some e=>.tuple #[.bool true,e.key,e.val]
 | none=>.tuple #[.bool false]
def Jiy (es:List MapEntry) (seen:List Nat):Nat:=(es.filter fun e => !seen.contains e.born).length
theorem Jg0 {es:List MapEntry} {seen:List Nat} {e:MapEntry} (h:e∈es∧e.born ∉ seen):Jiy es (seen++[e.born]) < Jiy es seen:=by
 unfold Jiy
 have hsub:(es.filter fun x => !(seen++[e.born]).contains x.born)=(es.filter fun x => !seen.contains x.born).filter fun x => !(x.born == e.born):=by
  rw [List.filter_filter]
  refine List.filter_congr fun x _=>?_
  by_cases h1:x.born∈seen <;> by_cases h2:x.born=e.born <;> simp [h1,h2]
 rw [hsub]
 refine List.length_filter_lt_length_iff_exists.2 ⟨e,List.mem_filter.2 ⟨h.1,by simpa using h.2⟩,by simp⟩
def itP (r m c:Nat) (seen:List Nat):SA where
 h S u:=(∀ k,S k ↔ k=r)∧u.heap[r]? = some (.mapIter (some m) c seen.toArray c)
 loc S u u' h hk:=⟨h.1,hk r ((h.1 r).2 rfl) _ h.2⟩
 dom S u k h hS:=by
  rw [(h.1 k).1 hS]
  exact (Array.getElem?_eq_some_iff.1 h.2).1
section
variable {P:Program} {ro:Option Nat} {n0:Nat} {w0:World} {ds:List Deferred} {ops:Array Oper} {Q:Exit→Act→World→Prop} {L L':List SA} {rest:List Oper} {l:List Value} {ty:TypeId} {ps:String} {af:Array Edge}
variable {T K E:TypeId} {x y:Operand} {d:Option Tmp} {g:Option (Nat × Bool)}
theorem St.itP {u:World} {r m c j:Nat} {seen:List Nat} (h:St n0 w0 L u) (hj:L[j]? = some (Go.Proofs.YtfbfdnoodccgiaaGreatDoor.itP r m c seen)):n0≤r∧u.heap[r]? = some (.mapIter (some m) c seen.toArray c):=by
 obtain ⟨S,h1,h2,h3⟩:=h.get hj
 exact ⟨h1 r ((h2 r).2 rfl),h3⟩
theorem WS.range {i m c:Nat} {es:List MapEntry} {l':Nat→List Value} (hT:P.underlying T=some (.map K E)) (hx:evo l x=some (.map (some m))) (hm:MapW w0 m es c) (hn:n0=w0.heap.size)
  (hl:∀ r,lset l i (.pointer (some ⟨r,0,none⟩))=some (l' r)) (kk:∀ r,n0≤r→WS P ro n0 w0 ds ops Q (Go.Proofs.YtfbfdnoodccgiaaGreatDoor.itP r m c []::L) rest (l' r)) :
  WS P ro n0 w0 ds ops Q L (⟨some i,.range T x,ty,ps,af,none⟩::rest) l:=by
 subst hn
 (replace hx:=Jaf hx)
 refine WS.world rfl rfl fun u hu=>?_
 have hmu:=hm.ext hu.below
 refine ⟨.pointer (some ⟨u.heap.size,0,none⟩),u.alloc (.mapIter (some m) c #[] c),?_,?_⟩
 ·
  simp [execOp,Instr.range,hx,run_underlying hT,MapKept.run_getObj_map hmu.at_,Result.andThen]
 rw [Jap,Jae (hl _)]
 exact kk _ hu.size _ (hu.cons (T:=fun k=>k=u.heap.size) ((Below.refl _ u).alloc (Nat.le_refl _) _) ⟨fun k=>Iff.rfl,World.alloc_heap_new u _⟩ (fun k hk=>by omega))
theorem Jea {u:World} {r m c:Nat} {seen:List Nat} (hr:u.heap[r]? = some (.mapIter (some m) c seen.toArray c)):(getObj r).run P u = .ok (.mapIter (some m) c seen.toArray c) u:=by
 simp [getObj,Sem.run,hr]
theorem Jto {n:Nat} (h:0 < n) (u:World):∃ k d,k < n ∧
  (if (Question.mapNext n).forced=true then Result.ok 0 u else Result.ok ((Question.mapNext n).cut (u.tape u.drawn (.mapNext n))) u.drew)=(Result.ok k { u with drawn:=d }:Result Nat):=by
 by_cases hf:(Question.mapNext n).forced=true
 ·
  exact ⟨0,u.drawn,h,by rw [if_pos hf]⟩
 exact ⟨u.tape u.drawn (.mapNext n) % n,u.drawn+1,Nat.mod_lt _ h,by rw [if_neg hf]; rfl⟩
theorem Jtp {u:World} {r m c:Nat} {es:List MapEntry} {seen:List Nat} (hm:MapW u m es c) (hr:u.heap[r]? = some (.mapIter (some m) c seen.toArray c)) (ty:TypeId) :
  (∃ d,Jqa es seen none∧(Instr.next (.pointer (some ⟨r,0,none⟩)) false ty).run P u = .ok (Jin none) { u with drawn:=d }) ∨
  ∃ e d,Jqa es seen (some e)∧(Instr.next (.pointer (some ⟨r,0,none⟩)) false ty).run P u = .ok (Jin (some e)) { u with drawn:=d,heap:=u.heap.setIfInBounds r (.mapIter (some m) c (seen++[e.born]).toArray c) }:=by
 have h4:¬ ((¬ seen=[]∧¬ es=[])∧∀ (i:Nat) (x:i < es.length),c≤(es[i]).born):=fun ⟨⟨_,h2⟩,h3⟩=>by
  have hp:0 < es.length:=List.length_pos_iff.2 h2
  have:=hm.born _ (List.getElem_mem hp)
  have:=h3 0 hp
  omega
 have f1:es.filter (fun a=>decide (a.born < c) && !decide (a.born∈seen))=es.filter fun a => !decide (a.born∈seen):=List.filter_congr fun a ha=>by simp [hm.born a ha]
 have f2:es.filter (fun a=>decide (c≤a.born) && !decide (a.born∈seen))=[]:=List.filter_eq_nil_iff.2 fun a ha=>by have:=hm.born a ha; simp; omega
 by_cases hl:∀ a,a∈es→a.born < c→a.born∈seen
 ·
  have hx:es.filter (fun a => !decide (a.born∈seen))=[]:=List.filter_eq_nil_iff.2 fun a ha=>by simpa using hl a ha (hm.born a ha)
  refine .inl ⟨u.drawn,fun e he=>hl e he (hm.born e he),?_⟩
  simp [Instr.next,Jea hr,MapKept.run_getObj_map hm.at_,Result.andThen,h4,f1,f2,hx,if_pos hl,Question.forced,Jin]
 have hx:0 < (es.filter fun a => !decide (a.born∈seen)).length:=List.length_pos_iff.2 fun h=>hl fun a ha _=>by simpa using List.filter_eq_nil_iff.1 h a ha
 obtain ⟨k,d,hk,hr2⟩:=Jto hx u
 obtain ⟨e,he⟩:∃ e,(es.filter fun a => !decide (a.born∈seen))[k]? = some e:=⟨_,List.getElem?_eq_getElem hk⟩
 have hmem:=List.mem_filter.1 (List.mem_of_getElem? he)
 refine .inr ⟨e,d,⟨hmem.1,by simpa using hmem.2⟩,?_⟩
 simp [Instr.next,Jea hr,MapKept.run_getObj_map hm.at_,Result.andThen,h4,f1,f2,if_neg hl,hr2,he,Jin,setObj,Sem.run,hr]
theorem St.drawn {u:World} (h:St n0 w0 L u) (n:Nat):St n0 w0 L { u with drawn:=n } :=
 ⟨h.le,⟨h.below.os,h.below.tape,h.below.output,h.below.size,h.below.block⟩,h.star.keep (fun _ _ _ h=>h) fun _ h _=>h⟩
theorem St.itSet {u:World} {r m c j n:Nat} {seen seen':List Nat} (h:St n0 w0 L u) (hj:L[j]? = some (Go.Proofs.YtfbfdnoodccgiaaGreatDoor.itP r m c seen)) :
  St n0 w0 (L.set j (Go.Proofs.YtfbfdnoodccgiaaGreatDoor.itP r m c seen')) { u with drawn:=n,heap:=u.heap.setIfInBounds r (.mapIter (some m) c seen'.toArray c) }:=by
 obtain ⟨T,hT,⟨hS,hb⟩,hc⟩:=h.upd hj
 have hlt:r < u.heap.size:=(Array.getElem?_eq_some_iff.1 hb).1
 refine hc _ _ (fun k=>k=r) ⟨rfl,rfl,rfl,by simp,fun k hk=>?_⟩ (fun k hk o' hcell=>?_) ⟨fun k=>Iff.rfl,by simp [hlt]⟩ (fun k hk=>by subst hk; exact ⟨hT _ ((hS _).2 rfl),.inl ((hS _).2 rfl)⟩)
 ·
  have:=hT r ((hS r).2 rfl)
  simp only [Array.getElem?_setIfInBounds]
  rw [if_neg (by omega)]
 simp only [Array.getElem?_setIfInBounds]
 rw [if_neg (fun e=>hk.2.2 ((hS k).2 e.symm))]
 exact hcell
theorem WS.next {i r m c j:Nat} {es:List MapEntry} {seen:List Nat} {l':Option MapEntry→List Value} {L':Option MapEntry→List SA} (hx:evo l x=some (.pointer (some ⟨r,0,none⟩))) (hj:L[j]? = some (Go.Proofs.YtfbfdnoodccgiaaGreatDoor.itP r m c seen)) (hm:MapW w0 m es c) (hn:n0=w0.heap.size)
  (hl:∀ o,lset l i (Jin o)=some (l' o)) (hL:∀ o,lset L j (Go.Proofs.YtfbfdnoodccgiaaGreatDoor.itP r m c (J4i seen o))=some (L' o)) (kk:∀ o,Jqa es seen o→WS P ro n0 w0 ds ops Q (L' o) rest (l' o)) :
  WS P ro n0 w0 ds ops Q L (⟨some i,.next x false,ty,ps,af,none⟩::rest) l:=by
 subst hn
 (replace hx:=Jaf hx)
 refine WS.world rfl rfl fun u hu=>?_
 have hmu:=hm.ext hu.below
 rcases Jtp (P:=P) hmu (hu.itP hj).2 ty with ⟨d,ho,hrun⟩ | ⟨e,d,ho,hrun⟩
 ·
  refine ⟨Jin none,{ u with drawn:=d },by simp only [execOp,hx]; simp [hrun,Result.andThen],?_⟩
  rw [Jap,Jae (hl _)]
  have h2:=kk none ho
  have hLn:L' none=L:=by
   have:=Jae (hL none)
   rw [← this]
   obtain ⟨h8,h9⟩:=List.getElem?_eq_some_iff.1 hj
   show L.set j (Go.Proofs.YtfbfdnoodccgiaaGreatDoor.itP r m c seen)=L
   rw [← h9]
   exact List.set_getElem_self h8
  rw [hLn] at h2
  exact h2 _ (hu.drawn d)
 refine ⟨Jin (some e),{ u with drawn:=d,heap:=u.heap.setIfInBounds r (.mapIter (some m) c (seen++[e.born]).toArray c) },by simp only [execOp,hx]; simp [hrun,Result.andThen],?_⟩
 rw [Jap,Jae (hl _)]
 have h2:=kk (some e) ho
 rw [← Jae (hL (some e))] at h2
 exact h2 _ (hu.itSet hj)
theorem Jo9 {o:Option MapEntry} (hx:evo l x=some (Jin o)):Det P (St n0 w0 L) ⟨d,.extract x 0,ty,ps,af,g⟩ l (.bool o.isSome):=fun u _=>by
 (replace hx:=Jaf hx)
 cases o <;> simp [execOp,Jag,hx,Jin,Instr.extract]
theorem Jpx {r m c j:Nat} {es:List MapEntry} {seen:List Nat} {e:MapEntry} (hx:evo l x=some (.pointer (some ⟨r,0,none⟩))) (hj:L[j]? = some (Go.Proofs.YtfbfdnoodccgiaaGreatDoor.itP r m c (seen++[e.born]))) (hm:MapW w0 m es c) (he:e∈es) :
  Det P (St w0.heap.size w0 L) ⟨d,.entry x,ty,ps,af,g⟩ l (.tuple #[e.key,e.val]):=fun u hu=>by
 (replace hx:=Jaf hx)
 have hmu:=hm.ext hu.below
 have hf:es.find? (fun x=>x.born == e.born)=some e:=by
  obtain ⟨q,hq⟩:∃ q,es.find? (fun x=>x.born == e.born)=some q:=by
   cases h9:es.find? (fun x=>x.born == e.born) with
   | none=>have:=List.find?_eq_none.1 h9 e he; simp at this
   | some q=>exact ⟨q,rfl⟩
  have h1:q.born=e.born:=by simpa using List.find?_some hq
  have h2:=List.mem_of_find?_eq_some hq
  have hnd:=hm.nodup
  obtain ⟨a,ha,ea⟩:=List.getElem_of_mem h2
  obtain ⟨b,hb,eb⟩:=List.getElem_of_mem he
  have:=(List.getElem_inj (i:=a) (j:=b) (xs:=es.map fun z:MapEntry=>z.born) (h₀:=by simpa using ha) (h₁:=by simpa using hb) hnd).1 (by simp [ea,eb,h1])
  subst this
  rw [hq, ← ea,eb]
 simp [execOp,Jag,hx,Instr.entry,Jea (hu.itP hj).2,MapKept.run_getObj_map hmu.at_,Result.andThen,hf]
theorem Jop {r m c j:Nat} {es:List MapEntry} {seen:List Nat} {e:MapEntry} {k v:Value} (hx:evo l x=some (.pointer (some ⟨r,0,none⟩))) (hj:L[j]? = some (Go.Proofs.YtfbfdnoodccgiaaGreatDoor.itP r m c (seen++[e.born]))) (hm:MapW w0 m es c) (he:e∈es) (hk:e.key=k) (hv:e.val=v) :
  Det P (St w0.heap.size w0 L) ⟨d,.entry x,ty,ps,af,g⟩ l (.tuple #[k,v]):=by
 subst hk; subst hv
 exact Jpx hx hj hm he
theorem Jub {w:World} {m c:Nat} {es:List MapEntry} (hm:MapW w m es c) {e q:MapEntry} (he:e∈es) (hq:q∈es) (h:q.born=e.born):q=e:=by
 have hnd:=hm.nodup
 obtain ⟨a,ha,ea⟩:=List.getElem_of_mem hq
 obtain ⟨b,hb,eb⟩:=List.getElem_of_mem he
 have:=(List.getElem_inj (i:=a) (j:=b) (xs:=es.map fun z:MapEntry=>z.born) (h₀:=by simpa using ha) (h₁:=by simpa using hb) hnd).1 (by simp [ea,eb,h])
 subst this
 rw [← ea,eb]
theorem Jo2 {m c:Nat} {es:List MapEntry} {k:Int} {v:Value} {ok:Bool} (hT:P.underlying T=some (.map K E)) (hK:P.underlying K=some (.int .i64)) (hx:evo l x=some (.map (some m))) (hy:evo l y=some (.int .i64 k)) (hm:MapW w0 m es c)
  (hk:∀ e∈es,∃ q,e.key = .int .i64 q) (h:(ok=true∧(∃ e∈es,e.key = .int .i64 k)∧∀ e∈es,e.key = .int .i64 k→e.val=v)∨(ok=false∧(∀ e∈es,e.key ≠ .int .i64 k)∧zo P E=some v)) :
  Det P (St w0.heap.size w0 L) ⟨d,.lookup T x y true,ty,ps,af,g⟩ l (.tuple #[v,.bool ok]):=fun u hu=>by
 (replace hx:=Jaf hx; replace hy:=Jaf hy)
 have hmu:=hm.ext hu.below
 have hkey:IsKey (.int .i64) (.int .i64 k):=rfl
 have hks:∀ x∈es,IsKey (.int .i64) x.key:=fun x hx=>by
  obtain ⟨q,e⟩:=hk x hx
  rw [e]; rfl
 rcases findNow_spec hkey es 0 hks with ⟨h1,h2⟩ | ⟨q,e,h1,h2,h3⟩
 ·
  rcases h with ⟨_,⟨e,he,ek⟩,_⟩ | ⟨rfl,_,hz⟩
  ·
   exact absurd ek (h2 e he)
  unfold zo at hz
  cases hi:P.info? E with
  | none=>simp [hi] at hz
  | some inf =>
   have hz2:inf.zero=some v:=by simpa [hi] using hz
   simp [execOp,Jag,hx,hy,Instr.lookup,run_underlying hT,MapKept.run_getObj_map hmu.at_,run_checkKey hK hkey,run_findKey hK h1,Result.andThen,zeroValue,typeInfo,hi,hz2]
 have hmem:=List.mem_of_getElem? h2
 rcases h with ⟨rfl,_,hv⟩ | ⟨_,hno,_⟩
 ·
  have hv:=hv e hmem h3
  simp [execOp,Jag,hx,hy,Instr.lookup,run_underlying hT,MapKept.run_getObj_map hmu.at_,run_checkKey hK hkey,run_findKey hK h1,Result.andThen,hv]
 exact absurd h3 (hno e hmem)
end
end Go.Proofs.YtfbfdnoodccgiaaGreatDoor
namespace Go.Proofs.YtfbfdnoodccgiaaGreatDoor
set_option linter.unusedVariables false
set_option linter.unusedSimpArgs false
open Go.RowKit Go.Proofs
def ptrL (b:Nat) (os:List Nat):List Value:=os.map fun o=>.pointer (some ⟨b,o,none⟩)
def Jlb (e:TypeId) (w:World) (b:Nat) (os:List Nat):Ending→World→Prop:=fun en w'=>∃ v:Value,v.oneCell'=true∧RetF w v (osl e 1 v os.length (ptrL b os)) en w'
theorem Jr1 {e:TypeId} {w0 u:World} {L:List SA} {b j:Nat} {os os':List Nat} {v:Value} (h:os=os') (hv:v.oneCell'=true) (hj:L[j]? = some (osl e 1 v os'.length (ptrL b os'))) (hu:St w0.heap.size w0 L u):Jlb e w0 b os (.returned v) u:=by
 subst h
 exact ⟨v,hv,retF hj u hu⟩
theorem J2u {b:Nat} {os:List Nat} {i:Nat} {o:Nat} (h:os[i]? = some o):(ptrL b os)[i]? = some (.pointer (some ⟨b,o,none⟩)):=by simp [ptrL,h]
theorem Jim (b:Nat) (os:List Nat):∀ v∈ptrL b os,v.oneCell'=true:=by
 intro v hv
 obtain ⟨o,_,rfl⟩:=List.mem_map.1 hv
 rfl
end Go.Proofs.YtfbfdnoodccgiaaGreatDoor
