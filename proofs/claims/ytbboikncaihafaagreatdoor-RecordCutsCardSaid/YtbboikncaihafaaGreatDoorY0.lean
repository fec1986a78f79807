/- Merged texts of this proof (walks and plain laws), printed by a program of the prover. -/
import Derived.RangeFuncNested
import Derived.OrdersIn
import Derived.Still
import Derived.TacticsIn
import Derived.WalkKit
import Derived.Deep.Quiet
import Derived.Test.YtbboikncaihafaaGreatDoorZa
import Derived.Test.YtbboikncaihafaaGreatDoorZb
import Derived.Lib.AppendZerosOnto
import Derived.Test.YtbboikncaihafaaGreatDoorProg
import Derived.KernelRfl
import Derived.Test.YtbboikncaihafaaGreatDoorZc
import Derived.Test.YtbboikncaihafaaGreatDoorZv
import Derived.Test.YtbboikncaihafaaGreatDoorZw
import Derived.Test.YtbboikncaihafaaGreatDoorXa
import Derived.Test.YtbboikncaihafaaGreatDoorXb
import Derived.Test.YtbboikncaihafaaGreatDoorXc
import Derived.Test.YtbboikncaihafaaGreatDoorXd
import Derived.Test.YtbboikncaihafaaGreatDoorXe
import Derived.Test.YtbboikncaihafaaGreatDoorXf
import Derived.Test.YtbboikncaihafaaGreatDoorXg
import Derived.Test.YtbboikncaihafaaGreatDoorXi
namespace Go.Proofs.YtbboikncaihafaaGreatDoor
set_option linter.unusedVariables false
set_option linter.unusedSimpArgs false
open Go.RowKit
section
variable {P:Program} {ro:Option Nat} {n0:Nat} {w0:World} {ds:List Deferred} {ops:Array Oper} {Q:Exit→Act→World→Prop} {L:List SA}
 {rest:List Oper} {l:List Value}
theorem Js2 (l:List Value) (v:Value):(Act.mk l.toArray ds).put none v=⟨l.toArray,ds⟩:=rfl
end
theorem Ju4 {α β:Type} [Inhabited α] (f:α→β) {l m:List α} {i:Int} (hi:¬ i < l.length) (hl:l.length=m.length) (h:∀ j:Int,0≤j→j < i→f (nth l j)=f (nth m j)):l.map f=m.map f:=by
 apply List.ext_getElem (by simp [hl])
 intro k h1 h2
 have h3:k < l.length:=by simpa using h1
 have h4:k < m.length:=by omega
 have:=h k (by omega) (by omega)
 simpa [nth,List.getD,h3,h4] using this
def Jc6 (G:GP) (l:List Entr):Int × List (List Int) × PX:=if (Jae G l).1=0 then (0,Jdz G l (Jaz G),(Jae G l).2.2.x) else ((Jae G l).1,[],noP)
section
variable {α:Type} (key:α→Int)
def Jdf:List α→List α→List α
 | [],b=>b
 | x::a,[]=>x::a
 | x::a,y::b=>if key x≤key y then x::Jdf a (y::b) else y::Jdf (x::a) b
termination_by a b=>a.length+b.length
variable {key}
theorem Jgb (b:List α):Jdf key [] b=b:=by unfold Jdf; rfl
theorem Jgh (a:List α):Jdf key a []=a:=by cases a <;> unfold Jdf <;> rfl
theorem Jkn {x y:α} {a b:List α} (h:key x≤key y):Jdf key (x::a) (y::b)=x::Jdf key a (y::b):=by
 rw [Jdf,if_pos h]
theorem Jjy {x y:α} {a b:List α} (h:¬ key x≤key y):Jdf key (x::a) (y::b)=y::Jdf key (x::a) b:=by
 rw [Jdf,if_neg h]
theorem Jgs {z:α}:∀ (a b:List α),z∈Jdf key a b→z∈a∨z∈b
 | [],b,h=>by rw [Jgb] at h; exact .inr h
 | x::a,[],h=>by rw [Jgh] at h; exact .inl h
 | x::a,y::b,h=>by
  by_cases hk:key x≤key y
  ·
   rw [Jkn hk] at h
   rcases List.mem_cons.1 h with rfl | h
   ·
    exact .inl List.mem_cons_self
   rcases Jgs a (y::b) h with h | h
   ·
    exact .inl (List.mem_cons_of_mem _ h)
   exact .inr h
  rw [Jjy hk] at h
  rcases List.mem_cons.1 h with rfl | h
  ·
   exact .inr List.mem_cons_self
  rcases Jgs (x::a) b h with h | h
  ·
   exact .inl h
  exact .inr (List.mem_cons_of_mem _ h)
termination_by a b=>a.length+b.length
theorem Jig:∀ (a b:List α),Srt key a→Srt key b→Srt key (Jdf key a b)
 | [],b,_,h=>by rw [Jgb]; exact h
 | x::a,[],h,_=>by rw [Jgh]; exact h
 | x::a,y::b,h1,h2=>by
  have q1:=List.pairwise_cons.1 h1
  have q2:=List.pairwise_cons.1 h2
  by_cases hk:key x≤key y
  ·
   rw [Jkn hk]
   refine List.pairwise_cons.2 ⟨fun z hz=>?_,Jig a (y::b) q1.2 h2⟩
   rcases Jgs _ _ hz with hz | hz
   ·
    exact q1.1 z hz
   rcases List.mem_cons.1 hz with rfl | hz
   ·
    exact hk
   have:=q2.1 z hz; omega
  rw [Jjy hk]
  refine List.pairwise_cons.2 ⟨fun z hz=>?_,Jig (x::a) b h1 q2.2⟩
  rcases Jgs _ _ hz with hz | hz
  ·
   rcases List.mem_cons.1 hz with rfl | hz
   ·
    omega
   have:=q1.1 z hz; omega
  exact q2.1 z hz
termination_by a b=>a.length+b.length
theorem Jis:∀ (a b:List α),Srt key a→Srt key b→Eqv key (a++b) (Jdf key a b)
 | [],b,_,h=>by rw [Jgb]; exact Eqv.refl _
 | x::a,[],h,_=>by rw [Jgh,List.append_nil]; exact Eqv.refl _
 | x::a,y::b,h1,h2=>by
  have q1:=List.pairwise_cons.1 h1
  have q2:=List.pairwise_cons.1 h2
  by_cases hk:key x≤key y
  ·
   rw [Jkn hk]; exact (Jis a (y::b) q1.2 h2).cons
  rw [Jjy hk]
  have e:Eqv key (x::a++y::b) (y::(x::a++b)):=by
   have q:Eqv key (x::a++[y]) ([y]++(x::a)):=Eqv.swap fun u hu v hv e=>by
    rw [List.mem_singleton.1 hv] at e
    rcases List.mem_cons.1 hu with rfl | hu
    ·
     omega
    have:=q1.1 u hu; omega
   have:=q.app (Eqv.refl b)
   simpa using this
  exact e.trans (Jis (x::a) b h1 q2.2).cons
termination_by a b=>a.length+b.length
theorem Jn4 {a b M:List α} (ha:Srt key a) (hb:Srt key b) (hM:Srt key M) (he:Eqv key (a++b) M):M=Jdf key a b :=
 Jpr hM (Jig a b ha hb) (he.symm.trans (Jis a b ha hb))
end
section
variable {α:Type} [Inhabited α] {key:α→Int}
def srtB (key:α→Int) (l:List α):Bool:=(List.range (l.length - 1)).all fun k=>decide (key (nth l (k:Int))≤key (nth l ((k:Int)+1)))
theorem Jwm {l:List α} (h:∀ k:Int,0≤k→k+1 < l.length→key (nth l k)≤key (nth l (k+1))):Srt key l:=by
 refine List.pairwise_iff_getElem.2 fun i j hi hj hij=>?_
 have step:∀ d:Nat,∀ i:Nat,i+d < l.length→key (nth l (i:Int))≤key (nth l ((i+d:Nat):Int)):=fun d=>by
  induction d with
  | zero=>intro i _; exact Int.le_refl _
  | succ d ih =>
   intro i hi
   have h1:=ih i (by omega)
   have h2:=h ((i+d:Nat):Int) (by omega) (by omega)
   rw [show ((i+d:Nat):Int)+1=((i+(d+1):Nat):Int) by omega] at h2
   omega
 have h3:=step (j - i) i (by omega)
 rw [show i+(j - i)=j by omega] at h3
 simpa [nth,List.getD,hi,hj] using h3
theorem Jgr {l:List α}:srtB key l=true ↔ Srt key l:=by
 unfold srtB
 rw [List.all_eq_true]
 constructor
 ·
  intro h
  refine Jwm fun k k0 k1=>?_
  have h1:=h k.toNat (List.mem_range.2 (by omega))
  rw [show ((k.toNat:Nat):Int)=k by omega] at h1
  simpa using h1
 intro h k hk
 have hk:=List.mem_range.1 hk
 simpa using Jem h (show (0:Int)≤(k:Int) by omega) (show (k:Int)≤k+1 by omega) (by omega)
theorem J5y {l:List α} {k:Int} (h0:0≤k) (h1:k+1 < l.length) (h:¬ key (nth l k)≤key (nth l (k+1))):srtB key l=false:=by
 rw [← Bool.not_eq_true,Jgr]
 exact fun hs=>h (Jem hs h0 (by omega) h1)
theorem J0j {l:List α} (h:∀ k:Int,0≤k→k+1 < l.length→key (nth l k)≤key (nth l (k+1))):srtB key l=true:=Jgr.2 (Jwm h)
end
section
variable {P:Program} {ro:Option Nat} {n0:Nat} {w0:World} {ds:List Deferred} {ops:Array Oper} {Q:Exit→Act→World→Prop} {L:List SA} {rest:List Oper} {l:List Value} {d:Option Tmp} {ty:TypeId} {ps:String} {af:Array Edge} {g:Option (Nat × Bool)} {D:World→Prop}
theorem Jts {T e:TypeId} {a b:Nat} {x:Operand} {v:Value} {c:Nat} (hT:sl P T=some (e,a,b)) (hx:evo l x=some v) (hs:∃ p n,v = .slice p n c) :
  Det P D ⟨d,.call ⟨.builtin .cap, #[x], #[T]⟩,ty,ps,af,g⟩ l (.int .i64 c):=fun u _=>by
 obtain ⟨inf,hu1,_⟩:=Jcz hT
 obtain ⟨p,n,rfl⟩:=hs
 replace hx:=Jar hx
 simp [execOp,Jaq,hx,resolve,invoke,builtin,Builtin.cap_,run_underlying hu1,goInt,IntWalk.i64_in]
theorem St.oslTo {e:TypeId} {k n m:Nat} {v:Value} {xs:List Value} {u:World} (hm:m≤n) (h:St n0 w0 (osl e k v n xs::L) u) :
  St n0 w0 (osl e k (sub2 k v 0 m) m (xs.take (m * k))::L) u:=by
 obtain ⟨h1,h2,T,h3,⟨hS,hl,h4⟩,h5⟩:=h
 have hle:m * k≤n * k:=Nat.mul_le_mul_right _ hm
 rcases h4 with ⟨rfl,rfl⟩ | ⟨b,cap,cur,rfl,hb,hg,hc,hx,hs,ht⟩
 ·
  have hm0:m=0:=by omega
  subst hm0
  refine ⟨h1,h2,T,h3,⟨fun k=>by rw [hS k]; simp [sub2,Value.ownBlock],by simp,.inl ⟨by simp [sub2],rfl⟩⟩,h5⟩
 have hv:sub2 k (.slice (some ⟨b,0,none⟩) n cap) 0 m = .slice (some ⟨b,0,none⟩) m cap:=by simp [sub2,Jce]
 rw [hv]
 refine ⟨h1,h2,T,h3,⟨fun k=>by rw [hS k]; simp [Value.ownBlock],by rw [List.length_take,hl]; omega,.inr ⟨b,cap,cur,rfl,hb,hg,by omega,hx,hs,?_⟩⟩,h5⟩
 rw [← ht,List.take_take,Nat.min_eq_left hle]
theorem Jr8 {k lo hi:Nat} {v:Value} (h:v.oneCell'=true):(sub2 k v lo hi).oneCell'=true:=by
 cases v <;> simp_all [sub2,Value.oneCell']
theorem WS.appendMade {T T2 e:TypeId} {size by_ i:Nat} {x y:Operand} {n:Int} {zc:List Value} (hT:sl P T=some (e,size,by_)) (hT2:P.underlying T2=some (.int .i64)) (hz:zv P e=some zc) (hzl:zc.length=size) (hs0:0 < size)
  (hx:evo l x=some (.slice none 0 0)) (hy:evo l y=some (.int .i64 n)) (h0:0 < n) (hm:n≤1000000) (hb:by_≤1000) {l':Nat→Nat→List Value} (hl:∀ b c,lset l i (.slice (some ⟨b,0,none⟩) n.toNat c)=some (l' b c))
  (k:∀ b c xs,n.toNat≤c→WS P ro n0 w0 ds ops Q (osl e size (.slice (some ⟨b,0,none⟩) n.toNat c) n.toNat xs::L) rest (l' b c)) :
  WS P ro n0 w0 ds ops Q L (⟨some i,.call ⟨.builtin .append, #[x,y], #[T,T2]⟩,ty,ps,af,none⟩::rest) l:=by
 (replace hx:=Jar hx; replace hy:=Jar hy)
 refine WS.world rfl rfl fun u hu=>?_
 obtain ⟨inf,hu1,hi,hs,hby⟩:=Jcz hT
 unfold zv at hz
 rw [hi] at hz
 cases hz2:inf.zero with
 | none=>simp [hz2] at hz
 | some zz =>
  simp [hz2] at hz
  have hbs:n.toNat * by_≤1000000 * 1000:=Nat.mul_le_mul (by omega) hb
  have hr:=Lib.run_append_grow_zeros u T T2 ty e inf zz .i64 .i64 hu1 hT2 hi hz2 none 0 0 [] (by simpa using run_firstCells_none u.drew inf.size 0 0 0) n.toNat (by omega) (by omega) (by omega) (by omega) (by rw [hby]; omega)
   (growslice_fits (by omega) (by rw [hby,Nat.zero_add]; omega))
  rw [Nat.zero_add,show ((n.toNat:Nat):Int)=n by omega,show ([]:List Value).toArray = #[] from rfl,Array.empty_append] at hr
  refine ⟨_,_,by simp [execOp,resolve,invoke,builtin,hx,hy,hr]; exact ⟨rfl,rfl⟩,?_⟩
  rw [Ja7,Jao (hl _ _)]
  have hge:=grownCap_ge u n.toNat 0 e
  have hcm:=grownCap_le_maxLen u n.toNat 0 e (by unfold maxLen; omega)
  obtain ⟨cp,hcp⟩:∃ cp,cp=grownCap u n.toNat 0 e:=⟨_,rfl⟩
  rw [← hcp] at hge hcm ⊢
  have hzs:zz.cells.size=size:=by rw [← hzl, ← hz]; simp
  have hlen:(Builtin.zeroCells zz.cells n.toNat++Builtin.zeroCells zz.cells (cp - n.toNat)).size=cp * size:=by
   simp [Builtin.zeroCells,hzs]
   rw [← Nat.add_mul]; congr 1; omega
  refine k _ cp ((Builtin.zeroCells zz.cells n.toNat++Builtin.zeroCells zz.cells (cp - n.toNat)).toList.take (n.toNat * size)) hge _ (hu.cons (T:=fun k=>k=u.heap.size) (((Below.refl _ u).drew).alloc (Nat.le_refl _) _) ⟨?_,?_,.inr ⟨u.heap.size,cp,_,rfl,Nat.zero_le _,World.alloc_heap_new u.drew _,hge,hcm,hlen,rfl⟩⟩ (fun k hk=>by omega))
  ·
   intro k; simp [Value.ownBlock]; exact eq_comm
  rw [List.length_take,Array.length_toList,hlen]
  exact Nat.min_eq_left (Nat.mul_le_mul_right _ hge)
theorem WS.clearTail {T e:TypeId} {k by_ j n:Nat} {i:Int} {x:Operand} {v:Value} {zc xs:List Value} (hT:sl P T=some (e,k,by_)) (hz:zv P e=some zc) (hzl:zc.length=k) (h1:∀ a∈zc,a.oneCell'=true) (hk0:0 < k)
  (hx:evo l x=some (sub2 k v i.toNat n)) (hj:L[j]? = some (osl e k v n xs)) (h0:0≤i) (hi:i≤n)
  {L':List Value→List SA} (hL:∀ xs',lset L j (osl e k v n xs')=some (L' xs')) (kk:∀ xs',xs'.take (i.toNat * k)=xs.take (i.toNat * k)→WS P ro n0 w0 ds ops Q (L' xs') rest l) :
  WS P ro n0 w0 ds ops Q L (⟨none,.call ⟨.builtin .clear, #[x], #[T]⟩,ty,ps,af,none⟩::rest) l:=by
 replace hx:=Jar hx
 refine WS.world rfl rfl fun u hu=>?_
 obtain ⟨inf,hu1,hi2,hs,hby⟩:=Jcz hT
 unfold zv at hz
 rw [hi2] at hz
 cases hz2:inf.zero with
 | none=>simp [hz2] at hz
 | some zz =>
  simp [hz2] at hz
  obtain ⟨S,hS,⟨hS1,hl,h2⟩,hupd⟩:=hu.upd hj
  have same:∀ q:List SA,L.set j (osl e k v n xs)=q→L=q:=fun q hq=>by
   rw [← hq]
   apply List.ext_getElem? fun m=>?_
   by_cases hm:j=m
   ·
    subst hm; rw [List.getElem?_set_self (List.getElem?_eq_some_iff.1 hj).1]; exact hj
   rw [List.getElem?_set_ne hm]
  by_cases hm0:n=i.toNat
  ·
   -- nothing to clear
   have hrun:(execOp (ev l) ⟨none,.call ⟨.builtin .clear, #[x], #[T]⟩,ty,ps,af,none⟩).run P u = .ok (.value (.tuple #[])) u:=by
    rcases h2 with ⟨rfl,hn⟩ | ⟨b,cap,cur,rfl,_⟩
    ·
     simp [execOp,resolve,invoke,builtin,hx,Builtin.clear_,run_underlying hu1,sub2, ← hm0,hn]
    simp only [sub2, ← hm0,Nat.sub_self] at hx
    split at hx <;> simp [execOp,resolve,invoke,builtin,hx,Builtin.clear_,run_underlying hu1]
   refine ⟨_,_,hrun,?_⟩
   rw [Js2]
   have h3:=kk xs rfl u
   rw [← same _ (Jao (hL xs))] at h3
   exact h3 hu
  rcases h2 with ⟨rfl,rfl⟩ | ⟨b,cap,cur,rfl,hb,hg,hn,hcap,hcur,htake⟩
  ·
   omega
  have hcl:¬ cap=i.toNat:=by omega
  simp only [sub2,if_neg hcl,Option.map_some,Jce,Nat.zero_add] at hx
  obtain ⟨zl,hzd⟩:∃ zl,zl=(Builtin.zeroCells zz.cells (n - i.toNat)).toList:=⟨_,rfl⟩
  have hzs:zz.cells.size=k:=by rw [← hzl, ← hz]; simp
  have hzll:zl.length=(n - i.toNat) * k:=by rw [hzd]; simp [Builtin.zeroCells,hzs]
  have hz1:∀ a∈zl,a.oneCell'=true:=fun a ha=>by
   rw [hzd] at ha
   simp only [Builtin.zeroCells,Array.toList_map,List.mem_map] at ha
   obtain ⟨q,_,rfl⟩:=ha
   have hq:q % zz.cells.size < zz.cells.size:=Nat.mod_lt _ (by omega)
   refine h1 _ ?_
   rw [← hz,getElem!_pos zz.cells _ hq]
   simp
  have hsum:i.toNat * k+(n - i.toNat) * k=n * k:=by rw [← Nat.add_mul]; congr 1; omega
  have hnk:n * k≤cap * k:=Nat.mul_le_mul_right _ hn
  have hik:i.toNat * k≤cap * k:=Nat.mul_le_mul_right _ (by omega)
  have htl:(cur.toList.take (i.toNat * k)++zl++cur.toList.drop (i.toNat * k+zl.length)).length=cap * k:=by
   rw [List.length_append,List.length_append,List.length_take,List.length_drop,Array.length_toList,hcur,hzll,Nat.min_eq_left hik]; omega
  have hst:=run_storeCells_at P b (i.toNat * k) e zl 0 cur u hg (by rw [hzll,hcur]; omega) hz1
  simp only [Nat.add_zero] at hst
  have hm1:∃ m,n - i.toNat=m+1:=⟨n - i.toNat - 1,by omega⟩
  obtain ⟨m,hm1⟩:=hm1
  refine ⟨.tuple #[],_,by rw [hm1] at hx hzd; simp [execOp,resolve,invoke,builtin,hx,Builtin.clear_,run_underlying hu1,zeroValue,typeInfo,hi2,hz2, ← hzd,hst]; rfl,?_⟩
  rw [Js2]
  refine kk ((cur.toList.take (i.toNat * k)++zl++cur.toList.drop (i.toNat * k+zl.length)).take (n * k)) ?_ _ ?_
  ·
   rw [← htake,List.take_take,List.take_take,Nat.min_eq_left (by omega),List.append_assoc,List.take_append_of_le_length (by rw [List.length_take,Array.length_toList,hcur]; omega),List.take_take,Nat.min_self]
  rw [← Jao (hL _)]
  have hb':=hS b ((hS1 b).2 rfl)
  refine hupd _ _ (fun k=>k=b) ⟨rfl,rfl,rfl,by simp,fun k hk=>setRow_other u b k _ (fun e=>by omega)⟩ (fun k hk o' hcell=>?_) ⟨fun k=>?_,?_,.inr ⟨b,cap,_,rfl,hb,setRow_heap u b cur _ e _ hg,hn,hcap,?_,?_⟩⟩ (fun k hk=>by subst hk; exact ⟨hb',.inl ((hS1 _).2 rfl)⟩)
  ·
   rw [setRow_other u b k _ (fun e=>hk.2.2 ((hS1 k).2 (by rw [e]; rfl)))]; exact hcell
  ·
   exact ⟨fun h=>by rw [h]; rfl,fun h=>by simpa [Value.ownBlock,eq_comm] using h⟩
  ·
   rw [List.length_take,htl]; omega
  ·
   rw [List.append_assoc] at htl
   rw [List.size_toArray,htl]
  simp
variable {α:Type} {C:Cel α}
theorem WS.appendTs {T e:TypeId} {by_ i j:Nat} {x y:Operand} {v:Value} {s:Sl α} {xs:List α} {zc:List Value} (hT:sl P T=some (e,C.k,by_)) (hz:zv P e=some zc) (hzl:zc.length=C.k) (hk:0 < C.k)
  (hx:evo l x=some v) (hj:L[j]? = some (oT C e v xs)) (hy:evo l y=some s.v) (hs:∀ u,St n0 w0 L u→SlT C u s) (h1:∀ a∈Jau C s.l,a.oneCell'=true)
  (hm:xs.length+s.l.length≤9223372036854775807) (hb:(xs.length+s.l.length) * by_≤140737488355328)
  {l':Value→List Value} (hl:∀ v,lset l i v=some (l' v)) {L':Value→List SA} (hL:∀ v',lset L j (oT C e v' (xs++s.l))=some (L' v')) (k:∀ v',v'.oneCell'=true→WS P ro n0 w0 ds ops Q (L' v') rest (l' v')) :
  WS P ro n0 w0 ds ops Q L (⟨some i,.call ⟨.builtin .append, #[x,y], #[T,T]⟩,ty,ps,af,none⟩::rest) l:=by
 refine WS.append (j:=j) (n:=xs.length) (m:=s.l.length) (xs:=Jau C xs) (news:=Jau C s.l) hT hz hzl hk hx hj hy (fun u hu=>(hs u hu).sp) h1 hm hb hl (L':=L') (fun v'=>?_) fun v'=>?_
 ·
  rw [← hL v',oT,Jc2,List.length_append]
 intro u hu
 have hj2:(L' v')[j]? = some (oT C e v' (xs++s.l)):=by
  rw [← Jao (hL v')]; exact List.getElem?_set_self (List.getElem?_eq_some_iff.1 hj).1
 obtain ⟨_,p,cap,hv,_⟩:=Jbx hu hj2
 exact k v' (by rw [hv]; rfl) u hu
end
def catL {α:Type} (l:List (Sl α)):List α:=(l.map Sl.l).flatten
section
variable {α:Type} {l:List (Sl α)}
theorem Jmc {s:Int} (h0:0≤s) (h1:s < l.length):catL (l.take (s+1).toNat)=catL (l.take s.toNat)++(nth l s).l:=by
 rw [Jby h0 h1]; simp [catL]
theorem Jz8 (n:Nat):(catL (l.take n)).length≤(catL l).length:=by
 have h:catL l=catL (l.take n)++catL (l.drop n):=by
  unfold catL
  rw [← List.flatten_append, ← List.map_append,List.take_append_drop]
 rw [h,List.length_append]; omega
end
section
variable {α:Type} [Inhabited α] {d:α→Bool}
theorem J7b (p:α→Bool) (xs:List α):(idxF p xs = -1∧∀ j:Int,0≤j→j < xs.length→p (nth xs j)=false)∨(0≤idxF p xs∧idxF p xs < xs.length∧p (nth xs (idxF p xs))=true∧∀ j:Int,0≤j→j < idxF p xs→p (nth xs j)=false):=by
 have h:∀ n:Nat,n≤xs.length→(∀ j:Int,0≤j→j < n→p (nth xs j)=false)∨∃ i:Int,0≤i∧i < n∧p (nth xs i)=true∧∀ j:Int,0≤j→j < i→p (nth xs j)=false:=fun n=>by
  induction n with
  | zero=>intro _; left; intro j h0 h1; omega
  | succ n ih =>
   intro hn
   rcases ih (by omega) with h | ⟨i,h0,h1,h2,h3⟩
   ·
    cases hp:p (nth xs (n:Int))
    ·
     left; intro j h0 h1
     by_cases hj:j=n
     ·
      rw [hj]; exact hp
     exact h j h0 (by omega)
    right; exact ⟨n,by omega,by omega,hp,h⟩
   right; exact ⟨i,h0,by omega,h2,h3⟩
 rcases h xs.length (Nat.le_refl _) with h | ⟨i,h0,h1,h2,h3⟩
 ·
  left; exact ⟨Jbe h,h⟩
 right
 rw [Ja3 h0 h1 h3 h2]
 exact ⟨h0,h1,h2,h3⟩
end
end Go.Proofs.YtbboikncaihafaaGreatDoor
namespace Go.Proofs.YtbboikncaihafaaGreatDoor
set_option linter.unusedVariables false
set_option linter.unusedSimpArgs false
open Go.RowKit Go.Proofs
section
variable {P:Program} {n0:Nat} {w0:World} {L:List SA} {l:List Value} {d:Option Tmp} {ty:TypeId} {ps:String} {af:Array Edge} {g:Option (Nat × Bool)} {C:World→Prop}
theorem Jwc {T e:TypeId} {k by_ n c:Nat} {x z:Operand} {p:Option Addr} {hi:Int} (hT:sl P T=some (e,k,by_)) (hx:evo l x=some (.slice p n c)) (hz:evo l z=some (.int .i64 hi))
  (h1:0≤hi) (h2:hi≤c):Det P C ⟨d,.slice T x none (some z) none,ty,ps,af,g⟩ l (sub2 k (.slice p n c) 0 hi.toNat):=fun u _=>by
 obtain ⟨inf,hu,hi',hk,_⟩:=Jcz hT
 replace hx:=Jar hx
 replace hz:=Jar hz
 have e1:(0≤hi∧hi≤(c:Int)):=by omega
 have e3:0≤max hi 0:=by omega
 simp [execOp,Jaq,hx,hz,Instr.sliceAt,Instr.slice,Instr.sliceBounds,Instr.sliceBound,asIntOf,run_underlying hu,e1,e3,sizeOf,typeInfo,hi',hk,sub2]
end
section
variable {α:Type} [Inhabited α] {d:α→Bool} {xs ys:List α} {i j:Int}
theorem DelI.gone (h:DelI d xs ys i j) (hj:j < xs.length) (hd:d (nth ys j)=true):DelI d xs ys i (j+1):=by
 have h0:=h.i0; have h1:=h.ij; have h2:=h.len
 refine ⟨h0,by omega,by omega,h2,?_,?_⟩
 ·
  rw [Jkz (by omega) hj, ← h.at hj,if_pos hd,List.append_nil,h.tk]
 have e1:=Jat (xs:=ys) (s:=j) (by omega) (by omega)
 rw [h.dp,Jat (by omega) hj] at e1
 exact (List.cons.inj e1).2.symm
omit [Inhabited α] in
end
section
variable {n0:Nat} {w0:World} {L:List SA} {u:World} {α:Type} {C:Cel α}
theorem St.oTtake {e:TypeId} {v:Value} {n i:Nat} {ys zs:List α} {xs':List Value} (h:St n0 w0 (osl e C.k v n xs'::L) u) (hi:i≤n) (hn:n=ys.length) (hx:xs'.take (i * C.k)=(Jau C ys).take (i * C.k)) (hz:ys.take i=zs) :
  St n0 w0 (oT C e (sub2 C.k v 0 i) zs::L) u:=by
 have h2:=h.oslTo hi
 rw [hx, ← Jil,hz] at h2
 have hl:zs.length=i:=by rw [← hz,List.length_take]; omega
 unfold oT
 rw [hl]
 exact h2
end
end Go.Proofs.YtbboikncaihafaaGreatDoor
namespace Go.Proofs.YtbboikncaihafaaGreatDoor
open Go.Proofs
theorem zv33:zv Tryz.prog 33=some [.slice none 0 0]:=by kernel_rfl
theorem Kdd:Ent Tryz.prog 22:=Jaa Tryz.func22 (by kernel_rfl) rfl
theorem Jk6:Ent Tryz.prog 25:=Jaa Tryz.func25 (by kernel_rfl) rfl
theorem Kdc:Ent Tryz.prog 27:=Jaa Tryz.func27 (by kernel_rfl) rfl
theorem Kc1:Ent Tryz.prog 33:=Jaa Tryz.func33 (by kernel_rfl) rfl
theorem Kcd:Ent Tryz.prog 34:=Jaa Tryz.func34 (by kernel_rfl) rfl
theorem Kcp:Ent Tryz.prog 35:=Jaa Tryz.func35 (by kernel_rfl) rfl
theorem Jja:Ent Tryz.prog 36:=Jaa Tryz.func36 (by kernel_rfl) rfl
theorem Jm5:Ent Tryz.prog 37:=Jaa Tryz.func37 (by kernel_rfl) rfl
theorem J45:Ent Tryz.prog 67:=Jaa Tryz.func67 (by kernel_rfl) rfl
theorem J8i:Ent Tryz.prog 69:=Jaa Tryz.func69 (by kernel_rfl) rfl
theorem Kcw:Ent Tryz.prog 70:=Jaa Tryz.func70 (by kernel_rfl) rfl
theorem Kdg:Ent Tryz.prog 71:=Jaa Tryz.func71 (by kernel_rfl) rfl
theorem Kc4:Ent Tryz.prog 84:=Jaa Tryz.func84 (by kernel_rfl) rfl
theorem Kc8:Ent Tryz.prog 85:=Jaa Tryz.func85 (by kernel_rfl) rfl
theorem Kch:Ent Tryz.prog 86:=Jaa Tryz.func86 (by kernel_rfl) rfl
theorem J99:Ent Tryz.prog 88:=Jaa Tryz.func88 (by kernel_rfl) rfl
theorem J92:Ent Tryz.prog 132:=Jaa Tryz.func132 (by kernel_rfl) rfl
theorem J9i:Ent Tryz.prog 133:=Jaa Tryz.func133 (by kernel_rfl) rfl
theorem J7z:Ent Tryz.prog 140:=Jaa Tryz.func140 (by kernel_rfl) rfl
theorem J4d:Ent Tryz.prog 175:=Jaa Tryz.func175 (by kernel_rfl) rfl
theorem Jsi:Ent Tryz.prog 176:=Jaa Tryz.func176 (by kernel_rfl) rfl
theorem J8k:Ent Tryz.prog 219:=Jaa Tryz.func219 (by kernel_rfl) rfl
theorem Jwz:Ent Tryz.prog 249:=Jaa Tryz.func249 (by kernel_rfl) rfl
end Go.Proofs.YtbboikncaihafaaGreatDoor
set_option maxHeartbeats 8000000
namespace Go.Proofs.YtbboikncaihafaaGreatDoor
open Go.RowKit Go.Proofs
set_option maxRecDepth 100000
set_option linter.unusedVariables false
set_option linter.unusedSimpArgs false
theorem J9q {α β:Type} [Inhabited α] {f:α→β} {l m:List α} (h:l.map f=m.map f) (i:Int):f (nth l i)=f (nth m i):=by
 have h2:=congrArg (fun q:List β=>q[i.toNat]?) h
 simp only [List.getElem?_map] at h2
 unfold nth
 simp only [List.getD]
 cases h3:l[i.toNat]? <;> cases h4:m[i.toNat]? <;> simp_all
def Jfp:List Entr→List Entr→Int→Int
 | [],[],_ => -1
 | x::xs,y::ys,i=>if x=y then Jfp xs ys (i+1) else i
 | [],_::_,i=>i
 | _::_,[],i=>i
theorem Jrq:∀ (xs ys:List Entr) (i:Int),0≤i→(Jfp xs ys i < 0 ↔ xs=ys)
 | [],[],i,h=>by simp [Jfp]
 | x::xs,y::ys,i,h=>by
  unfold Jfp
  by_cases e:x=y
  ·
   rw [if_pos e,Jrq xs ys (i+1) (by omega),e]; simp
  rw [if_neg e]
  constructor
  ·
   intro q; omega
  intro q; exact absurd (List.cons.inj q).1 e
 | [],y::ys,i,h=>by simp [Jfp]; omega
 | x::xs,[],i,h=>by simp [Jfp]; omega
theorem Juw {xs ys:List Entr} {s:Int} (h0:0≤s) (h1:s < xs.length) (h2:s < ys.length) (he:nth xs s=nth ys s):Jfp (xs.drop s.toNat) (ys.drop s.toNat) s=Jfp (xs.drop (s+1).toNat) (ys.drop (s+1).toNat) (s+1):=by
 rw [Jat h0 h1,Jat h0 h2,Jfp,if_pos he]
theorem J16 {xs ys:List Entr} {s:Int} (h0:0≤s) (h1:s < xs.length) (h2:s < ys.length) (he:¬ nth xs s=nth ys s):Jfp (xs.drop s.toNat) (ys.drop s.toNat) s=s:=by
 rw [Jat h0 h1,Jat h0 h2,Jfp,if_neg he]
theorem Jnv {xs ys:List Entr} {s:Int} (h0:0≤s) (h:(s < xs.length∧¬ s < ys.length)∨(¬ s < xs.length∧s < ys.length)):Jfp (xs.drop s.toNat) (ys.drop s.toNat) s=s:=by
 rcases h with ⟨h1,h2⟩ | ⟨h1,h2⟩
 ·
  rw [Jat h0 h1,List.drop_of_length_le (l:=ys) (by omega),Jfp]
 rw [Jat h0 h2,List.drop_of_length_le (l:=xs) (by omega),Jfp]
theorem Jw7 {xs ys:List Entr} {s:Int} (h1:¬ s < xs.length) (h2:¬ s < ys.length):Jfp (xs.drop s.toNat) (ys.drop s.toNat) s = -1:=by
 rw [List.drop_of_length_le (l:=xs) (by omega),List.drop_of_length_le (l:=ys) (by omega),Jfp]
theorem Kah (x y:Sl Entr) (w:World) (hx:SlT cEntry w x) (hy:SlT cEntry w y) :
  Calls Tryz.prog 27 #[x.v,y.v] w (RetB w (.int .i64 (Jfp x.l y.l 0))):=by
 have lx:=hx.le
 have ly:=hy.le
 refine enter Tryz.func27 rfl rfl (Nat.le_of_ble_eq_true rfl) ?_
 refine Nz 1 ?_
 refine Wd (Qc (Cs (Nz 1 ?_)))
 refine Wd (Qc (Ce ?_))
 refine CS.loopM (σ:=Int) [4,6,7,8,9,10,11,12,13,14,15,16,17,18,19,20,21,22,23,24,25,26,27,28,29,30,31,32,33,34,35,36,37,38,39] (fun s=>[(5,.int .i64 s)]) (fun _=>_) (fun s=>0≤s∧s≤x.l.length∧s≤y.l.length∧Jfp x.l y.l 0=Jfp (x.l.drop s.toNat) (y.l.drop s.toNat) s) (fun s=>(x.l.length - s).toNat) 0 (fun _ _=>rfl) rfl rfl ⟨by omega,by omega,by omega,by simp⟩ ?_
 intro s t hs
 obtain ⟨hs1,hs2,hs3,hs4⟩:=hs
 refine Cs (Nz 2 ?_)
 refine Wk 2 Nc ?_
 refine Wf 0 rfl rfl (fun hg=>Fm) ?_
 refine Wf 0 rfl rfl (fun hg=>Fm) ?_
 refine Wf 0 rfl rfl (fun hg=>Nc (eg_ hg rfl)) ?_
 refine Wf 0 rfl rfl (fun hg=>Fl) ?_
 refine Wk 0 Po ?_
 refine Wd (Qc (CS.cond rfl ?_ ?_))<;>intro hc1<;>try simp only [bq] at hc1
 ·
  refine Ck (Qc (Cs (Ce (Cs (Dr Jah 2 ?_)))))
  refine Dk 2 Nc ?_
  refine Df 0 rfl rfl (fun hg=>Fm) ?_
  refine Df 0 rfl rfl (fun hg=>Fm) ?_
  refine Df 0 rfl rfl (fun hg=>Nc (eg_ hg rfl)) ?_
  refine Df 0 rfl rfl (fun hg=>Fh) ?_
  refine Dk 1 Po ?_
  refine Df 0 rfl rfl (fun hg=>Fm) ?_
  refine Df 0 rfl rfl (fun hg=>Fm) ?_
  refine Df 0 rfl rfl (fun hg=>Xc (eg_ hg rfl)) ?_
  refine Df 0 rfl rfl (fun hg=>Ua) ?_
  refine Df 0 rfl rfl (fun hg=>Fm) ?_
  refine Df 0 rfl rfl (fun hg=>Fm) ?_
  refine Df 0 rfl rfl (fun hg=>Xc (eg_ hg rfl)) ?_
  refine Df 0 rfl rfl (fun hg=>Ua) ?_
  refine Df 0 rfl rfl (fun hg=>Jew Jfi (eg_ hg rfl) (eg_ hg rfl) (Jde (nth x.l s) (nth y.l s))) ?_
  refine Dk 0 Po ?_
  refine Dd (Qc (CS.cond rfl ?_ ?_))<;>intro hc2<;>try simp only [bq] at hc2
  ·
   refine Nz 2 ?_
   refine Wd (Qc (Cr (Qs (Qr (Qr (Qs (Qr ?_)))))))
   exact out1 rfl rfl (Jab (by
      rw [hs4]
      by_cases h1:s < (x.l.length:Int)
      ·
       by_cases h2:s < (y.l.length:Int)
       ·
        rw [J16 hs1 h1 h2 (by grind)]
       rw [Jnv hs1 (.inl ⟨h1,h2⟩)]
      rw [Jnv hs1 (.inr ⟨h1,by grind⟩)]))
  have hbb:(s < (x.l.length:Int)∧s < (y.l.length:Int))∧nth x.l s=nth y.l s:=by grind
  refine Ck (Qb (Qc (Ny 1 ?_)))
  refine Wk 1 Za ?_
  exact Wd (QS.head (s+1) rfl rfl ⟨⟨by omega,by omega,by omega,by rw [hs4,Juw hs1 hbb.1.1 hbb.1.2 hbb.2]⟩,by omega⟩)
 refine Cv (Qe (Qe (Qx (Qc (Nz 1 ?_)))))
 exact Wd (Qc (Cr (out1 rfl rfl (Jab (by rw [hs4,Jw7 (by omega) (by omega)])))))
theorem Jgx (x y:Sl Entr) (w:World) (hx:SlT cEntry w x) (hy:SlT cEntry w y) :
  Calls Tryz.prog 25 #[x.v,y.v] w (RetB w (.bool (decide (x.l=y.l)))):=by
 refine enter Tryz.func25 rfl rfl (Nat.le_of_ble_eq_true rfl) ?_
 refine Nz 1 ?_
 refine Wd (Qc (Nz 2 ?_))
 refine Wk 2 (Cb rfl rfl Kdc (fun u hu=>Kah _ _ u (hx.st hu) (hy.st hu))) ?_
 exact Wd (Qc (Cr (out1 rfl rfl (Jab (congrArg Value.bool (decide_eq_decide.2 (Jrq _ _ _ (Int.le_refl 0))))))))
theorem Jcu (x y:Sl (Sl Int)) (w:World) (hx:SlT (cSl cInt) w x) (hy:SlT (cSl cInt) w y) :
  Calls Tryz.prog 37 #[x.v,y.v] w (RetB w (.bool (decide (x.l.map Sl.l=y.l.map Sl.l)))):=by
 have lx:=hx.le
 have ly:=hy.le
 refine enter Tryz.func37 rfl rfl (Nat.le_of_ble_eq_true rfl) ?_
 refine Nz 1 ?_
 refine Wd (Qc (Cs (Nz 1 ?_)))
 refine Wk 1 Nc ?_
 refine Wk 1 Nc ?_
 refine Wd (Qc (CS.cond rfl ?_ ?_))<;>intro hc1<;>try simp only [bq] at hc1
 ·
  refine Nz 1 ?_
  exact Wd (Qc (Cr (Qr (out1 rfl rfl (Jab (Jls fun h=>hc1 (by have h9:=congrArg List.length h; simp only [List.length_map] at h9; omega)))))))
 refine Ck (Qc (Cs (Nz 1 ?_)))
 refine Wd (Qc (Ce ?_))
 refine CS.loopM (σ:=Int) [4,11,12,13,14,15,16,17,18,19,20,21,22,23,24,25,26] (fun s=>[(5,.int .i64 s)]) (fun _=>_) (fun s=>0≤s∧s≤x.l.length∧∀ j:Int,0≤j→j < s→(nth x.l j).l=(nth y.l j).l) (fun s=>(x.l.length - s).toNat) 0 (fun _ _=>rfl) rfl rfl ⟨by omega,by omega,fun j _ _=>by omega⟩ ?_
 intro a t hs
 obtain ⟨ha1,ha2,ha3⟩:=hs
 refine Cs (Nz 2 ?_)
 refine Wk 1 Nc ?_
 refine Wd (Qc (CS.cond rfl ?_ ?_))<;>intro hc2<;>try simp only [bq] at hc2
 ·
  have ax:SlI w (nth x.l a).v (nth x.l a).l:=(hx.at ha1 (by omega):SlT cInt w _).ints
  have ay:SlI w (nth y.l a).v (nth y.l a).l:=(hy.at ha1 (by omega):SlT cInt w _).ints
  refine Ck (Qc (Cs (Ce (Cs (Dr Jah 2 ?_)))))
  refine Dk 0 Xc ?_
  refine Dk 2 Ub ?_
  refine Dk 0 Xc ?_
  refine Dk 0 Ub ?_
  refine Dk 1 (Cb rfl rfl Kb0 (fun u hu=>Jli _ _ _ _ u (ax.st hu) (ay.st hu))) ?_
  refine Dd (Qc (CS.cond rfl ?_ ?_))<;>intro hc3<;>try simp only [bq] at hc3
  ·
   refine Nz 1 ?_
   exact Wd (Qc (Cr (Qs (Qr (Qr (Qs (Qr (out1 rfl rfl (Jab (Jls fun h=>hc3 (J9q h a)))))))))))
  refine Ck (Qb (Qc (Ny 1 ?_)))
  refine Wk 1 Za ?_
  refine Wd ?_
  exact QS.head (a+1) rfl rfl ⟨⟨by omega,by omega,fun j h0 h1=>by
     rcases (show j < a∨j=a by omega) with h | h
     ·
      exact ha3 j h0 h
     rw [h]; exact hc3⟩,by omega⟩
 refine Cv (Qe (Qe (Qx (Qc (Nz 1 ?_)))))
 exact Wd (Qc (Cr (out1 rfl rfl (Jab (Jvr (Ju4 Sl.l hc2 (by omega) ha3))))))
def Jvi (w:World) (V:Int × List (List Int) × PX):Ending→World→Prop:=fun e w'=>∃ c:Sl (Sl Int) × Pos,(c.1.l.map Sl.l=V.2.1∧c.2.x=V.2.2∧∃ u0,SlT (cSl cInt) u0 c.1∧PosOk u0 c.2) ∧
 RetF w (.tuple #[c.1.v,.agg #[c.2.st.ths.v,c.2.st.prs.v,c.2.st.pls.v,c.2.rd.v],.int .i64 V.1]) (roS fun u=>SlT (cSl cInt) u c.1∧PosOk u c.2) e w'
section
variable {P:Program} {n0:Nat} {w0:World} {L:List SA} {l:List Value} {fn:Func}
theorem Jld {b t b2 t2 t3:Nat} {ty ty2:TypeId} {v v2 v3:Value} (h:fn.results = #[.cell t ty,.cell t2 ty2,.tmp t3]) (h1:Rv P n0 w0 L l b t ty v) (h2:Rv P n0 w0 L l b2 t2 ty2 v2) (h3:l[t3]? = some v3):Res P fn l L n0 w0 (.tuple #[v,v2,v3]):=fun u hu=>by
 obtain ⟨a1,a2⟩:=Jrl h1 hu
 obtain ⟨b1,b2⟩:=Jrl h2 hu
 simp only [results,h]
 simp [Sem.run_bind,Result.andThen,a1,a2,b1,b2,h3]
end
theorem Jxm (u:World):PosOk u (Jmh noP):=⟨⟨SlT.nil cInt u,SlT.nil cInt u,SlT.nil cInt u⟩,SlT.nil cBool u⟩
theorem Ju0 {w0:World} {L:List SA} {V:Int × List (List Int) × PX} {v:Value} {acc:List (Sl Int)} {y:Pos} (h1:acc.map Sl.l=V.2.1) (h2:y.x=V.2.2) (hp:∀ S u,Star L S u→SlT (cSl cInt) u ⟨v,acc⟩∧PosOk u y) :
  ∀ u,St w0.heap.size w0 L u→Jvi w0 V (.returned (.tuple #[v,.agg #[y.st.ths.v,y.st.prs.v,y.st.pls.v,y.rd.v],.int .i64 V.1])) u:=fun u hu =>
 ⟨(⟨v,acc⟩,y),⟨h1,h2,u,hp _ _ hu.star⟩,retR hp u hu⟩
theorem Kbc {w0:World} {L:List SA} {i:Int}:∀ u,St w0.heap.size w0 L u→Jvi w0 (i,[],noP) (.returned (.tuple #[.slice none 0 0,.agg #[.slice none 0 0,.slice none 0 0,.slice none 0 0,.slice none 0 0],.int .i64 i])) u :=
 Ju0 (V:=(i,[],noP)) (y:=Jmh noP) (acc:=[]) rfl rfl fun _ u _=>⟨SlT.nil _ u,Jxm u⟩
section
variable {P:Program} {C:World→Prop} {l:List Value} {d:Option Tmp} {ty:TypeId} {ps:String} {af:Array Edge} {g:Option (Nat × Bool)}
theorem Jz6 {T T':TypeId} {x y:Operand} {qs rs:Array TypeId} {vd:Bool} (hx:evo l x=some .nilFunc) (hy:evo l y=some .nilFunc) (hT:P.underlying T=some (.func qs rs vd)) :
  Det P C ⟨d,.binOp .neq T x y T',ty,ps,af,g⟩ l (.bool false):=fun u _=>by
 (replace hx:=Jar hx; replace hy:=Jar hy)
 have h:∀ d:Nat,(Op.equalIn (d+1) T .nilFunc .nilFunc).run P u = .ok true u:=fun d=>by simp [Op.equalIn,run_underlying hT]
 simp [execOp,Jaq,hx,hy,eqGuard,binOp,Op.equal,Op.maxDepth,h 9999]
end
theorem J85 {w u:World} (R:SA) (G:Game) (hG:GameOk w G) (hn:NearG G) (g:Sl ByteArray) (hW:GOk w g) (fb:Nat) (y:Pos) (hyx:y.x=(Jag G.p).2) (hB:(Jag G.p).1=0) (l:Sl Entr) (hk:SlT cEntry w l) (hu:St w.heap.size w [blk fb [G.rm.pls.v,G.rm.ths.v,G.rm.prs.v,G.rm.wys.v,G.rm.acs.v,G.rm.aus.v,.int .i64 G.rm.ply,G.rm.gl.v,G.lks.v,G.cds.v,G.nts.v,.int .i64 G.tr,y.st.ths.v,y.st.prs.v,y.st.pls.v,y.rd.v,.bool (Jaz G.p).st,.int .i64 (Jaz G.p).si,.int .i64 (Jaz G.p).pa,.int .i64 (Jaz G.p).en,.int .i64 (Jaz G.p).hi] 166,roS fun u=>PosOk u y,R] u) :
  Calls Tryz.prog 87 #[.pointer (some ⟨fb,0,none⟩),l.v,.nilFunc] u (fun e u'=>∃ q:Pos × Film,(q.1.x=q.2.x∧(∃ u0,PosOk u0 q.1)∧((Jae G.p l.l).1=0→q.2=(Jae G.p l.l).2.2))∧e = .returned (.tuple #[.int .i64 (Jae G.p l.l).2.1,.int .i64 (Jae G.p l.l).1])∧St w.heap.size w [blk fb [G.rm.pls.v,G.rm.ths.v,G.rm.prs.v,G.rm.wys.v,G.rm.acs.v,G.rm.aus.v,.int .i64 G.rm.ply,G.rm.gl.v,G.lks.v,G.cds.v,G.nts.v,.int .i64 G.tr,q.1.st.ths.v,q.1.st.prs.v,q.1.st.pls.v,q.1.rd.v,.bool q.2.st,.int .i64 q.2.si,.int .i64 q.2.pa,.int .i64 q.2.en,.int .i64 q.2.hi] 166,roS fun u=>PosOk u q.1,R] u'):=by
 have lls:=hk.le
 have hyok:PosOk u y:=hu.ro (j:=1) rfl
 refine Jb0 hu Tryz.func87 rfl rfl (Nat.le_of_ble_eq_true rfl) ?_
 refine Nz 2 ?_
 refine Wd (Qc (Cs (Nz 1 ?_)))
 refine Wk 1 Nc ?_
 refine Wd (Qc (CS.cond rfl ?_ ?_))<;>intro hc1<;>try simp only [bq] at hc1
 ·
  have hfv:(Jae G.p l.l)=(2,0,Jaz G.p):=Jqa hB (by omega)
  refine Nz 2 ?_
  exact Wd (Qc (Cr (Qr (out2 rfl rfl rfl (fun u hu=>⟨(y,(Jaz G.p)),⟨hyx,⟨u,hu.ro (j:=1) rfl⟩,fun h9 ↦ by rw [hfv] at h9; simp at h9⟩,by rw [hfv],hu.sel [0,0,0] rfl⟩)))))
 have hL:¬ 500 < (l.l.length:Int):=by omega
 refine Ck (Qc (Nz 1 ?_))
 refine Wd (Qc (Cs (Nz 1 ?_)))
 refine Wk 1 Nc ?_
 refine Wd (Qc (Ce ?_))
 refine CS.loopM (σ:=Int × Pos × Film × Int × Unit) [6,7,9,10,17,18,19,20,21,22,23,24,25,26,27,28,29,30,31,32,33,34,35,36,37,38,39,40,41,42,43,44] (fun s=>[(16,.int .i64 s.1),(8,.int .i64 s.2.2.2.1)]) (fun s=>[blk fb [G.rm.pls.v,G.rm.ths.v,G.rm.prs.v,G.rm.wys.v,G.rm.acs.v,G.rm.aus.v,.int .i64 G.rm.ply,G.rm.gl.v,G.lks.v,G.cds.v,G.nts.v,.int .i64 G.tr,s.2.1.st.ths.v,s.2.1.st.prs.v,s.2.1.st.pls.v,s.2.1.rd.v,.bool s.2.2.1.st,.int .i64 s.2.2.1.si,.int .i64 s.2.2.1.pa,.int .i64 s.2.2.1.en,.int .i64 s.2.2.1.hi] 166,roS fun u=>PosOk u s.2.1,R]) (fun s=>0≤s.1∧s.1≤l.l.length∧(∃ u0,PosOk u0 s.2.1)∧s.2.1.x=s.2.2.1.x∧FilmOk G s.2.2.1 s.2.2.2.1 s.1∧Jcp G.p l.l 0 0 (Jaz G.p)=Jcp G.p (l.l.drop s.1.toNat) s.1 s.2.2.2.1 s.2.2.1) (fun s=>(l.l.length - s.1).toNat) (0,y,Jaz G.p,0,()) (fun _ _=>rfl) rfl rfl ⟨by simp,by simp,⟨_,hyok⟩,hyx,Jgn hB,by simp⟩ ?_
 intro s t hs
 obtain ⟨hs1,hs2,⟨us,hsok⟩,hs4,hs5,hs6⟩:=hs
 refine Nz 1 ?_
 refine Wd (Qc (Cs (CS.cond rfl ?_ ?_)))<;>intro hc2<;>try simp only [bq] at hc2
 ·
  refine Ck (Qc (Cs (Ce (Nz 1 ?_))))
  refine Wk 0 Xc ?_
  refine Wk 0 Ua ?_
  refine Wl 1 zv84 (fun _=>rfl) (fun _=>rfl) fun b10 hb10=>?_
  refine Wv 0 0 ?_
  refine Wd (Qc (Cs (Cs ?_)))
  rcases Bool.eq_false_or_eq_true (!(decide (s.2.2.2.1≤(nth l.l s.1).t) && decide ((nth l.l s.1).t≤1000000))) with hb | hb
  ·
   refine Ny 1 ?_
   refine Wk 1 (Ba 0) ?_
   refine Wk 1 (Cb rfl rfl Jk7 (fun u hu=>Jc3 _ _ _ u)) ?_
   refine Wk 0 (Jaw (v:=.bool true) (congrArg (fun b=>some (Value.bool b)) hb)) ?_
   refine Wf 0 rfl rfl (fun hg=>Fy_ (by cases hg)) ?_
   refine Wf 0 rfl rfl (fun hg=>Fy_ (by cases hg)) ?_
   refine Wf 0 rfl rfl (fun hg=>Fy_ (by cases hg)) ?_
   refine Wf 0 rfl rfl (fun hg=>Fz_ (by cases hg)) ?_
   refine Wk 0 Po ?_
   refine Wd (Qc (CS.cond rfl ?_ ?_))<;>intro hc3<;>try simp only [bq] at hc3
   ·
    have hTn:Jco s.2.2.2.1 (nth l.l s.1)=false:=by unfold Jco; simp at hb ⊢; omega
    have hbd:(Jco s.2.2.2.1 (nth l.l s.1) && (Ja2 G.p s.2.2.1 (nth l.l s.1)).isSome)=false:=by rw [hTn]; rfl
    have hfv:(Jae G.p l.l)=(120,s.1,Jaz G.p):=Jkx hB hL (by rw [hs6,Jat hs1 (by omega),Jgf hbd])
    refine Nz 3 ?_
    exact Wd (Qc (Cr (Qr (Qs (Qr (Qr (Qs (Qr (out2 rfl rfl rfl (fun u hu=>(by first | exact ⟨(s.2.1,s.2.2.1),⟨hs4,⟨u,hu.ro (j:=2) rfl⟩,fun h9 ↦ by rw [hfv] at h9; simp at h9⟩,by rw [hfv],hu.sel [1,1,1] rfl⟩ | exact ⟨(y2,f2),⟨hy2x,⟨u,hu.ro (j:=2) rfl⟩,fun h9 ↦ by rw [hfv] at h9; simp at h9⟩,by rw [hfv],hu.sel [1,1,1] rfl⟩)))))))))))
   exact absurd hc3 (by simp)
  have hT:Jco s.2.2.2.1 (nth l.l s.1)=true:=by unfold Jco; simpa using hb
  refine Ny 1 ?_
  refine Wk 1 (Ba 0) ?_
  refine Wk 1 (Cb rfl rfl Jk7 (fun u hu=>Jc3 _ _ _ u)) ?_
  refine Wk 0 (Jaw (v:=.bool false) (congrArg (fun b=>some (Value.bool b)) hb)) ?_
  refine Wf 0 rfl rfl (fun hg=>Fm) ?_
  refine Wf 0 rfl rfl (fun hg=>Bb 0) ?_
  refine WS.callSg (want:=false) (j:=5) rfl rfl rfl J3z (fun u hu=>Jsp [_] [_] G hG hn g hW fb s.2.1 s.2.2.1 hs4 (nth l.l s.1) s.2.2.2.1 s.1 hs5 hT (by omega) hu) (fun _=>rfl) ?_; rintro ⟨y2,f2⟩ ⟨hy2x,⟨uy2,hy2ok⟩,hf2⟩
  dsimp only at hf2 hy2x hy2ok
  refine Wf 0 rfl rfl (fun hg=>Fn) ?_
  refine Wk 0 Po ?_
  refine Wd (Qc (CS.cond rfl ?_ ?_))<;>intro hc3<;>try simp only [bq] at hc3
  ·
   have hbd:(Jco s.2.2.2.1 (nth l.l s.1) && (Ja2 G.p s.2.2.1 (nth l.l s.1)).isSome)=false:=by rw [hT,Bool.true_and]; simpa using hc3
   have hfv:(Jae G.p l.l)=(120,s.1,Jaz G.p):=Jkx hB hL (by rw [hs6,Jat hs1 (by omega),Jgf hbd])
   refine Nz 3 ?_
   exact Wd (Qc (Cr (Qr (Qs (Qr (Qr (Qs (Qr (out2 rfl rfl rfl (fun u hu=>(by first | exact ⟨(s.2.1,s.2.2.1),⟨hs4,⟨u,hu.ro (j:=2) rfl⟩,fun h9 ↦ by rw [hfv] at h9; simp at h9⟩,by rw [hfv],hu.sel [1,1,1] rfl⟩ | exact ⟨(y2,f2),⟨hy2x,⟨u,hu.ro (j:=2) rfl⟩,fun h9 ↦ by rw [hfv] at h9; simp at h9⟩,by rw [hfv],hu.sel [1,1,1] rfl⟩)))))))))))
  have hgd:(Ja2 G.p s.2.2.1 (nth l.l s.1)).isSome=true:=by first | exact hc3 | simpa using hc3
  obtain ⟨f3,hf3⟩:=Option.isSome_iff_exists.1 hgd
  obtain rfl:=hf2 f3 hf3
  have hF2:=hs5.next hT hf3
  refine Ck (Qc (Nz 1 ?_))
  refine Wk 1 (Ba 0) ?_
  refine Wd (Qc (Nz 1 ?_))
  refine Wk 2 (Ba 0) ?_
  refine Wt 0 rfl rfl (fun hg=>Fm) ?_
  refine Wt 0 rfl rfl (fun hg=>Jz6 (eg_ hg rfl) rfl Tryz.underlying1) ?_
  refine Wk 0 Pa ?_
  refine Wd (Qc (CS.cond rfl ?_ ?_))<;>intro hc4<;>try simp only [bq] at hc4
  ·
   exact absurd hc4.2 (by decide)
  refine Ck (Qb (Qc (Ny 0 ?_)))
  refine Wk 1 Za ?_
  refine Wd ?_
  refine QS.sel [1,1,1] rfl ?_
  exact QS.head ((s.1+1,y2,f2,(nth l.l s.1).t,())) rfl rfl ⟨⟨by simp; omega,by simp; omega,⟨_,hy2ok⟩,hy2x,hF2,by rw [hs6,Jat hs1 (by omega),Jfa hT hf3]⟩,by simp; omega⟩
 have hrl:Jcp G.p l.l 0 0 (Jaz G.p) = .ok s.2.2.1:=by rw [hs6,List.drop_of_length_le (by omega),Jcp]
 have hfv:(Jae G.p l.l)=(0,0,s.2.2.1):=Jms hB hL hrl
 refine Cv (Qe (Qe (Qx (Qc (Nz 2 ?_)))))
 exact Wd (Qc (Cr (out2 rfl rfl rfl (fun u hu=>⟨(s.2.1,s.2.2.1),⟨hs4,⟨u,hu.ro (j:=1) rfl⟩,fun h9 ↦ by rw [hfv]⟩,by rw [hfv],hu.sel [0,0,0] rfl⟩))))
theorem J7h {w u:World} (A B:List SA) (G:Game) (hG:GameOk w G) (hn:NearG G) (g:Sl ByteArray) (hW:GOk w g) (fb:Nat) (y:Pos) (hyx:y.x=(Jag G.p).2) (hB:(Jag G.p).1=0) (l:Sl Entr) (hk:SlT cEntry w l) (hu:St w.heap.size w (A++[blk fb [G.rm.pls.v,G.rm.ths.v,G.rm.prs.v,G.rm.wys.v,G.rm.acs.v,G.rm.aus.v,.int .i64 G.rm.ply,G.rm.gl.v,G.lks.v,G.cds.v,G.nts.v,.int .i64 G.tr,y.st.ths.v,y.st.prs.v,y.st.pls.v,y.rd.v,.bool (Jaz G.p).st,.int .i64 (Jaz G.p).si,.int .i64 (Jaz G.p).pa,.int .i64 (Jaz G.p).en,.int .i64 (Jaz G.p).hi] 166,roS fun u=>PosOk u y]++B) u) :
  Calls Tryz.prog 87 #[.pointer (some ⟨fb,0,none⟩),l.v,.nilFunc] u (fun e u'=>∃ q:Pos × Film,(q.1.x=q.2.x∧(∃ u0,PosOk u0 q.1)∧((Jae G.p l.l).1=0→q.2=(Jae G.p l.l).2.2))∧e = .returned (.tuple #[.int .i64 (Jae G.p l.l).2.1,.int .i64 (Jae G.p l.l).1])∧St w.heap.size w (A++[blk fb [G.rm.pls.v,G.rm.ths.v,G.rm.prs.v,G.rm.wys.v,G.rm.acs.v,G.rm.aus.v,.int .i64 G.rm.ply,G.rm.gl.v,G.lks.v,G.cds.v,G.nts.v,.int .i64 G.tr,q.1.st.ths.v,q.1.st.prs.v,q.1.st.pls.v,q.1.rd.v,.bool q.2.st,.int .i64 q.2.si,.int .i64 q.2.pa,.int .i64 q.2.en,.int .i64 q.2.hi] 166,roS fun u=>PosOk u q.1]++B) u'):=by
 refine Calls.mono (J85 (star (A++B)) G hG hn g hW fb y hyx hB l hk hu.out2) ?_
 rintro e u' ⟨z,h1,h2,h3⟩
 exact ⟨z,h1,h2,h3.in2⟩
theorem Jn7 (G:Game) (w:World) (hG:GameOk w G) (hn:NearG G) (g:Sl ByteArray) (hW:GOk w g) (l:Sl Entr) (hk:SlT cEntry w l) (hB:(Jag G.p).1=0) :
  Calls Tryz.prog 35 #[.agg #[G.rm.pls.v,G.rm.ths.v,G.rm.prs.v,G.rm.wys.v,G.rm.acs.v,G.rm.aus.v,.int .i64 G.rm.ply,G.rm.gl.v,G.lks.v,G.cds.v,G.nts.v,.int .i64 G.tr],l.v] w (RetB w (.tuple #[.int .i64 (Jae G.p l.l).2.1,.int .i64 (Jae G.p l.l).1])):=by
 have lls:=hk.le
 refine enter Tryz.func35 rfl rfl (Nat.le_of_ble_eq_true rfl) ?_
 refine Nz 0 ?_
 refine Wb 2 rfl rfl (fun _=>rfl) (fun _=>rfl) fun b2 hb2=>?_
 refine Wd (Qc (Nz 0 ?_))
 refine Wk 0 (Bb 0) ?_
 refine Wc rfl rfl Jmb (fun u hu=>Jgi G u (hG.st hu) hn g (hW.st hu) hB) (fun _=>rfl) ?_; rintro ⟨fb,y⟩ ⟨hyx,uy,hyok⟩
 refine WS.unpack ?_
 refine Wz 5 ?_
 refine Wd (Qc (Cs (Nz 2 ?_)))
 refine Wd (Qc (CS.cond rfl ?_ ?_))<;>intro hc1<;>try simp only [bq] at hc1
 ·
  exact absurd trivial hc1
 refine Ck (Qc (Nz 2 ?_))
 refine WS.callS rfl rfl J47 (fun u hu=>J7h [] [_] G hG hn g hW fb y hyx hB l hk hu) (fun _=>rfl) ?_; rintro ⟨y2,f2⟩ ⟨hy2x,⟨uy2,hy2ok⟩,hf2⟩
 refine Wz 4 ?_
 exact Wd (Qc (Cr (out2 rfl rfl rfl (retB))))
theorem Jo9 (G:Game) (w:World) (hG:GameOk w G) (hn:NearG G) (g:Sl ByteArray) (hW:GOk w g) (l:Sl Entr) (hk:SlT cEntry w l) (hB:¬ (Jag G.p).1=0) :
  Calls Tryz.prog 35 #[.agg #[G.rm.pls.v,G.rm.ths.v,G.rm.prs.v,G.rm.wys.v,G.rm.acs.v,G.rm.aus.v,.int .i64 G.rm.ply,G.rm.gl.v,G.lks.v,G.cds.v,G.nts.v,.int .i64 G.tr],l.v] w (RetB w (.tuple #[.int .i64 (Jae G.p l.l).2.1,.int .i64 (Jae G.p l.l).1])):=by
 refine enter Tryz.func35 rfl rfl (Nat.le_of_ble_eq_true rfl) ?_
 refine Nz 0 ?_
 refine Wb 2 rfl rfl (fun _=>rfl) (fun _=>rfl) fun b2 hb2=>?_
 refine Wd (Qc (Nz 0 ?_))
 refine Wk 0 (Bb 0) ?_
 refine Wk 5 (Cb rfl rfl Jmb (fun u hu=>Jhu G u (hG.st hu) hn g (hW.st hu) hB)) ?_
 refine Wd (Qc (Cs (Nz 2 ?_)))
 refine Wd (Qc (CS.cond rfl ?_ ?_))<;>intro hc1<;>try simp only [bq] at hc1
 ·
  refine Nz 3 ?_
  exact Wd (Qc (Cr (Qr (out2 rfl rfl rfl (Jab (by rw [Jrd hB]))))))
 exact absurd hc1 hB
theorem Jrb (G:Game) (w:World) (hG:GameOk w G) (hn:NearG G) (g:Sl ByteArray) (hW:GOk w g) (l:Sl Entr) (hk:SlT cEntry w l) :
  Calls Tryz.prog 35 #[.agg #[G.rm.pls.v,G.rm.ths.v,G.rm.prs.v,G.rm.wys.v,G.rm.acs.v,G.rm.aus.v,.int .i64 G.rm.ply,G.rm.gl.v,G.lks.v,G.cds.v,G.nts.v,.int .i64 G.tr],l.v] w (RetB w (.tuple #[.int .i64 (Jae G.p l.l).2.1,.int .i64 (Jae G.p l.l).1])):=by
 by_cases hB:(Jag G.p).1=0
 ·
  exact Jn7 G w hG hn g hW l hk hB
 exact Jo9 G w hG hn g hW l hk hB
def Juc (b:Nat) (rows:List (List Int)):SA:=exS fun c:Sl (Sl Int)=>star [fact (c.l.map Sl.l=rows),blk b [c.v] 33,roS fun u=>∀ x∈c.l,SlT cInt u x,oT (cSl cInt) 42 c.v c.l]
theorem St.rowsI {n0:Nat} {w0 u:World} {L:List SA} {b:Nat} {v:Value} {acc:List (Sl Int)} {rows:List (List Int)} (ha:acc.map Sl.l=rows) (h:St n0 w0 (Go.Proofs.YtbboikncaihafaaGreatDoor.blk b [v] 33::(roS fun u=>∀ x∈acc,SlT cInt u x)::oT (cSl cInt) 42 v acc::L) u):St n0 w0 (Juc b rows::L) u :=
 St.exI (f:=fun c:Sl (Sl Int)=>Go.Proofs.YtbboikncaihafaaGreatDoor.star [fact (c.l.map Sl.l=rows),Go.Proofs.YtbboikncaihafaaGreatDoor.blk b [c.v] 33,roS fun u=>∀ x∈c.l,SlT cInt u x,oT (cSl cInt) 42 c.v c.l]) ⟨v,acc⟩ (St.pack (L1:=[_,_,_,_]) (St.factI ha h))
theorem St.rows0 {n0:Nat} {w0 u:World} {L:List SA} {b:Nat} (h:St n0 w0 (Go.Proofs.YtbboikncaihafaaGreatDoor.blk b [.slice none 0 0] 33::L) u):St n0 w0 (Juc b []::L) u:=by
 have h1:=(h.osl0 (e:=42) (size:=1)).perm (List.Perm.swap _ _ _)
 have h2:=(St.roTrue h1 (p:=fun u=>∀ x∈([]:List (Sl Int)),SlT cInt u x) (fun u x h=>absurd h List.not_mem_nil)).perm (List.Perm.swap _ _ _)
 exact St.rowsI (acc:=[]) rfl h2
theorem Joh {w u:World} (R:SA) (G:Game) (hn:NearG G) (b:Nat) (fb:Nat) (acc:List (List Int)) (y:Pos) (f:Film) (hyx:y.x=f.x) (hq:posG G.p f.x=0) (hac:acc.length≤1000) (hu:St w.heap.size w [blk fb [G.rm.pls.v,G.rm.ths.v,G.rm.prs.v,G.rm.wys.v,G.rm.acs.v,G.rm.aus.v,.int .i64 G.rm.ply,G.rm.gl.v,G.lks.v,G.cds.v,G.nts.v,.int .i64 G.tr,y.st.ths.v,y.st.prs.v,y.st.pls.v,y.rd.v,.bool f.st,.int .i64 f.si,.int .i64 f.pa,.int .i64 f.en,.int .i64 f.hi] 166,roS fun u=>PosOk u y,Juc b acc,R] u) :
  Calls Tryz.prog 88 #[.pointer (some ⟨fb,0,none⟩),.pointer (some ⟨b,0,none⟩)] u (fun e u'=>e = .returned (.tuple #[])∧St w.heap.size w [blk fb [G.rm.pls.v,G.rm.ths.v,G.rm.prs.v,G.rm.wys.v,G.rm.acs.v,G.rm.aus.v,.int .i64 G.rm.ply,G.rm.gl.v,G.lks.v,G.cds.v,G.nts.v,.int .i64 G.tr,y.st.ths.v,y.st.prs.v,y.st.pls.v,y.rd.v,.bool f.st,.int .i64 f.si,.int .i64 f.pa,.int .i64 f.en,.int .i64 f.hi] 166,roS fun u=>PosOk u y,Juc b (acc++[f.x.1.1]),R] u'):=by
 have hnth:=hn.rm.ths
 have hyn:y.st.ths.l.length=G.rm.ths.l.length:=by have h9:=Jeu hq; rw [← hyx] at h9; exact h9
 have hyT:=(hu.ro (j:=1) rfl).st.ths.ints
 obtain ⟨c,hu2⟩:=(hu.sel [2,0,0,0] rfl).ex
 have hu3:=hu2.unpack
 have hacc:c.l.map Sl.l=acc:=hu3.factE (j:=0) rfl
 have hcl:c.l.length=acc.length:=by rw [← hacc,List.length_map]
 refine Jb0 hu3 Tryz.func88 rfl rfl (Nat.le_of_ble_eq_true rfl) ?_
 refine CS.drawnTill 9 (k:=11) Jah rfl rfl ?_
 refine Tk 11 0 [1,2,3,4,5] rfl (Ba 1) ?_
 refine Tk 11 6 [] rfl (Ba 4) ?_
 refine To 7 rfl ?_
 refine Wc rfl rfl Jhy (fun u hu=>Jck _ _ u ((hu.ro (j:=5) rfl).st.ths.ints) (by omega)) (fun _=>rfl) ?_; intro v10 hv10
 refine Wd (Qt ?_)
 refine To 8 rfl ?_
 refine WS.buildSlice1 sl33 zv42 (vs:=[v10]) rfl rfl (by decide) (fun v h=>by simp at h; subst h; exact hv10) (fun _=>rfl) ?_; intro v11
 refine Wd (Qt ?_)
 refine To 9 rfl ?_
 refine WS.appendT2 (C:=cSl cInt) (a:=⟨v10,y.st.ths.l⟩) (j:=5) (jz:=0) sl33 zv42 rfl (by decide) rfl rfl rfl rfl (fun v h=>by simp [cSl] at h; subst h; exact hv10) (by omega) (by omega) (fun _=>rfl) (fun _=>rfl) ?_; intro v12 hv12
 refine Wd (Qt ?_)
 refine To 10 rfl ?_
 refine Ws 0 3 ?_
 refine Wd (Qt ?_)
 refine Te ?_
 exact out0 (Or.inr rfl) rfl (fun u hu=>⟨rfl,by
   have h1:=hu.sel [1,3,2,2,2,2,2] rfl
   have h2:=St.ro2 (A:=oints 3 v10 y.st.ths.l) (p:=fun u=>SlT cInt u ⟨v10,y.st.ths.l⟩) (q:=fun u=>∀ x∈c.l,SlT cInt u x) (r:=fun u=>∀ x∈c.l++[(⟨v10,y.st.ths.l⟩:Sl Int)],SlT cInt u x) (fun S u h=>SlI.tree (Jbr h.2)) (fun S u h=>roS.now h) (fun u hp hq x hx=>by
    rcases List.mem_append.1 hx with h | h
    ·
     exact hq x h
    rw [List.mem_singleton.1 h]; exact hp) h1
   have h3:=St.rowsI (rows:=acc++[f.x.1.1]) (acc:=c.l++[(⟨v10,y.st.ths.l⟩:Sl Int)]) (by rw [List.map_append,hacc, ← hyx]; rfl) (h2.sel [1,0,0,0,0,0] rfl)
   exact h3.sel [1,1,0,0] rfl⟩)
theorem Jmv (G:Game) (w:World) (hG:GameOk w G) (hn:NearG G) (g:Sl ByteArray) (hW:GOk w g) (l:Sl Entr) (hk:SlT cEntry w l) (hE:(Jae G.p l.l).1=0) :
  Calls Tryz.prog 36 #[.agg #[G.rm.pls.v,G.rm.ths.v,G.rm.prs.v,G.rm.wys.v,G.rm.acs.v,G.rm.aus.v,.int .i64 G.rm.ply,G.rm.gl.v,G.lks.v,G.cds.v,G.nts.v,.int .i64 G.tr],l.v] w (Jvi w (Jc6 G.p l.l)):=by
 refine enter Tryz.func36 rfl rfl (Nat.le_of_ble_eq_true rfl) ?_
 refine Nz 0 ?_
 refine Wb 0 rfl rfl (fun _=>rfl) (fun _=>rfl) fun b2 hb2=>?_
 refine Wl 0 zv33 (fun _=>rfl) (fun _=>rfl) fun b4 hb4=>?_
 refine Wl 1 zv47 (fun _=>rfl) (fun _=>rfl) fun b5 hb5=>?_
 refine Wd (Qc (Nz 0 ?_))
 refine Wk 1 (Bb 2) ?_
 refine Wk 0 (Jal rfl) ?_
 refine WS.sel [1,0,0] rfl ?_
 refine WS.weak (fun u hu=>St.rows0 hu) ?_
 refine WS.callS rfl rfl Jqz (fun u hu=>Jln (Juc b4) G hG hn g hW l hk 88 [.pointer (some ⟨b4,0,none⟩)] J99 (fun R fb acc y f u hyx hq hac hu=>Joh R G hn b4 fb acc y f hyx hq hac hu) _ hE hu) (fun _=>rfl) ?_; rintro ⟨fb,y⟩ ⟨hyx,uy,hyok⟩
 dsimp only at hyx hyok
 refine WS.sel [2,0,0,0,0] rfl ?_
 refine WS.ex ?_; intro c
 refine WS.unpack ?_
 refine WS.factE (j:=0) rfl (fun hacc=>?_)
 refine WS.oc (j:=3) rfl (fun hcv=>?_)
 refine Wz 5 ?_
 refine Wd (Qc (Cs (Nz 2 ?_)))
 refine Wd (Qc (CS.cond rfl ?_ ?_))<;>intro hc1<;>try simp only [bq] at hc1
 ·
  exact absurd trivial hc1
 have hrv:Jc6 G.p l.l=(0,Jdz G.p l.l (Jaz G.p),(Jae G.p l.l).2.2.x):=if_pos hE
 obtain ⟨hya,hyb,hyc⟩:=hyok.st.ones
 have hyd:=Sl.one hyok.rd
 refine Ck (Qc (Cs ?_))
 refine CS.drawnTill 5 (k:=8) Jah rfl rfl ?_
 refine Tk 8 0 [] rfl (Ba 1) ?_
 refine AT.two (i:=1) (j:=5) (by kernel_rfl) rfl rfl (by first | (intro h; exact absurd h (by decide)) | exact fun _ _ h=>h | exact fun _ _ h=>h.sub (by repeat first | exact List.Sublist.refl _ | apply List.Sublist.cons_cons | apply List.Sublist.cons)) rfl rfl ?_ ?_
 ·
  refine Wz 1 ?_
  refine Wd (Qt ?_)
  refine AT.two (i:=2) (j:=5) (by kernel_rfl) rfl rfl (by first | (intro h; exact absurd h (by decide)) | exact fun _ _ h=>h | exact fun _ _ h=>h.sub (by repeat first | exact List.Sublist.refl _ | apply List.Sublist.cons_cons | apply List.Sublist.cons)) rfl rfl ?_ ?_
  ·
   refine Wz 1 ?_
   refine Wd (Qt ?_)
   refine AT.two (i:=3) (j:=5) (by kernel_rfl) rfl rfl (by first | (intro h; exact absurd h (by decide)) | exact fun _ _ h=>h | exact fun _ _ h=>h.sub (by repeat first | exact List.Sublist.refl _ | apply List.Sublist.cons_cons | apply List.Sublist.cons)) rfl rfl ?_ ?_
   ·
    refine Wz 1 ?_
    refine Wd (Qt ?_)
    refine AT.two (i:=4) (j:=5) (by kernel_rfl) rfl rfl (by first | (intro h; exact absurd h (by decide)) | exact fun _ _ h=>h | exact fun _ _ h=>h.sub (by repeat first | exact List.Sublist.refl _ | apply List.Sublist.cons_cons | apply List.Sublist.cons)) rfl rfl ?_ ?_
    ·
     refine Wk 0 (Bc 4) ?_
     refine Wd (Qt ?_)
     refine To 5 rfl ?_
     refine Ws 0 1 ?_
     refine Wd (Qt ?_)
     refine To 6 rfl ?_
     refine Wv 0 6 ?_
     refine Wd (Qt ?_)
     refine To 7 rfl ?_
     refine Wz 1 ?_
     refine Wd (Qt ?_)
     refine Te ?_
     refine Qc (Cr ?_)
     exact outR (Jld rfl (Jhf (j:=1) rfl rfl rfl tk33) (Jak (j:=6) rfl rfl tk47) rfl) (by
       rw [hrv]
       exact Ju0 (V:=(0,Jdz G.p l.l (Jaz G.p),(Jae G.p l.l).2.2.x)) (acc:=c.l) (y:=y) hacc hyx (fun S u h=>⟨⟨Star.osl (j:=3) rfl h,Star.ro (j:=2) rfl h⟩,Star.ro (j:=5) rfl h⟩))
    refine Ws 0 1 ?_
    refine Wd (Qt ?_)
    refine To 4 rfl ?_
    refine Wk 0 (Bc 4) ?_
    refine Wd (Qt ?_)
    refine To 6 rfl ?_
    refine Wv 0 6 ?_
    refine Wd (Qt ?_)
    refine To 7 rfl ?_
    refine Wz 1 ?_
    refine Wd (Qt ?_)
    refine Te ?_
    refine Qc (Cr ?_)
    exact outR (Jld rfl (Jhf (j:=1) rfl rfl rfl tk33) (Jak (j:=6) rfl rfl tk47) rfl) (by
      rw [hrv]
      exact Ju0 (V:=(0,Jdz G.p l.l (Jaz G.p),(Jae G.p l.l).2.2.x)) (acc:=c.l) (y:=y) hacc hyx (fun S u h=>⟨⟨Star.osl (j:=3) rfl h,Star.ro (j:=2) rfl h⟩,Star.ro (j:=5) rfl h⟩))
   refine Ws 0 1 ?_
   refine Wd (Qt ?_)
   refine To 3 rfl ?_
   refine Wz 1 ?_
   refine Wd (Qt ?_)
   refine To 4 rfl ?_
   refine Wk 0 (Bc 4) ?_
   refine Wd (Qt ?_)
   refine To 6 rfl ?_
   refine Wv 0 6 ?_
   refine Wd (Qt ?_)
   refine To 7 rfl ?_
   refine Wz 1 ?_
   refine Wd (Qt ?_)
   refine Te ?_
   refine Qc (Cr ?_)
   exact outR (Jld rfl (Jhf (j:=1) rfl rfl rfl tk33) (Jak (j:=6) rfl rfl tk47) rfl) (by
     rw [hrv]
     exact Ju0 (V:=(0,Jdz G.p l.l (Jaz G.p),(Jae G.p l.l).2.2.x)) (acc:=c.l) (y:=y) hacc hyx (fun S u h=>⟨⟨Star.osl (j:=3) rfl h,Star.ro (j:=2) rfl h⟩,Star.ro (j:=5) rfl h⟩))
  refine Ws 0 1 ?_
  refine Wd (Qt ?_)
  refine To 2 rfl ?_
  refine Wz 1 ?_
  refine Wd (Qt ?_)
  refine To 3 rfl ?_
  refine Wz 1 ?_
  refine Wd (Qt ?_)
  refine To 4 rfl ?_
  refine Wk 0 (Bc 4) ?_
  refine Wd (Qt ?_)
  refine To 6 rfl ?_
  refine Wv 0 6 ?_
  refine Wd (Qt ?_)
  refine To 7 rfl ?_
  refine Wz 1 ?_
  refine Wd (Qt ?_)
  refine Te ?_
  refine Qc (Cr ?_)
  exact outR (Jld rfl (Jhf (j:=1) rfl rfl rfl tk33) (Jak (j:=6) rfl rfl tk47) rfl) (by
    rw [hrv]
    exact Ju0 (V:=(0,Jdz G.p l.l (Jaz G.p),(Jae G.p l.l).2.2.x)) (acc:=c.l) (y:=y) hacc hyx (fun S u h=>⟨⟨Star.osl (j:=3) rfl h,Star.ro (j:=2) rfl h⟩,Star.ro (j:=5) rfl h⟩))
 refine Ws 0 1 ?_
 refine Wd (Qt ?_)
 refine To 1 rfl ?_
 refine Wz 1 ?_
 refine Wd (Qt ?_)
 refine To 2 rfl ?_
 refine Wz 1 ?_
 refine Wd (Qt ?_)
 refine To 3 rfl ?_
 refine Wz 1 ?_
 refine Wd (Qt ?_)
 refine To 4 rfl ?_
 refine Wk 0 (Bc 4) ?_
 refine Wd (Qt ?_)
 refine To 6 rfl ?_
 refine Wv 0 6 ?_
 refine Wd (Qt ?_)
 refine To 7 rfl ?_
 refine Wz 1 ?_
 refine Wd (Qt ?_)
 refine Te ?_
 refine Qc (Cr ?_)
 exact outR (Jld rfl (Jhf (j:=1) rfl rfl rfl tk33) (Jak (j:=6) rfl rfl tk47) rfl) (by
   rw [hrv]
   exact Ju0 (V:=(0,Jdz G.p l.l (Jaz G.p),(Jae G.p l.l).2.2.x)) (acc:=c.l) (y:=y) hacc hyx (fun S u h=>⟨⟨Star.osl (j:=3) rfl h,Star.ro (j:=2) rfl h⟩,Star.ro (j:=5) rfl h⟩))
theorem Jnm (G:Game) (w:World) (hG:GameOk w G) (hn:NearG G) (g:Sl ByteArray) (hW:GOk w g) (l:Sl Entr) (hk:SlT cEntry w l) (hE:¬ (Jae G.p l.l).1=0) :
  Calls Tryz.prog 36 #[.agg #[G.rm.pls.v,G.rm.ths.v,G.rm.prs.v,G.rm.wys.v,G.rm.acs.v,G.rm.aus.v,.int .i64 G.rm.ply,G.rm.gl.v,G.lks.v,G.cds.v,G.nts.v,.int .i64 G.tr],l.v] w (Jvi w (Jc6 G.p l.l)):=by
 refine enter Tryz.func36 rfl rfl (Nat.le_of_ble_eq_true rfl) ?_
 refine Nz 0 ?_
 refine Wb 0 rfl rfl (fun _=>rfl) (fun _=>rfl) fun b2 hb2=>?_
 refine Wl 0 zv33 (fun _=>rfl) (fun _=>rfl) fun b4 hb4=>?_
 refine Wl 1 zv47 (fun _=>rfl) (fun _=>rfl) fun b5 hb5=>?_
 refine Wd (Qc (Nz 0 ?_))
 refine Wk 1 (Bb 2) ?_
 refine Wk 0 (Jal rfl) ?_
 refine WS.sel [1,0,0] rfl ?_
 refine WS.weak (fun u hu=>St.rows0 hu) ?_
 refine WS.callS rfl rfl Jqz (fun u hu=>Jlv (Juc b4) G hG hn g hW l hk 88 [.pointer (some ⟨b4,0,none⟩)] J99 (fun R fb acc y f u hyx hq hac hu=>Joh R G hn b4 fb acc y f hyx hq hac hu) _ hE hu) (fun _=>rfl) ?_; rintro acc -
 refine WS.ex ?_; intro c
 refine WS.unpack ?_
 refine WS.factE (j:=0) rfl (fun hacc=>?_)
 refine WS.oc (j:=3) rfl (fun hcv=>?_)
 refine Wz 5 ?_
 refine Wd (Qc (Cs (Nz 2 ?_)))
 refine Wd (Qc (CS.cond rfl ?_ ?_))<;>intro hc1<;>try simp only [bq] at hc1
 ·
  refine Nz 0 ?_
  refine Wk 1 (Db Jen zv47) ?_
  refine Ws 0 1 ?_
  refine Wv 1 4 ?_
  refine Wd (Qc (Cr (Qr ?_)))
  exact outR (Jld rfl (Jhf (j:=1) rfl rfl rfl tk33) (Jak (j:=4) rfl rfl tk47) rfl) (by
    have hrv:Jc6 G.p l.l=((Jae G.p l.l).1,[],noP):=if_neg hE
    rw [hrv]
    exact Kbc)
 exact absurd hc1 hE
theorem Jbc (G:Game) (w:World) (hG:GameOk w G) (hn:NearG G) (g:Sl ByteArray) (hW:GOk w g) (l:Sl Entr) (hk:SlT cEntry w l) :
  Calls Tryz.prog 36 #[.agg #[G.rm.pls.v,G.rm.ths.v,G.rm.prs.v,G.rm.wys.v,G.rm.acs.v,G.rm.aus.v,.int .i64 G.rm.ply,G.rm.gl.v,G.lks.v,G.cds.v,G.nts.v,.int .i64 G.tr],l.v] w (Jvi w (Jc6 G.p l.l)):=by
 by_cases hE:(Jae G.p l.l).1=0
 ·
  exact Jmv G w hG hn g hW l hk hE
 exact Jnm G w hG hn g hW l hk hE
theorem Jml {w u:World} (p:World→Prop) (R:SA)  (fn:FuncId) (cap:List Value) (v:Value) (A U M V B:List Entr) (a b n:Int) (ha:a=A.length) (hn:n=U.length) (hl:U.length=V.length) (hb:b=a+U.length+M.length) (hm:(A.length:Int)+U.length+M.length+V.length+B.length≤1000000) (hu:St w.heap.size w [oT cEntry 84 v (A++(U++(M++(V++B)))),roS p,R] u) :
  Calls Tryz.prog 249 #[v,.int .i64 a,.int .i64 b,.int .i64 n,.func (.func fn) #[] cap.toArray] u (fun e u'=>e = .returned (.tuple #[])∧St w.heap.size w [oT cEntry 84 v (A++(V++(M++(U++B)))),roS p,R] u'):=by
 refine Jb0 hu Tryz.func249 rfl rfl (Nat.le_of_ble_eq_true rfl) ?_
 refine Nz 1 ?_
 refine Wd (Qc (Ce ?_))
 refine CS.loopM (σ:=Int) [11,12,13,14,15,16,17,18,19,20,21,22,23,24,25,26,27,28,29,30,31,32,33,34,35,36,37] (fun s=>[(10,.int .i64 s)]) (fun s=>[oT cEntry 84 v (swr A U M V B s),roS p,R]) (fun s=>0≤s∧s≤n) (fun s=>(n - s).toNat) 0 (fun _ _=>rfl) rfl (congrArg (fun l=>[oT cEntry 84 v (l),roS p,R]) (J94)) ⟨by omega,by omega⟩ ?_
 intro s t hs
 obtain ⟨hs1,hs2⟩:=hs
 have hlen:=Jv5 (A:=A) (M:=M) (B:=B) (i:=s) hl
 refine Cs (Nz 3 ?_)
 refine Wd (Qc (CS.cond rfl ?_ ?_))<;>intro hc1<;>try simp only [bq] at hc1
 ·
  refine Ck (Qc (Cs (Ce ?_)))
  refine CS.drawnTill 21 (k:=24) Jah rfl rfl ?_
  refine Tr 24 [0,1,2] ?_
  refine Tk 24 3 [8,9,10] rfl Za ?_
  refine Tk 24 11 [] rfl Za ?_
  refine Tk 24 12 [] rfl (Jaf (j:=0) sl67 rfl rfl rfl rfl (by first | omega | (rw [List.length_set]; omega)) (by first | omega | (rw [List.length_set]; omega))) ?_
  refine Tk 24 13 [14,15,16] rfl (Jbf (j:=0) rfl rfl rfl ⟨(by first | omega | (rw [List.length_set]; omega)),(by first | omega | (rw [List.length_set]; omega))⟩ rfl tk84) ?_
  refine Tk 24 17 [] rfl Za ?_
  refine Tk 24 18 [] rfl (Jaf (j:=0) sl67 rfl rfl rfl rfl (by first | omega | (rw [List.length_set]; omega)) (by first | omega | (rw [List.length_set]; omega))) ?_
  refine Tk 24 19 [] rfl (Jbf (j:=0) rfl rfl rfl ⟨(by first | omega | (rw [List.length_set]; omega)),(by first | omega | (rw [List.length_set]; omega))⟩ rfl tk84) ?_
  refine Tk 24 20 [] rfl (Jaf (j:=0) sl67 rfl rfl rfl rfl (by first | omega | (rw [List.length_set]; omega)) (by first | omega | (rw [List.length_set]; omega))) ?_
  refine AT.takeP 4 rfl (by kernel_rfl) rfl (by kernel_rfl) (by kernel_rfl) rfl rfl (Jaw rfl) rfl rfl ?_
  refine AT.takeP 5 rfl (by kernel_rfl) rfl (by kernel_rfl) (by kernel_rfl) rfl rfl (Jaw rfl) rfl rfl ?_
  refine AT.takeP 6 rfl (by kernel_rfl) rfl (by kernel_rfl) (by kernel_rfl) rfl rfl (Jaw rfl) rfl rfl ?_
  refine AT.takeP 7 rfl (by kernel_rfl) rfl (by kernel_rfl) (by kernel_rfl) rfl rfl (Jj8 rfl rfl (by omega)) rfl rfl ?_
  refine To 21 rfl ?_
  refine WS.storeTw (C:=cEntry) (nth (swr A U M V B s) (b+s)) (j:=0) rfl rfl rfl ⟨(by first | omega | (rw [List.length_set]; omega)),(by first | omega | (rw [List.length_set]; omega))⟩ rfl (cEntry.one w _ trivial) (by decide) tk84 rfl ?_
  refine Wd (Qt ?_)
  refine To 22 rfl ?_
  refine Wk 0 (Jaf (j:=0) sl67 rfl rfl rfl rfl (by first | omega | (rw [List.length_set]; omega)) (by first | omega | (rw [List.length_set]; omega))) ?_
  refine Wd (Qt ?_)
  refine To 23 rfl ?_
  refine WS.storeTw (C:=cEntry) (nth (swr A U M V B s) (a+s)) (j:=0) rfl rfl rfl ⟨(by first | omega | (rw [List.length_set]; omega)),(by first | omega | (rw [List.length_set]; omega))⟩ rfl (cEntry.one w _ trivial) (by decide) tk84 rfl ?_
  refine Wd (Qt ?_)
  refine Te ?_
  refine Qb (Qc (Ny 1 ?_))
  refine Wk 1 Za ?_
  exact Wd (QS.head (s+1) rfl (congrArg (fun l=>[oT cEntry 84 v (l),roS p,R]) ((Jsc hs1 (by omega) hl ha hb).symm)) ⟨⟨by omega,by omega⟩,by omega⟩)
 exact Cv (Qe (Qe (Qx (out0 (Or.inr rfl) rfl (fun u hu=>⟨rfl,by rw [Jvv (by omega) (by omega)] at hu; exact hu⟩)))))
theorem J9m {w u:World} (p:World→Prop) (R:SA)  (fn:FuncId) (cap:List Value) (v:Value) (A U V B:List Entr) (a m b:Int) (ha:a=A.length) (hm1:m=a+U.length) (hb:b=m+V.length) (h1:0 < U.length) (h2:0 < V.length) (hm:(A.length:Int)+U.length+V.length+B.length≤1000000) (hu:St w.heap.size w [oT cEntry 84 v (A++(U++(V++B))),roS p,R] u) :
  Calls Tryz.prog 219 #[v,.int .i64 a,.int .i64 m,.int .i64 b,.func (.func fn) #[] cap.toArray] u (fun e u'=>e = .returned (.tuple #[])∧St w.heap.size w [oT cEntry 84 v (A++(V++(U++B))),roS p,R] u'):=by
 refine Jb0 hu Tryz.func219 rfl rfl (Nat.le_of_ble_eq_true rfl) ?_
 refine Nz 2 ?_
 refine Wk 1 Zb ?_
 refine Wd (Qc (Nz 2 ?_))
 refine Wk 1 Zb ?_
 refine Wd (Qc (Cs (Ce ?_)))
 refine CS.loopM (σ:=Int × Int × List Entr × List Entr × List Entr × List Entr) [18,19,20,21,22,23,24,25,26,27,28,29,30,31,32,33,34,35,36,37,38,39,40,41,42,43,44,45,46,47,48,49] (fun s=>[(10,.int .i64 s.1),(11,.int .i64 s.2.1)]) (fun s=>[oT cEntry 84 v (A++(s.2.2.1++(s.2.2.2.1++(s.2.2.2.2.1++(s.2.2.2.2.2++B))))),roS p,R]) (fun s=>s.1=s.2.2.2.1.length∧s.2.1=s.2.2.2.2.1.length∧0 < s.2.2.2.1.length∧0 < s.2.2.2.2.1.length∧m=A.length+s.2.2.1.length+s.2.2.2.1.length∧V++U=s.2.2.1++(s.2.2.2.2.1++(s.2.2.2.1++s.2.2.2.2.2))) (fun s=>(s.1+s.2.1).toNat) (m - a,b - m,[],U,V,[]) (fun _ _=>rfl) rfl (congrArg (fun l=>[oT cEntry 84 v (l),roS p,R]) (by simp)) ⟨by show m - a=U.length; omega,by show b - m=V.length; omega,h1,h2,by simp; omega,by simp⟩ ?_
 intro s t hs
 obtain ⟨hs1,hs2,hs3,hs4,hs5,hs6⟩:=hs
 have hsl:=congrArg List.length hs6
 simp only [List.length_append] at hsl
 refine Cs (Nz 3 ?_)
 refine Wd (Qc (CS.cond rfl ?_ ?_))<;>intro hc1<;>try simp only [bq] at hc1
 ·
  refine Ck (Qc (Ce (Nz 3 ?_)))
  refine Wd (Qc (CS.cond rfl ?_ ?_))<;>intro hc2<;>try simp only [bq] at hc2
  ·
   obtain ⟨U1,U2,hU,hU1⟩:∃ U1 U2:List Entr,s.2.2.2.1=U1++U2∧U1.length=s.2.2.2.2.1.length:=⟨_,_,(List.take_append_drop s.2.2.2.2.1.length _).symm,by rw [List.length_take]; omega⟩
   have hUl:=congrArg List.length hU
   simp only [List.length_append] at hUl
   rw [hU]
   refine Nz 3 ?_
   refine Wk 3 Zb ?_
   refine WS.weak (L':=[oT cEntry 84 v ((A++s.2.2.1)++((U1)++((U2)++((s.2.2.2.2.1)++(s.2.2.2.2.2++B))))),roS p,R]) (fun u hu=>hu.oTe (by simp)) ?_
   refine WS.callS (β:=Unit) (p:=fun _=>True) (v:=fun _=>.tuple #[]) (L':=fun _=>[oT cEntry 84 v ((A++s.2.2.1)++((s.2.2.2.2.1)++((U2)++((U1)++(s.2.2.2.2.2++B))))),roS p,R]) rfl rfl Jwz (fun u hu=>Calls.mono (Jml p R fn cap v (A++s.2.2.1) (U1) (U2) (s.2.2.2.2.1) (s.2.2.2.2.2++B) _ _ _ (by first | omega | (simp; omega)) (by first | omega | (simp; omega)) (by first | omega | (simp; omega)) (by first | omega | (simp; omega)) (by first | omega | (simp; omega)) hu) fun e u2 h=>⟨(),trivial,h.1,h.2⟩) (fun _=>rfl) ?_; rintro ⟨⟩ -
   refine Wd (Qc (Ny 2 ?_))
   refine Wk 1 Zb ?_
   exact Wd (Qb (QS.head ((s.1 - s.2.1,s.2.1,s.2.2.1++s.2.2.2.2.1,U2,U1,s.2.2.2.2.2)) rfl (congrArg (fun l=>[oT cEntry 84 v (l),roS p,R]) (by simp)) ⟨⟨by simp; omega,by simp; omega,by simp; omega,by simp; omega,by simp; omega,by rw [hs6,hU]; simp⟩,by simp; omega⟩))
  obtain ⟨V1,V2,hV,hV2⟩:∃ V1 V2:List Entr,s.2.2.2.2.1=V1++V2∧V2.length=s.2.2.2.1.length:=⟨_,_,(List.take_append_drop (s.2.2.2.2.1.length - s.2.2.2.1.length) _).symm,by rw [List.length_drop]; omega⟩
  have hVl:=congrArg List.length hV
  simp only [List.length_append] at hVl
  rw [hV]
  refine Nz 3 ?_
  refine Wk 2 Zb ?_
  refine Wk 1 Za ?_
  refine Wk 2 Zb ?_
  refine WS.weak (L':=[oT cEntry 84 v ((A++s.2.2.1)++((s.2.2.2.1)++((V1)++((V2)++(s.2.2.2.2.2++B))))),roS p,R]) (fun u hu=>hu.oTe (by simp)) ?_
  refine WS.callS (β:=Unit) (p:=fun _=>True) (v:=fun _=>.tuple #[]) (L':=fun _=>[oT cEntry 84 v ((A++s.2.2.1)++((V2)++((V1)++((s.2.2.2.1)++(s.2.2.2.2.2++B))))),roS p,R]) rfl rfl Jwz (fun u hu=>Calls.mono (Jml p R fn cap v (A++s.2.2.1) (s.2.2.2.1) (V1) (V2) (s.2.2.2.2.2++B) _ _ _ (by first | omega | (simp; omega)) (by first | omega | (simp; omega)) (by first | omega | (simp; omega)) (by first | omega | (simp; omega)) (by first | omega | (simp; omega)) hu) fun e u2 h=>⟨(),trivial,h.1,h.2⟩) (fun _=>rfl) ?_; rintro ⟨⟩ -
  refine Wd (Qc (Ny 2 ?_))
  refine Wk 1 Zb ?_
  exact Wd (Qb (QS.head ((s.1,s.2.1 - s.1,s.2.2.1,V2,V1,s.2.2.2.1++s.2.2.2.2.2)) rfl (congrArg (fun l=>[oT cEntry 84 v (l),roS p,R]) (by simp)) ⟨⟨by simp; omega,by simp; omega,by simp; omega,by simp; omega,by simp; omega,by rw [hs6,hV]; simp⟩,by simp; omega⟩))
 refine Cv (Qe (Qe (Qx (Qc (Ny 3 ?_)))))
 refine Wk 3 Zb ?_
 refine WS.weak (L':=[oT cEntry 84 v ((A++s.2.2.1)++((s.2.2.2.1)++(([])++((s.2.2.2.2.1)++(s.2.2.2.2.2++B))))),roS p,R]) (fun u hu=>hu.oTe (by simp)) ?_
 refine WS.callS (β:=Unit) (p:=fun _=>True) (v:=fun _=>.tuple #[]) (L':=fun _=>[oT cEntry 84 v ((A++s.2.2.1)++((s.2.2.2.2.1)++(([])++((s.2.2.2.1)++(s.2.2.2.2.2++B))))),roS p,R]) rfl rfl Jwz (fun u hu=>Calls.mono (Jml p R fn cap v (A++s.2.2.1) (s.2.2.2.1) ([]) (s.2.2.2.2.1) (s.2.2.2.2.2++B) _ _ _ (by first | omega | (simp; omega)) (by first | omega | (simp; omega)) (by first | omega | (simp; omega)) (by first | omega | (simp; omega)) (by first | omega | (simp; omega)) hu) fun e u2 h=>⟨(),trivial,h.1,h.2⟩) (fun _=>rfl) ?_; rintro ⟨⟩ -
 exact Wd (out0 (Or.inr rfl) rfl (fun u hu=>⟨rfl,hu.oTe (by rw [show V++(U++B)=(V++U)++B by simp,hs6]; simp)⟩))
theorem Jxb {w u:World} (p:World→Prop) (R:SA)  (fn:FuncId) (cap:List Value) (hent:Ent Tryz.prog fn) (key:Entr→Int) (hcmp:∀ (x y:Entr) (u:World),p u→Calls Tryz.prog fn ([.agg (cEntry.cells x).toArray,.agg (cEntry.cells y).toArray]++cap:List Value).toArray u (RetB u (.int .i64 (cmpK (key x) (key y))))) (v:Value) (A M B:List Entr) (a b:Int) (ha:a=A.length) (hb:b=a+M.length) (hm:(A.length:Int)+M.length+B.length≤1000000) (hu:St w.heap.size w [oT cEntry 84 v (A++(M++B)),roS p,R] u) :
  Calls Tryz.prog 175 #[v,.int .i64 a,.int .i64 b,.func (.func fn) #[] cap.toArray] u (fun e u'=>∃ M':List Entr,(Srt key M'∧Eqv key M M')∧e = .returned (.tuple #[])∧St w.heap.size w [oT cEntry 84 v (A++(M'++B)),roS p,R] u'):=by
 refine Jb0 hu Tryz.func175 rfl rfl (Nat.le_of_ble_eq_true rfl) ?_
 refine Nz 1 ?_
 refine Wk 1 Za ?_
 refine Wd (Qc (Ce ?_))
 refine CS.loopM (σ:=Int × List Entr) [9,12,13,14,15,16,17,18,19,20,21,22,23,24,25,26,27,28,29,30,31,32,33,34,35,36,37,38,39,40,41,42,43,44,45,46,47,48,49,50,51,52] (fun s=>[(8,.int .i64 s.1)]) (fun s=>[oT cEntry 84 v (A++(s.2++(M.drop (s.1 - a).toNat++B))),roS p,R]) (fun s=>a+1≤s.1∧(s.1≤b∨b≤a)∧Srt key s.2∧Eqv key (M.take (s.1 - a).toNat) s.2) (fun s=>(b - s.1).toNat) (a+1,M.take (a+1 - a).toNat) (fun _ _=>rfl) rfl (congrArg (fun l=>[oT cEntry 84 v (A++l),roS p,R]) (by rw [← List.append_assoc (M.take _),List.take_append_drop])) ⟨Int.le_refl _,by show a+1≤b∨b≤a; omega,Srt.small (by rw [List.length_take]; omega),Eqv.refl _⟩ ?_
 intro o t hs
 obtain ⟨ho1,ho2,ho3,ho4⟩:=hs
 refine Cs (Nz 3 ?_)
 refine Wd (Qc (CS.cond rfl ?_ ?_))<;>intro hc1<;>try simp only [bq] at hc1
 ·
  refine Ck (Qc (Cs (Ce (Nz 2 ?_))))
  refine Wd (Qc (Ce ?_))
  refine CS.loopM (σ:=Int × List Entr × List Entr) [18,19,20,21,22,23,24,25,26,27,28,29,30,31,32,33,34,35,36,37,38,39,40,41,42,43,44,45,46,47,48,49,50,51,52] (fun s=>[(9,.int .i64 s.1)]) (fun s=>[oT cEntry 84 v (A++(s.2.1++(nth M (o.1 - a))::(s.2.2++(M.drop (o.1+1 - a).toNat++B)))),roS p,R]) (fun s=>a≤s.1∧s.1≤o.1∧s.2.1++s.2.2=o.2∧(s.2.1.length:Int)=s.1 - a∧∀ y∈s.2.2,key (nth M (o.1 - a)) < key y) (fun s=>s.1.toNat) (o.1,o.2,[]) (fun _ _=>rfl) rfl (congrArg (fun l=>[oT cEntry 84 v (A++(o.2++l)),roS p,R]) (by rw [show M.drop (o.1 - a).toNat=(nth M (o.1 - a))::M.drop (o.1+1 - a).toNat by rw [Jat (by omega) (by omega),show o.1 - a+1=o.1+1 - a by omega]]; rfl)) ⟨by show a≤o.1; omega,Int.le_refl _,by simp,by show (o.2.length:Int)=o.1 - a; rw [ho4.len,List.length_take]; omega,fun y hy=>by cases hy⟩ ?_
  intro q t hs
  obtain ⟨hq1,hq2,hq3,hq4,hq5⟩:=hs
  have hql:=congrArg List.length hq3
  rw [List.length_append,ho4.len,List.length_take] at hql
  have hlen:(((A++(q.2.1++(nth M (o.1 - a))::(q.2.2++(M.drop (o.1+1 - a).toNat++B)))).length:Nat):Int)=A.length+M.length+B.length:=by simp; omega
  have e1:nth (A++(q.2.1++(nth M (o.1 - a))::(q.2.2++(M.drop (o.1+1 - a).toNat++B)))) q.1=(nth M (o.1 - a)):=Jpy (by omega)
  have e2:a < q.1→nth (A++(q.2.1++(nth M (o.1 - a))::(q.2.2++(M.drop (o.1+1 - a).toNat++B)))) (q.1 - 1)=nth q.2.1 ((q.2.1.length:Int) - 1):=fun h=>by rw [Ji3 (by omega) (by omega)]; congr 1; omega
  refine Cs (Cs (Dr Jah 4 ?_))
  refine Dt 0 rfl rfl (fun hg=>Fm) ?_
  refine Dt 0 rfl rfl (fun hg=>Fm) ?_
  refine Dt 0 rfl rfl (fun hg=>Fm) ?_
  refine Dt 0 rfl rfl (fun hg=>Jaf (j:=0) sl67 (eg_ hg rfl) (eg_ hg rfl) rfl rfl (by (try simp only [bq] at hg); omega) (by (try simp only [bq] at hg); omega)) ?_
  refine Dt 0 rfl rfl (fun hg=>Jbf (j:=0) rfl (eg_ hg rfl) rfl ⟨(by (try simp only [bq] at hg); omega),(by (try simp only [bq] at hg); omega)⟩ rfl tk84) ?_
  refine Dt 0 rfl rfl (fun hg=>Fm) ?_
  refine Dt 0 rfl rfl (fun hg=>Fm) ?_
  refine Dt 0 rfl rfl (fun hg=>Zb) ?_
  refine Dt 0 rfl rfl (fun hg=>Jaf (j:=0) sl67 (eg_ hg rfl) (eg_ hg rfl) rfl rfl (by (try simp only [bq] at hg); omega) (by (try simp only [bq] at hg); omega)) ?_
  refine Dt 0 rfl rfl (fun hg=>Jbf (j:=0) rfl (eg_ hg rfl) rfl ⟨(by (try simp only [bq] at hg); omega),(by (try simp only [bq] at hg); omega)⟩ rfl tk84) ?_
  refine Dt 0 rfl rfl (fun hg=>Cb (eg_ hg rfl) (ec_ (eg_ hg rfl) (ec_ (eg_ hg rfl) en_)) hent (fun u hu=>hcmp _ _ u (hu.ro (j:=1) rfl))) ?_
  refine Dt 0 rfl rfl (fun hg=>Fl) ?_
  refine Dk 0 Pa ?_
  refine Dd (Qc (CS.cond rfl ?_ ?_))<;>intro hc2<;>try simp only [bq] at hc2
  ·
   obtain ⟨hlt,hcc⟩:a < q.1∧cmpK (key (nth (A++(q.2.1++(nth M (o.1 - a))::(q.2.2++(M.drop (o.1+1 - a).toNat++B)))) q.1)) (key (nth (A++(q.2.1++(nth M (o.1 - a))::(q.2.2++(M.drop (o.1+1 - a).toNat++B)))) (q.1 - 1))) < 0:=by first | exact hc2 | simpa using hc2
   rw [Jd1,e1,e2 hlt] at hcc
   have hne:q.2.1≠[]:=fun h=>by rw [h] at hq4; simp at hq4; omega
   have hPs:=Jgk hne
   refine Ck (Qc (Cs (Ce ?_)))
   refine CS.drawnTill 15 (k:=18) Jah rfl rfl ?_
   refine Tr 18 [0,1,5,6] ?_
   refine Tk 18 7 [] rfl Zb ?_
   refine Tk 18 8 [] rfl (Jaf (j:=0) sl67 rfl rfl rfl rfl (by first | omega | (rw [List.length_set]; omega)) (by first | omega | (rw [List.length_set]; omega))) ?_
   refine Tk 18 9 [10,11] rfl (Jbf (j:=0) rfl rfl rfl ⟨(by first | omega | (rw [List.length_set]; omega)),(by first | omega | (rw [List.length_set]; omega))⟩ rfl tk84) ?_
   refine Tk 18 12 [] rfl (Jaf (j:=0) sl67 rfl rfl rfl rfl (by first | omega | (rw [List.length_set]; omega)) (by first | omega | (rw [List.length_set]; omega))) ?_
   refine Tk 18 13 [] rfl (Jbf (j:=0) rfl rfl rfl ⟨(by first | omega | (rw [List.length_set]; omega)),(by first | omega | (rw [List.length_set]; omega))⟩ rfl tk84) ?_
   refine Tk 18 14 [] rfl (Jaf (j:=0) sl67 rfl rfl rfl rfl (by first | omega | (rw [List.length_set]; omega)) (by first | omega | (rw [List.length_set]; omega))) ?_
   refine AT.takeP 2 rfl (by kernel_rfl) rfl (by kernel_rfl) (by kernel_rfl) rfl rfl (Jaw rfl) rfl rfl ?_
   refine AT.takeP 3 rfl (by kernel_rfl) rfl (by kernel_rfl) (by kernel_rfl) rfl rfl (Jaw rfl) rfl rfl ?_
   refine AT.takeP 4 rfl (by kernel_rfl) rfl (by kernel_rfl) (by kernel_rfl) rfl rfl (Jhd rfl rfl (by omega)) rfl rfl ?_
   refine To 15 rfl ?_
   refine WS.storeTw (C:=cEntry) (nth (A++(q.2.1++(nth M (o.1 - a))::(q.2.2++(M.drop (o.1+1 - a).toNat++B)))) (q.1 - 1)) (j:=0) rfl rfl rfl ⟨(by first | omega | (rw [List.length_set]; omega)),(by first | omega | (rw [List.length_set]; omega))⟩ rfl (cEntry.one w _ trivial) (by decide) tk84 rfl ?_
   refine Wd (Qt ?_)
   refine To 16 rfl ?_
   refine Wk 0 (Jaf (j:=0) sl67 rfl rfl rfl rfl (by first | omega | (rw [List.length_set]; omega)) (by first | omega | (rw [List.length_set]; omega))) ?_
   refine Wd (Qt ?_)
   refine To 17 rfl ?_
   refine WS.storeTw (C:=cEntry) (nth (A++(q.2.1++(nth M (o.1 - a))::(q.2.2++(M.drop (o.1+1 - a).toNat++B)))) (q.1)) (j:=0) rfl rfl rfl ⟨(by first | omega | (rw [List.length_set]; omega)),(by first | omega | (rw [List.length_set]; omega))⟩ rfl (cEntry.one w _ trivial) (by decide) tk84 rfl ?_
   refine Wd (Qt ?_)
   refine Te ?_
   refine Qb (Qc (Ny 1 ?_))
   refine Wk 1 Zb ?_
   exact Wd (QS.head ((q.1 - 1,q.2.1.dropLast,nth q.2.1 ((q.2.1.length:Int) - 1)::q.2.2)) rfl (congrArg (fun l=>[oT cEntry 84 v (l),roS p,R]) ((Jsj hne (by omega) rfl).symm)) ⟨⟨by show a≤q.1 - 1; omega,by show q.1 - 1≤o.1; omega,by show q.2.1.dropLast++(nth q.2.1 ((q.2.1.length:Int) - 1)::q.2.2)=o.2; rw [← hq3,List.append_cons, ← hPs],by show (q.2.1.dropLast.length:Int)=q.1 - 1 - a; rw [List.length_dropLast]; omega,fun y hy=>by rcases List.mem_cons.1 hy with rfl | hy; exact hcc; exact hq5 y hy⟩,by show (q.1 - 1).toNat < q.1.toNat; omega⟩)
  have hst:q.2.1=[]∨key (nth q.2.1 ((q.2.1.length:Int) - 1))≤key (nth M (o.1 - a)):=by
   by_cases hlt:a < q.1
   ·
    right
    have hcc:¬ cmpK (key (nth (A++(q.2.1++(nth M (o.1 - a))::(q.2.2++(M.drop (o.1+1 - a).toNat++B)))) q.1)) (key (nth (A++(q.2.1++(nth M (o.1 - a))::(q.2.2++(M.drop (o.1+1 - a).toNat++B)))) (q.1 - 1))) < 0:=by first | (simp [hlt] at hc2; omega) | grind
    rw [Jd1,e1,e2 hlt] at hcc
    omega
   left
   exact List.eq_nil_of_length_eq_zero (by omega)
  have hfin:=Jm4 (key:=key) (x:=(nth M (o.1 - a))) (M:=M.take (o.1 - a).toNat) (by rw [hq3]; exact ho3) (Jro (Srt.left (b:=q.2.2) (by rw [hq3]; exact ho3)) hst) hq5 (by rw [hq3]; exact ho4)
  rw [← Jby (xs:=M) (by omega) (by omega),show o.1 - a+1=o.1+1 - a by omega] at hfin
  refine Cv (Qe (Qe (Qx (Qb (Qc (Ny 1 ?_))))))
  refine Wk 1 Za ?_
  exact Wd (QS.head ((o.1+1,q.2.1++(nth M (o.1 - a))::q.2.2)) rfl (congrArg (fun l=>[oT cEntry 84 v (l),roS p,R]) (by simp)) ⟨⟨by show a+1≤o.1+1; omega,by show o.1+1≤b∨b≤a; omega,hfin.1,hfin.2⟩,by show (b - (o.1+1)).toNat < (b - o.1).toNat; omega⟩)
 have hdr:M.drop (o.1 - a).toNat=[]:=List.drop_of_length_le (by omega)
 have htk:M.take (o.1 - a).toNat=M:=List.take_of_length_le (by omega)
 rw [htk] at ho4
 rw [hdr]
 exact Cv (Qe (Qe (Qx (out0 (Or.inr rfl) rfl (fun u hu=>⟨o.2,⟨ho3,ho4⟩,rfl,hu⟩)))))
theorem J62 {w u:World} (p:World→Prop) (R:SA)  (fn:FuncId) (cap:List Value) (hent:Ent Tryz.prog fn) (key:Entr→Int) (hcmp:∀ (x y:Entr) (u:World),p u→Calls Tryz.prog fn ([.agg (cEntry.cells x).toArray,.agg (cEntry.cells y).toArray]++cap:List Value).toArray u (RetB u (.int .i64 (cmpK (key x) (key y))))) (v:Value) (N:Nat) (ih:∀ (A X Y B:List Entr) (a m b:Int) (u:World) (ha:a=A.length) (hm1:m=a+X.length) (hb:b=m+Y.length) (h1:0 < X.length) (h2:0 < Y.length) (hN:X.length+Y.length≤N) (hX:Srt key X) (hY:Srt key Y) (hm:(A.length:Int)+X.length+Y.length+B.length≤1000000) (hu:St w.heap.size w [oT cEntry 84 v (A++(X++(Y++B))),roS p,R] u),Calls Tryz.prog 176 #[v,.int .i64 a,.int .i64 m,.int .i64 b,.func (.func fn) #[] cap.toArray] u (fun e u'=>∃ M':List Entr,(Srt key M'∧Eqv key (X++Y) M')∧e = .returned (.tuple #[])∧St w.heap.size w [oT cEntry 84 v (A++(M'++B)),roS p,R] u')) (A X Y B:List Entr) (a m b:Int) (ha:a=A.length) (hm1:m=a+X.length) (hb:b=m+Y.length) (h1:0 < X.length) (h2:0 < Y.length) (hN:X.length+Y.length≤N+1) (hX:Srt key X) (hY:Srt key Y) (hm:(A.length:Int)+X.length+Y.length+B.length≤1000000) (hu:St w.heap.size w [oT cEntry 84 v (A++(X++(Y++B))),roS p,R] u) :
  Calls Tryz.prog 176 #[v,.int .i64 a,.int .i64 m,.int .i64 b,.func (.func fn) #[] cap.toArray] u (fun e u'=>∃ M':List Entr,(Srt key M'∧Eqv key (X++Y) M')∧e = .returned (.tuple #[])∧St w.heap.size w [oT cEntry 84 v (A++(M'++B)),roS p,R] u'):=by
 have hXs:=Jss (A:=A) (Z:=Y++B) hX ha hm1
 have hYs:∀ i j:Int,m≤i→i≤j→j < b→key (nth (A++(X++(Y++B))) i)≤key (nth (A++(X++(Y++B))) j):=by
  have h:=Jss (A:=A++X) (Z:=B) hY (a:=m) (m:=b) (by simp; omega) (by omega)
  simpa only [List.append_assoc] using h
 obtain ⟨Q1,hQ1⟩:∃ Q:Int→Prop,∀ k,Q k ↔ key (nth (A++(X++(Y++B))) a)≤key (nth (A++(X++(Y++B))) k):=⟨_,fun _=>Iff.rfl⟩
 have hMQ1:Mono Q1 m b:=fun k l k0 k1 k2 q=>(hQ1 l).2 (Int.le_trans ((hQ1 k).1 q) (hYs k l k0 k1 k2))
 obtain ⟨Q2,hQ2⟩:∃ Q:Int→Prop,∀ k,Q k ↔ key (nth (A++(X++(Y++B))) m) < key (nth (A++(X++(Y++B))) k):=⟨_,fun _=>Iff.rfl⟩
 have hMQ2:Mono Q2 a m:=fun k l k0 k1 k2 q=>(hQ2 l).2 (Int.lt_of_lt_of_le ((hQ2 k).1 q) (hXs k l k0 k1 k2))
 have hlen:(((A++(X++(Y++B))).length:Nat):Int)=A.length+X.length+Y.length+B.length:=by simp; omega
 refine Jb0 hu Tryz.func176 rfl rfl (Nat.le_of_ble_eq_true rfl) ?_
 refine Cs (Nz 2 ?_)
 refine Wk 1 Zb ?_
 refine Wd (Qc (CS.cond rfl ?_ ?_))<;>intro hc1<;>try simp only [bq] at hc1
 ·
  obtain ⟨x,hX1⟩:=List.length_eq_one_iff.1 (show X.length=1 by omega)
  refine Nz 2 ?_
  refine Wd (Qc (Nz 2 ?_))
  refine Wd (Qc (Cs (Ce ?_)))
  refine CS.loopM (σ:=Int × Int) [12,31,32,33,34,35,36,37,38,39,40,41,42,43,44,45,46,47,48,49,50,51,52,53] (fun s=>[(10,.int .i64 s.1),(11,.int .i64 s.2)]) (fun _=>_) (fun s=>m≤s.1∧s.1≤s.2∧s.2≤b∧(∀ k:Int,m≤k→k < s.1→¬ Q1 k)∧∀ k:Int,s.2≤k→k < b→Q1 k) (fun s=>(s.2 - s.1).toNat) (m,b) (fun _ _=>rfl) rfl rfl ⟨Int.le_refl _,by show m≤b; omega,Int.le_refl _,fun k k0 k1=>absurd (show k < m from k1) (by omega),fun k k0 k1=>absurd (show b≤k from k0) (by omega)⟩ ?_
  intro f t hs
  obtain ⟨hf1,hf2,hf3,hf4,hf5⟩:=hs
  refine Cs (Nz 3 ?_)
  refine Wd (Qc (CS.cond rfl ?_ ?_))<;>intro hc2<;>try simp only [bq] at hc2
  ·
   refine Ck (Qc (Ce (Nz 2 ?_)))
   refine Wk 0 Za ?_
   refine Wk 0 (Jf2 Tryz.underlying3 Tryz.underlying274 rfl ⟨by omega,by omega⟩) ?_
   refine Wk 0 (Jej rfl rfl) ?_
   refine Wk 1 (Jdw Tryz.underlying274 Tryz.underlying3 rfl ⟨by omega,by omega⟩) ?_
   refine Wd (Qc (Cs (Dr Jah 3 ?_)))
   refine Dk 0 (Jaf (j:=0) sl67 rfl rfl rfl rfl (by first | omega | (rw [List.length_set]; omega)) (by first | omega | (rw [List.length_set]; omega))) ?_
   refine Dk 2 (Jbf (j:=0) rfl rfl rfl ⟨(by first | omega | (rw [List.length_set]; omega)),(by first | omega | (rw [List.length_set]; omega))⟩ rfl tk84) ?_
   refine Dk 0 (Jaf (j:=0) sl67 rfl rfl rfl rfl (by first | omega | (rw [List.length_set]; omega)) (by first | omega | (rw [List.length_set]; omega))) ?_
   refine Dk 0 (Jbf (j:=0) rfl rfl rfl ⟨(by first | omega | (rw [List.length_set]; omega)),(by first | omega | (rw [List.length_set]; omega))⟩ rfl tk84) ?_
   refine Dk 1 (Cb rfl rfl hent (fun u hu=>hcmp _ _ u (hu.ro (j:=1) rfl))) ?_
   refine Dd (Qc (CS.cond rfl ?_ ?_))<;>intro hc3<;>try simp only [bq] at hc3
   ·
    have hq:¬ Q1 ((f.1+f.2) / 2):=by rw [hQ1]; have h9:=Jd1.1 hc3; omega
    refine Ny 1 ?_
    refine Wk 1 Za ?_
    exact Wd (Qb (QS.head ((((f.1+f.2) / 2)+1,f.2)) rfl rfl ⟨⟨by show m≤((f.1+f.2) / 2)+1; omega,by show ((f.1+f.2) / 2)+1≤f.2; omega,hf3,Jiy hMQ1 (by omega) hq,hf5⟩,by show (f.2 - (((f.1+f.2) / 2)+1)).toNat < (f.2 - f.1).toNat; omega⟩))
   have hq:Q1 ((f.1+f.2) / 2):=by rw [hQ1]; exact Jg9.1 (by simpa using hc3)
   refine Ny 2 ?_
   exact Wd (Qb (QS.head ((f.1,((f.1+f.2) / 2))) rfl rfl ⟨⟨hf1,by show f.1≤((f.1+f.2) / 2); omega,by show ((f.1+f.2) / 2)≤b; omega,hf4,Jip hMQ1 (by omega) hq⟩,by show (((f.1+f.2) / 2) - f.1).toNat < (f.2 - f.1).toNat; omega⟩))
  refine Cv (Qe (Qe (Qx (Qc (Cs (Nz 2 ?_))))))
  refine Wd (Qc (Ce ?_))
  refine CS.loopM (σ:=Int) [55,56,57,58,59,60,61,62,63,64,65,66,67,68,69,70,71,72,73,74,75,76] (fun s=>[(13,.int .i64 s)]) (fun s=>[oT cEntry 84 v (lk A x Y B (s - a)),roS p,R]) (fun s=>a≤s∧s≤f.1 - 1) (fun s=>(f.1 - 1 - s).toNat) a (fun _ _=>rfl) rfl (congrArg (fun l=>[oT cEntry 84 v (l),roS p,R]) (by rw [Int.sub_self,hX1]; exact lk_0)) ⟨Int.le_refl _,by omega⟩ ?_
  intro k t hs
  obtain ⟨hk1,hk2⟩:=hs
  have hlk:(((lk A x Y B (k - a)).length:Nat):Int)=A.length+Y.length+B.length+1:=by rw [Jr3]; omega
  refine Cs (Nz 2 ?_)
  refine Wk 1 Zb ?_
  refine Wd (Qc (CS.cond rfl ?_ ?_))<;>intro hc4<;>try simp only [bq] at hc4
  ·
   refine Ck (Qc (Cs (Ce ?_)))
   refine CS.drawnTill 15 (k:=18) Jah rfl rfl ?_
   refine Tr 18 [0,1,5,6] ?_
   refine Tk 18 7 [] rfl Za ?_
   refine Tk 18 8 [] rfl (Jaf (j:=0) sl67 rfl rfl rfl rfl (by first | omega | (rw [List.length_set]; omega)) (by first | omega | (rw [List.length_set]; omega))) ?_
   refine Tk 18 9 [10,11] rfl (Jbf (j:=0) rfl rfl rfl ⟨(by first | omega | (rw [List.length_set]; omega)),(by first | omega | (rw [List.length_set]; omega))⟩ rfl tk84) ?_
   refine Tk 18 12 [] rfl (Jaf (j:=0) sl67 rfl rfl rfl rfl (by first | omega | (rw [List.length_set]; omega)) (by first | omega | (rw [List.length_set]; omega))) ?_
   refine Tk 18 13 [] rfl (Jbf (j:=0) rfl rfl rfl ⟨(by first | omega | (rw [List.length_set]; omega)),(by first | omega | (rw [List.length_set]; omega))⟩ rfl tk84) ?_
   refine Tk 18 14 [] rfl (Jaf (j:=0) sl67 rfl rfl rfl rfl (by first | omega | (rw [List.length_set]; omega)) (by first | omega | (rw [List.length_set]; omega))) ?_
   refine AT.takeP 2 rfl (by kernel_rfl) rfl (by kernel_rfl) (by kernel_rfl) rfl rfl (Jaw rfl) rfl rfl ?_
   refine AT.takeP 3 rfl (by kernel_rfl) rfl (by kernel_rfl) (by kernel_rfl) rfl rfl (Jaw rfl) rfl rfl ?_
   refine AT.takeP 4 rfl (by kernel_rfl) rfl (by kernel_rfl) (by kernel_rfl) rfl rfl (Jj8 rfl rfl (by omega)) rfl rfl ?_
   refine To 15 rfl ?_
   refine WS.storeTw (C:=cEntry) (nth (lk A x Y B (k - a)) (k+1)) (j:=0) rfl rfl rfl ⟨(by first | omega | (rw [List.length_set]; omega)),(by first | omega | (rw [List.length_set]; omega))⟩ rfl (cEntry.one w _ trivial) (by decide) tk84 rfl ?_
   refine Wd (Qt ?_)
   refine To 16 rfl ?_
   refine Wk 0 (Jaf (j:=0) sl67 rfl rfl rfl rfl (by first | omega | (rw [List.length_set]; omega)) (by first | omega | (rw [List.length_set]; omega))) ?_
   refine Wd (Qt ?_)
   refine To 17 rfl ?_
   refine WS.storeTw (C:=cEntry) (nth (lk A x Y B (k - a)) (k)) (j:=0) rfl rfl rfl ⟨(by first | omega | (rw [List.length_set]; omega)),(by first | omega | (rw [List.length_set]; omega))⟩ rfl (cEntry.one w _ trivial) (by decide) tk84 rfl ?_
   refine Wd (Qt ?_)
   refine Te ?_
   refine Qb (Qc (Ny 1 ?_))
   refine Wk 1 Za ?_
   exact Wd (QS.head (k+1) rfl (congrArg (fun l=>[oT cEntry 84 v (l),roS p,R]) (J3x hk1 (by omega) ha)) ⟨⟨by omega,by omega⟩,by omega⟩)
  have hka:k - a=f.1 - m:=by omega
  have hres:=Jop (B:=B) hX1 hY ha (by omega) hb ⟨hf1,by omega⟩ (fun k k0 k1 q=>hf4 k k0 k1 ((hQ1 k).2 q)) (fun k k0 k1=>(hQ1 k).1 (hf5 k (by omega) k1))
  rw [← hka] at hres
  exact Cv (Qe (Qe (Qx (Qc (Cr (Qr (out0 (Or.inl rfl) rfl (fun u hu=>⟨_,hres,rfl,hu.oTe Jm2⟩))))))))
 refine Ck (Qc (Cs (Nz 2 ?_)))
 refine Wk 1 Zb ?_
 refine Wd (Qc (CS.cond rfl ?_ ?_))<;>intro hc5<;>try simp only [bq] at hc5
 ·
  obtain ⟨y,hY1⟩:=List.length_eq_one_iff.1 (show Y.length=1 by omega)
  refine Nz 2 ?_
  refine Wd (Qc (Nz 2 ?_))
  refine Wd (Qc (Cs (Ce ?_)))
  refine CS.loopM (σ:=Int × Int) [16,83,84,85,86,87,88,89,90,91,92,93,94,95,96,97,98,99,100,101,102,103,104,105,106] (fun s=>[(14,.int .i64 s.1),(15,.int .i64 s.2)]) (fun _=>_) (fun s=>a≤s.1∧s.1≤s.2∧s.2≤m∧(∀ k:Int,a≤k→k < s.1→¬ Q2 k)∧∀ k:Int,s.2≤k→k < m→Q2 k) (fun s=>(s.2 - s.1).toNat) (a,m) (fun _ _=>rfl) rfl rfl ⟨Int.le_refl _,by show a≤m; omega,Int.le_refl _,fun k k0 k1=>absurd (show k < a from k1) (by omega),fun k k0 k1=>absurd (show m≤k from k0) (by omega)⟩ ?_
  intro g t hs
  obtain ⟨hg1,hg2,hg3,hg4,hg5⟩:=hs
  refine Cs (Nz 3 ?_)
  refine Wd (Qc (CS.cond rfl ?_ ?_))<;>intro hc6<;>try simp only [bq] at hc6
  ·
   refine Ck (Qc (Ce (Nz 2 ?_)))
   refine Wk 0 Za ?_
   refine Wk 0 (Jf2 Tryz.underlying3 Tryz.underlying274 rfl ⟨by omega,by omega⟩) ?_
   refine Wk 0 (Jej rfl rfl) ?_
   refine Wk 1 (Jdw Tryz.underlying274 Tryz.underlying3 rfl ⟨by omega,by omega⟩) ?_
   refine Wd (Qc (Cs (Dr Jah 3 ?_)))
   refine Dk 0 (Jaf (j:=0) sl67 rfl rfl rfl rfl (by first | omega | (rw [List.length_set]; omega)) (by first | omega | (rw [List.length_set]; omega))) ?_
   refine Dk 2 (Jbf (j:=0) rfl rfl rfl ⟨(by first | omega | (rw [List.length_set]; omega)),(by first | omega | (rw [List.length_set]; omega))⟩ rfl tk84) ?_
   refine Dk 0 (Jaf (j:=0) sl67 rfl rfl rfl rfl (by first | omega | (rw [List.length_set]; omega)) (by first | omega | (rw [List.length_set]; omega))) ?_
   refine Dk 0 (Jbf (j:=0) rfl rfl rfl ⟨(by first | omega | (rw [List.length_set]; omega)),(by first | omega | (rw [List.length_set]; omega))⟩ rfl tk84) ?_
   refine Dk 2 (Cb rfl rfl hent (fun u hu=>hcmp _ _ u (hu.ro (j:=1) rfl))) ?_
   refine Dd (Qc (CS.cond rfl ?_ ?_))<;>intro hc7<;>try simp only [bq] at hc7
   ·
    have hq:¬ Q2 ((g.1+g.2) / 2):=by rw [hQ2]; have h9:=Jg9.1 (by simpa using hc7); omega
    refine Ny 1 ?_
    refine Wk 1 Za ?_
    exact Wd (Qb (QS.head ((((g.1+g.2) / 2)+1,g.2)) rfl rfl ⟨⟨by show a≤((g.1+g.2) / 2)+1; omega,by show ((g.1+g.2) / 2)+1≤g.2; omega,hg3,Jiy hMQ2 (by omega) hq,hg5⟩,by show (g.2 - (((g.1+g.2) / 2)+1)).toNat < (g.2 - g.1).toNat; omega⟩))
   have hq:Q2 ((g.1+g.2) / 2):=by rw [hQ2]; exact Jd1.1 (by simpa using hc7)
   refine Ny 2 ?_
   exact Wd (Qb (QS.head ((g.1,((g.1+g.2) / 2))) rfl rfl ⟨⟨hg1,by show g.1≤((g.1+g.2) / 2); omega,by show ((g.1+g.2) / 2)≤m; omega,hg4,Jip hMQ2 (by omega) hq⟩,by show (((g.1+g.2) / 2) - g.1).toNat < (g.2 - g.1).toNat; omega⟩))
  refine Cv (Qe (Qe (Qx (Qc (Cs (Nz 2 ?_))))))
  refine Wd (Qc (Ce ?_))
  refine CS.loopM (σ:=Int) [108,109,110,111,112,113,114,115,116,117,118,119,120,121,122,123,124,125,126,127,128] (fun s=>[(17,.int .i64 s)]) (fun s=>[oT cEntry 84 v (lk A y X B (s - a)),roS p,R]) (fun s=>g.1≤s∧s≤m) (fun s=>(s - g.1).toNat) m (fun _ _=>rfl) rfl (congrArg (fun l=>[oT cEntry 84 v (l),roS p,R]) (by rw [J3s (by omega),hY1]; rfl)) ⟨by omega,Int.le_refl _⟩ ?_
  intro k t hs
  obtain ⟨hk1,hk2⟩:=hs
  have hlk:(((lk A y X B (k - a)).length:Nat):Int)=A.length+X.length+B.length+1:=by rw [Jr3]; omega
  refine Cs (Nz 3 ?_)
  refine Wd (Qc (CS.cond rfl ?_ ?_))<;>intro hc8<;>try simp only [bq] at hc8
  ·
   refine Ck (Qc (Cs (Ce ?_)))
   refine CS.drawnTill 15 (k:=18) Jah rfl rfl ?_
   refine Tr 18 [0,1,5,6] ?_
   refine Tk 18 7 [] rfl Zb ?_
   refine Tk 18 8 [] rfl (Jaf (j:=0) sl67 rfl rfl rfl rfl (by first | omega | (rw [List.length_set]; omega)) (by first | omega | (rw [List.length_set]; omega))) ?_
   refine Tk 18 9 [10,11] rfl (Jbf (j:=0) rfl rfl rfl ⟨(by first | omega | (rw [List.length_set]; omega)),(by first | omega | (rw [List.length_set]; omega))⟩ rfl tk84) ?_
   refine Tk 18 12 [] rfl (Jaf (j:=0) sl67 rfl rfl rfl rfl (by first | omega | (rw [List.length_set]; omega)) (by first | omega | (rw [List.length_set]; omega))) ?_
   refine Tk 18 13 [] rfl (Jbf (j:=0) rfl rfl rfl ⟨(by first | omega | (rw [List.length_set]; omega)),(by first | omega | (rw [List.length_set]; omega))⟩ rfl tk84) ?_
   refine Tk 18 14 [] rfl (Jaf (j:=0) sl67 rfl rfl rfl rfl (by first | omega | (rw [List.length_set]; omega)) (by first | omega | (rw [List.length_set]; omega))) ?_
   refine AT.takeP 2 rfl (by kernel_rfl) rfl (by kernel_rfl) (by kernel_rfl) rfl rfl (Jaw rfl) rfl rfl ?_
   refine AT.takeP 3 rfl (by kernel_rfl) rfl (by kernel_rfl) (by kernel_rfl) rfl rfl (Jaw rfl) rfl rfl ?_
   refine AT.takeP 4 rfl (by kernel_rfl) rfl (by kernel_rfl) (by kernel_rfl) rfl rfl (Jhd rfl rfl (by omega)) rfl rfl ?_
   refine To 15 rfl ?_
   refine WS.storeTw (C:=cEntry) (nth (lk A y X B (k - a)) (k - 1)) (j:=0) rfl rfl rfl ⟨(by first | omega | (rw [List.length_set]; omega)),(by first | omega | (rw [List.length_set]; omega))⟩ rfl (cEntry.one w _ trivial) (by decide) tk84 rfl ?_
   refine Wd (Qt ?_)
   refine To 16 rfl ?_
   refine Wk 0 (Jaf (j:=0) sl67 rfl rfl rfl rfl (by first | omega | (rw [List.length_set]; omega)) (by first | omega | (rw [List.length_set]; omega))) ?_
   refine Wd (Qt ?_)
   refine To 17 rfl ?_
   refine WS.storeTw (C:=cEntry) (nth (lk A y X B (k - a)) (k)) (j:=0) rfl rfl rfl ⟨(by first | omega | (rw [List.length_set]; omega)),(by first | omega | (rw [List.length_set]; omega))⟩ rfl (cEntry.one w _ trivial) (by decide) tk84 rfl ?_
   refine Wd (Qt ?_)
   refine Te ?_
   refine Qb (Qc (Ny 1 ?_))
   refine Wk 1 Zb ?_
   exact Wd (QS.head (k - 1) rfl (congrArg (fun l=>[oT cEntry 84 v (l),roS p,R]) (Jsh (by omega) (by omega) ha)) ⟨⟨by omega,by omega⟩,by omega⟩)
  have hka:k - a=g.1 - a:=by omega
  have hres:=Jl5 (B:=B) hX hY1 ha hm1 ⟨hg1,by omega⟩ (fun k k0 k1 q=>hg4 k k0 k1 ((hQ2 k).2 q)) (fun k k0 k1=>(hQ2 k).1 (hg5 k (by omega) k1))
  rw [← hka] at hres
  exact Cv (Qe (Qe (Qx (Qc (Cr (Qr (out0 (Or.inl rfl) rfl (fun u hu=>⟨_,hres,rfl,hu.oTe Jm2⟩))))))))
 refine Ck (Qc (Nz 2 ?_))
 refine Wk 0 Za ?_
 refine Wk 0 (Jf2 Tryz.underlying3 Tryz.underlying274 rfl ⟨by omega,by omega⟩) ?_
 refine Wk 0 (Jej rfl rfl) ?_
 refine Wk 1 (Jdw Tryz.underlying274 Tryz.underlying3 rfl ⟨by omega,by omega⟩) ?_
 refine Wd (Qc (Nz 2 ?_))
 refine Wk 1 Za ?_
 refine Wd (Qc (Nz 2 ?_))
 refine Wd (Qc ?_)
 refine CS.cut (σ:=Int × Int) [138,139,140,141,142,143,144,145,146] (fun s=>[(20,.int .i64 s.1),(21,.int .i64 s.2)]) (fun s=>[oT cEntry 84 v (A++(X++(Y++B))),roS p,R]) (fun s=>(((a+b) / 2) < m∧s.1=((a+b) / 2)+m - b∧s.2=((a+b) / 2))∨(m≤((a+b) / 2)∧s.1=a∧s.2=m)) (fun _ _=>rfl) ?_ ?_
 ·
  refine Nz 3 ?_
  refine Wd (Qc (CS.cond rfl ?_ ?_))<;>intro hc9<;>try simp only [bq] at hc9
  ·
   refine Nz 2 ?_
   refine Wk 1 Zb ?_
   refine Wd (Qc (Ny 2 ?_))
   exact Wd (QS.head ((((a+b) / 2)+m - b,((a+b) / 2))) rfl rfl (.inl ⟨by omega,rfl,rfl⟩))
  refine Nz 2 ?_
  refine Wd (Qc (Ny 2 ?_))
  exact Wd (QS.head ((a,m)) rfl rfl (.inr ⟨by omega,rfl,rfl⟩))
 intro c t hs
 obtain ⟨Q3,hQ3⟩:∃ Q:Int→Prop,∀ k,Q k ↔ key (nth (A++(X++(Y++B))) (((a+b) / 2)+m - 1 - k)) < key (nth (A++(X++(Y++B))) k):=⟨_,fun _=>Iff.rfl⟩
 have hMQ3:Mono Q3 c.1 c.2:=fun k l k0 k1 k2 q=>(hQ3 l).2 (by
  have e1:=(hQ3 k).1 q
  have e2:=hYs (((a+b) / 2)+m - 1 - l) (((a+b) / 2)+m - 1 - k) (by omega) (by omega) (by omega)
  have e3:=hXs k l (by omega) (by omega) (by omega)
  omega)
 refine Nz 1 ?_
 refine Wk 1 Zb ?_
 refine Wd (Qc (Cs (Ce ?_)))
 refine CS.loopM (σ:=Int × Int) [23,149,150,151,152,153,154,155,156,157,158,159,160,161,162,163,164,165,166,167,168,169,170,171,172,173,174] (fun s=>[(20,.int .i64 s.1),(21,.int .i64 s.2)]) (fun _=>_) (fun s=>c.1≤s.1∧s.1≤s.2∧s.2≤c.2∧(∀ k:Int,c.1≤k→k < s.1→¬ Q3 k)∧∀ k:Int,s.2≤k→k < c.2→Q3 k) (fun s=>(s.2 - s.1).toNat) (c.1,c.2) (fun _ _=>rfl) rfl rfl ⟨Int.le_refl _,by show c.1≤c.2; omega,Int.le_refl _,fun k k0 k1=>absurd (show k < c.1 from k1) (by omega),fun k k0 k1=>absurd (show c.2≤k from k0) (by omega)⟩ ?_
 intro q t hs
 obtain ⟨hq1,hq2,hq3,hq4,hq5⟩:=hs
 refine Cs (Nz 3 ?_)
 refine Wd (Qc (CS.cond rfl ?_ ?_))<;>intro hc10<;>try simp only [bq] at hc10
 ·
  refine Ck (Qc (Ce (Nz 2 ?_)))
  refine Wk 0 Za ?_
  refine Wk 0 (Jf2 Tryz.underlying3 Tryz.underlying274 rfl ⟨by omega,by omega⟩) ?_
  refine Wk 0 (Jej rfl rfl) ?_
  refine Wk 1 (Jdw Tryz.underlying274 Tryz.underlying3 rfl ⟨by omega,by omega⟩) ?_
  refine Wd (Qc (Cs (Dr Jah 4 ?_)))
  refine Dk 0 Zb ?_
  refine Dk 0 (Jaf (j:=0) sl67 rfl rfl rfl rfl (by first | omega | (rw [List.length_set]; omega)) (by first | omega | (rw [List.length_set]; omega))) ?_
  refine Dk 2 (Jbf (j:=0) rfl rfl rfl ⟨(by first | omega | (rw [List.length_set]; omega)),(by first | omega | (rw [List.length_set]; omega))⟩ rfl tk84) ?_
  refine Dk 0 (Jaf (j:=0) sl67 rfl rfl rfl rfl (by first | omega | (rw [List.length_set]; omega)) (by first | omega | (rw [List.length_set]; omega))) ?_
  refine Dk 0 (Jbf (j:=0) rfl rfl rfl ⟨(by first | omega | (rw [List.length_set]; omega)),(by first | omega | (rw [List.length_set]; omega))⟩ rfl tk84) ?_
  refine Dk 2 (Cb rfl rfl hent (fun u hu=>hcmp _ _ u (hu.ro (j:=1) rfl))) ?_
  refine Dd (Qc (CS.cond rfl ?_ ?_))<;>intro hc11<;>try simp only [bq] at hc11
  ·
   have hq:¬ Q3 ((q.1+q.2) / 2):=by rw [hQ3]; have h9:=Jg9.1 (by simpa using hc11); omega
   refine Ny 1 ?_
   refine Wk 1 Za ?_
   exact Wd (Qb (QS.head ((((q.1+q.2) / 2)+1,q.2)) rfl rfl ⟨⟨by show c.1≤((q.1+q.2) / 2)+1; omega,by show ((q.1+q.2) / 2)+1≤q.2; omega,hq3,Jiy hMQ3 (by omega) hq,hq5⟩,by show (q.2 - (((q.1+q.2) / 2)+1)).toNat < (q.2 - q.1).toNat; omega⟩))
  have hq:Q3 ((q.1+q.2) / 2):=by rw [hQ3]; exact Jd1.1 (by simpa using hc11)
  refine Ny 2 ?_
  exact Wd (Qb (QS.head ((q.1,((q.1+q.2) / 2))) rfl rfl ⟨⟨hq1,by show q.1≤((q.1+q.2) / 2); omega,by show ((q.1+q.2) / 2)≤c.2; omega,hq4,Jip hMQ3 (by omega) hq⟩,by show (((q.1+q.2) / 2) - q.1).toNat < (q.2 - q.1).toNat; omega⟩))
 have hqe:q.1=q.2:=by omega
 obtain ⟨hr,g1,g2⟩:=Joq (B:=B) hX hY ha hm1 hb (mid:=((a+b) / 2)) (n:=((a+b) / 2)+m) (s0:=c.1) (r0:=c.2) (s:=q.1) ⟨by omega,by omega,by omega⟩ rfl hs ⟨hq1,by omega⟩ (fun k k0 k1=>by have h9:=hq4 k k0 k1; rw [hQ3] at h9; omega) (fun k k0 k1=>(hQ3 k).1 (hq5 k (by omega) k1))
 obtain ⟨X1,X2,Y1,Y2,hXX,hYY,l1,l2,g3,g4⟩:∃ X1 X2 Y1 Y2:List Entr,X=X1++X2∧Y=Y1++Y2∧(X1.length:Int)=q.1 - a∧(Y1.length:Int)=((a+b) / 2) - q.1∧(∀ x∈X2,∀ y∈Y1,key y < key x)∧∀ x∈X1,∀ y∈Y2,key x≤key y:=⟨_,_,_,_,(List.take_append_drop _ _).symm,(List.take_append_drop _ _).symm,by rw [List.length_take]; omega,by rw [List.length_take]; omega,g1,g2⟩
 subst hXX; subst hYY
 rw [List.length_append] at h1 h2 hm1 hb hm hlen hN
 rw [List.length_append] at hm hlen hN
 refine Cv (Qe (Qe (Qx (Qc (Nz 2 ?_)))))
 refine Wk 1 Zb ?_
 refine Wd (Qc ?_)
 refine CS.cut (σ:=Unit) [178,179,180,181,182,183,184,185,186,187,188,189,190,191] (fun s=>[]) (fun s=>[oT cEntry 84 v (A++(X1++(Y1++(X2++(Y2++B))))),roS p,R]) (fun s=>True) (fun _ _=>rfl) ?_ ?_
 ·
  refine Nz 4 ?_
  refine Wt 0 rfl rfl (fun hg=>Fm) ?_
  refine Wt 0 rfl rfl (fun hg=>Fm) ?_
  refine Wt 0 rfl rfl (fun hg=>Fl) ?_
  refine Wk 0 Pa ?_
  refine Wd (Qc (CS.cond rfl ?_ ?_))<;>intro hc12<;>try simp only [bq] at hc12
  ·
   refine Ny 5 ?_
   refine WS.weak (L':=[oT cEntry 84 v ((A++X1)++(X2++(Y1++(Y2++B)))),roS p,R]) (fun u hu=>hu.oTe (by simp)) ?_
   refine WS.callS (β:=Unit) (p:=fun _=>True) (v:=fun _=>.tuple #[]) (L':=fun _=>[oT cEntry 84 v ((A++X1)++(Y1++(X2++(Y2++B)))),roS p,R]) rfl rfl J8k (fun u hu=>Calls.mono (J9m p R fn cap v (A++X1) X2 Y1 (Y2++B) _ _ _ (by first | omega | (simp; omega)) (by first | omega | (simp; omega)) (by first | omega | (simp; omega)) (by first | omega | (simp; omega)) (by first | omega | (simp; omega)) (by first | omega | (simp; omega)) hu) fun e u2 h=>⟨(),trivial,h.1,h.2⟩) (fun _=>rfl) ?_; rintro ⟨⟩ -
   exact Wd (QS.head (()) rfl (congrArg (fun l=>[oT cEntry 84 v (l),roS p,R]) (by simp)) trivial)
  have hor:X2=[]∨Y1=[]:=by
   by_cases h:q.1 < m
   ·
    right; exact List.eq_nil_of_length_eq_zero (by have h9:=hc12; simp [h] at h9; omega)
   left; exact List.eq_nil_of_length_eq_zero (by omega)
  exact Ck (QS.head (()) rfl (congrArg (fun l=>[oT cEntry 84 v (l),roS p,R]) (by rcases hor with h | h <;> simp [h])) trivial)
 intro z t hs
 refine CS.cut (σ:=List Entr) [192,193,194,195,196,197,198,199,200,201,202,203,204,205] (fun s=>[]) (fun s=>[oT cEntry 84 v (A++(s++(X2++(Y2++B)))),roS p,R]) (fun s=>Srt key s∧Eqv key (X1++Y1) s) (fun _ _=>rfl) ?_ ?_
 ·
  refine Nz 4 ?_
  refine Wt 0 rfl rfl (fun hg=>Fm) ?_
  refine Wt 0 rfl rfl (fun hg=>Fm) ?_
  refine Wt 0 rfl rfl (fun hg=>Fl) ?_
  refine Wk 0 Pa ?_
  refine Wd (Qc (CS.cond rfl ?_ ?_))<;>intro hc13<;>try simp only [bq] at hc13
  ·
   refine Ny 5 ?_
   refine WS.weak (L':=[oT cEntry 84 v ((A)++((X1)++((Y1)++(X2++(Y2++B))))),roS p,R]) (fun u hu=>hu.oTe (rfl)) ?_
   refine WS.callS (β:=List Entr) (p:=fun M'=>Srt key M'∧Eqv key ((X1)++(Y1)) M') (v:=fun _=>.tuple #[]) (L':=fun M'=>[oT cEntry 84 v ((A)++(M'++(X2++(Y2++B)))),roS p,R]) rfl rfl Jsi (fun u hu=>ih (A) (X1) (Y1) (X2++(Y2++B)) _ _ _ u (by first | omega | (simp; omega)) (by first | omega | (simp; omega)) (by first | omega | (simp; omega)) (by first | omega | (simp; omega)) (by first | omega | (simp; omega)) (by first | omega | (simp; omega)) hX.left hY.left (by first | omega | (simp; omega)) hu) (fun _=>rfl) ?_; rintro Mc ⟨hMcs,hMce⟩
   exact Wd (QS.head (Mc) rfl rfl ⟨hMcs,hMce⟩)
  have hor2:X1=[]∨Y1=[]:=by
   by_cases h:a < q.1
   ·
    right; exact List.eq_nil_of_length_eq_zero (by have h9:=hc13; simp [h] at h9; omega)
   left; exact List.eq_nil_of_length_eq_zero (by omega)
  have hMas:Srt key (X1++Y1):=by
   rcases hor2 with h | h
   ·
    rw [h]; exact hY.left
   rw [h,List.append_nil]; exact hX.left
  exact Ck (QS.head (X1++Y1) rfl (congrArg (fun l=>[oT cEntry 84 v (l),roS p,R]) (by simp)) ⟨hMas,Eqv.refl _⟩)
 intro Ma t hs
 obtain ⟨hMas,hMae⟩:=hs
 have hMal:=hMae.len
 rw [List.length_append] at hMal
 refine Nz 4 ?_
 refine Wt 0 rfl rfl (fun hg=>Fm) ?_
 refine Wt 0 rfl rfl (fun hg=>Fm) ?_
 refine Wt 0 rfl rfl (fun hg=>Fl) ?_
 refine Wk 0 Pa ?_
 refine Wd (Qc (CS.cond rfl ?_ ?_))<;>intro hc14<;>try simp only [bq] at hc14
 ·
  refine Ny 5 ?_
  refine WS.weak (L':=[oT cEntry 84 v ((A++Ma)++((X2)++((Y2)++(B)))),roS p,R]) (fun u hu=>hu.oTe (by simp)) ?_
  refine WS.callS (β:=List Entr) (p:=fun M'=>Srt key M'∧Eqv key ((X2)++(Y2)) M') (v:=fun _=>.tuple #[]) (L':=fun M'=>[oT cEntry 84 v ((A++Ma)++(M'++(B))),roS p,R]) rfl rfl Jsi (fun u hu=>ih (A++Ma) (X2) (Y2) (B) _ _ _ u (by first | omega | (simp; omega)) (by first | omega | (simp; omega)) (by first | omega | (simp; omega)) (by first | omega | (simp; omega)) (by first | omega | (simp; omega)) (by first | omega | (simp; omega)) hX.right hY.right (by first | omega | (simp; omega)) hu) (fun _=>rfl) ?_; rintro Mb ⟨hMbs,hMbe⟩
  exact Wd (out0 (Or.inr rfl) rfl (fun u hu=>⟨Ma++Mb,Jif hX hY g3 g4 hMas hMae hMbs hMbe,rfl,hu.oTe (by first | (simp; done) | (rw [hMbq]; simp))⟩))
 have hor3:X2=[]∨Y2=[]:=by
  by_cases h:((a+b) / 2) < ((a+b) / 2)+m - q.1
  ·
   right; exact List.eq_nil_of_length_eq_zero (by have h9:=hc14; simp [h] at h9; omega)
  left; exact List.eq_nil_of_length_eq_zero (by omega)
 obtain ⟨Mb,hMbs,hMbe,hMbq⟩:∃ Mb:List Entr,Srt key Mb∧Eqv key (X2++Y2) Mb∧X2++(Y2++B)=Mb++B:=⟨X2++Y2,by
  rcases hor3 with h | h
  ·
   rw [h]; exact hY.right
  rw [h,List.append_nil]; exact hX.right,Eqv.refl _,by simp⟩
 exact Ck (out0 (Or.inr rfl) rfl (fun u hu=>⟨Ma++Mb,Jif hX hY g3 g4 hMas hMae hMbs hMbe,rfl,hu.oTe (by first | (simp; done) | (rw [hMbq]; simp))⟩))
theorem Jvn {w:World} (p:World→Prop) (R:SA) (fn:FuncId) (cap:List Value) (hent:Ent Tryz.prog fn) (key:Entr→Int) (hcmp:∀ (x y:Entr) (u:World),p u→Calls Tryz.prog fn ([.agg (cEntry.cells x).toArray,.agg (cEntry.cells y).toArray]++cap:List Value).toArray u (RetB u (.int .i64 (cmpK (key x) (key y))))) (v:Value):∀ N:Nat,∀ (A X Y B:List Entr) (a m b:Int) (u:World) (ha:a=A.length) (hm1:m=a+X.length) (hb:b=m+Y.length) (h1:0 < X.length) (h2:0 < Y.length) (hN:X.length+Y.length≤N) (hX:Srt key X) (hY:Srt key Y) (hm:(A.length:Int)+X.length+Y.length+B.length≤1000000) (hu:St w.heap.size w [oT cEntry 84 v (A++(X++(Y++B))),roS p,R] u),Calls Tryz.prog 176 #[v,.int .i64 a,.int .i64 m,.int .i64 b,.func (.func fn) #[] cap.toArray] u (fun e u'=>∃ M':List Entr,(Srt key M'∧Eqv key (X++Y) M')∧e = .returned (.tuple #[])∧St w.heap.size w [oT cEntry 84 v (A++(M'++B)),roS p,R] u')
 | 0,A,X,Y,B,a,m,b,u,_,_,_,h1,h2,hN,_,_,_,_=>absurd hN (by omega)
 | N+1,A,X,Y,B,a,m,b,u,ha,hm1,hb,h1,h2,hN,hX,hY,hm,hu=>J62 p R fn cap hent key hcmp v N (Jvn p R fn cap hent key hcmp v N) A X Y B a m b ha hm1 hb h1 h2 hN hX hY hm hu
theorem J5w {w u:World} (p:World→Prop) (R:SA)  (fn:FuncId) (cap:List Value) (hent:Ent Tryz.prog fn) (key:Entr→Int) (hcmp:∀ (x y:Entr) (u:World),p u→Calls Tryz.prog fn ([.agg (cEntry.cells x).toArray,.agg (cEntry.cells y).toArray]++cap:List Value).toArray u (RetB u (.int .i64 (cmpK (key x) (key y))))) (v:Value) (xs:List Entr) (n:Int) (hn:n=xs.length) (hm:(xs.length:Int)≤1000000) (hu:St w.heap.size w [oT cEntry 84 v (xs),roS p,R] u) :
  Calls Tryz.prog 133 #[v,.int .i64 n,.func (.func fn) #[] cap.toArray] u (fun e u'=>∃ ys:List Entr,(Srt key ys∧Eqv key xs ys)∧e = .returned (.tuple #[])∧St w.heap.size w [oT cEntry 84 v (ys),roS p,R] u'):=by
 refine Jb0 hu Tryz.func133 rfl rfl (Nat.le_of_ble_eq_true rfl) ?_
 refine Nz 1 ?_
 refine Wd (Qc (Nz 3 ?_))
 refine Wd (Qc (Cs (Ce ?_)))
 refine CS.loopM (σ:=Int × Int × List Entr × List Entr) [11,12,13,14,15,16,17,18,19,20,21,22] (fun s=>[(7,.int .i64 s.1),(8,.int .i64 s.2.1)]) (fun s=>[oT cEntry 84 v (s.2.2.1++s.2.2.2),roS p,R]) (fun s=>s.2.1=s.1+20∧s.1=s.2.2.1.length∧Full key 20 s.2.2.1∧Eqv key xs (s.2.2.1++s.2.2.2)) (fun s=>(n - s.1).toNat) (0,20,[],xs) (fun _ _=>rfl) rfl rfl ⟨rfl,rfl,Full.nil,Eqv.refl _⟩ ?_
 intro o t hs
 obtain ⟨ho1,ho2,ho3,ho4⟩:=hs
 have hol:=ho4.len
 rw [List.length_append] at hol
 refine Cs (Nz 3 ?_)
 refine Wd (Qc (CS.cond rfl ?_ ?_))<;>intro hc1<;>try simp only [bq] at hc1
 ·
  have htl:(o.2.2.2.take 20).length=20:=by rw [List.length_take]; omega
  refine Ck (Qc (Ce (Nz 4 ?_)))
  refine WS.weak (L':=[oT cEntry 84 v ((o.2.2.1)++((o.2.2.2.take 20)++(o.2.2.2.drop 20))),roS p,R]) (fun u hu=>hu.oTe (by rw [List.take_append_drop])) ?_
  refine WS.callS (β:=List Entr) (p:=fun M'=>Srt key M'∧Eqv key (o.2.2.2.take 20) M') (v:=fun _=>.tuple #[]) (L':=fun M'=>[oT cEntry 84 v ((o.2.2.1)++(M'++(o.2.2.2.drop 20))),roS p,R]) rfl rfl J4d (fun u hu=>Jxb p R fn cap hent key hcmp v (o.2.2.1) (o.2.2.2.take 20) (o.2.2.2.drop 20) _ _ (by first | omega | (simp; omega)) (by first | omega | (simp; omega)) (by first | omega | (simp; omega)) hu) (fun _=>rfl) ?_; rintro Ma ⟨hMas,hMae⟩
  refine Wd (Qc (Nz 2 ?_))
  refine Wd (Qc (Ny 2 ?_))
  refine Wk 1 Za ?_
  exact Wd (Qb (QS.head ((o.2.1,o.2.1+20,o.2.2.1++Ma,o.2.2.2.drop 20)) rfl (congrArg (fun l=>[oT cEntry 84 v (l),roS p,R]) (by simp)) ⟨⟨rfl,by simp only [List.length_append]; rw [hMae.len,htl]; omega,ho3.snoc (by rw [hMae.len,htl]) hMas,ho4.trans (by have h:=(Eqv.refl (key:=key) o.2.2.1).app (hMae.app (Eqv.refl (o.2.2.2.drop 20))); rw [List.take_append_drop] at h; simpa using h)⟩,by show (n - o.2.1).toNat < (n - o.1).toNat; omega⟩))
 refine Cv (Qe (Qe (Qx (Qc (Nz 4 ?_)))))
 refine WS.weak (L':=[oT cEntry 84 v ((o.2.2.1)++((o.2.2.2)++([]))),roS p,R]) (fun u hu=>hu.oTe (by rw [List.append_nil])) ?_
 refine WS.callS (β:=List Entr) (p:=fun M'=>Srt key M'∧Eqv key (o.2.2.2) M') (v:=fun _=>.tuple #[]) (L':=fun M'=>[oT cEntry 84 v ((o.2.2.1)++(M'++([]))),roS p,R]) rfl rfl J4d (fun u hu=>Jxb p R fn cap hent key hcmp v (o.2.2.1) (o.2.2.2) ([]) _ _ (by first | omega | (simp; omega)) (by first | omega | (simp; omega)) (by first | omega | (simp; omega)) hu) (fun _=>rfl) ?_; rintro Mb ⟨hMbs,hMbe⟩
 refine Wd (Qc (Ce ?_))
 refine CS.loopM (σ:=Int × List Entr) [7,8,9,28,29,30,31,32,33,34,35,36,37,38,39,40,41,42,43,44,45,46,47,48,49,50,51,52,53,54,55,56,57,58,59,60,61,62] (fun s=>[(6,.int .i64 s.1)]) (fun s=>[oT cEntry 84 v (s.2),roS p,R]) (fun s=>20≤s.1∧s.1≤2000000∧Blk key s.1.toNat s.2∧Eqv key xs s.2) (fun s=>(n - s.1).toNat) (20,o.2.2.1++Mb) (fun _ _=>rfl) rfl (congrArg (fun l=>[oT cEntry 84 v (l),roS p,R]) (by simp)) ⟨Int.le_refl _,by show (20:Int)≤2000000; omega,ho3.blk (.last (by show Mb.length≤20; rw [hMbe.len]; omega) hMbs),ho4.trans ((Eqv.refl _).app hMbe)⟩ ?_
 intro x t hs
 obtain ⟨hx1,hx2,hx3,hx4⟩:=hs
 have hxl:=hx4.len
 refine Cs (Nz 3 ?_)
 refine Wd (Qc (CS.cond rfl ?_ ?_))<;>intro hc2<;>try simp only [bq] at hc2
 ·
  refine Ck (Qc (Ce (Nz 1 ?_)))
  refine Wk 2 Zc ?_
  refine Wd (Qc (Cs (Ce ?_)))
  refine CS.loopM (σ:=Int × Int × List Entr × List Entr) [33,34,35,36,37,38,39,40,41,42,43,44,45,46,47,48] (fun s=>[(7,.int .i64 s.1),(8,.int .i64 s.2.1)]) (fun s=>[oT cEntry 84 v (s.2.2.1++s.2.2.2),roS p,R]) (fun s=>s.2.1=s.1+2 * x.1∧s.1=s.2.2.1.length∧Full key (2 * x.1).toNat s.2.2.1∧Blk key x.1.toNat s.2.2.2∧Eqv key xs (s.2.2.1++s.2.2.2)) (fun s=>(n - s.1).toNat) (0,2 * x.1,[],x.2) (fun _ _=>rfl) rfl rfl ⟨by show 2 * x.1=0+2 * x.1; omega,rfl,Full.nil,hx3,hx4⟩ ?_
  intro y t hs
  obtain ⟨hy1,hy2,hy3,hy4,hy5⟩:=hs
  have hyl:=hy5.len
  rw [List.length_append] at hyl
  refine Cs (Nz 3 ?_)
  refine Wd (Qc (CS.cond rfl ?_ ?_))<;>intro hc3<;>try simp only [bq] at hc3
  ·
   obtain ⟨b1,c1,r1,hT,l1,l2,k1,k2,k3⟩:=hy4.split2 (by omega) (by omega)
   have hTl:=congrArg List.length hT
   simp only [List.length_append] at hTl
   refine Ck (Qc (Ce (Nz 4 ?_)))
   refine Wk 2 Za ?_
   refine WS.weak (L':=[oT cEntry 84 v ((y.2.2.1)++((b1)++((c1)++(r1)))),roS p,R]) (fun u hu=>hu.oTe (by rw [hT])) ?_
   refine WS.callS (β:=List Entr) (p:=fun M'=>Srt key M'∧Eqv key ((b1)++(c1)) M') (v:=fun _=>.tuple #[]) (L':=fun M'=>[oT cEntry 84 v ((y.2.2.1)++(M'++(r1))),roS p,R]) rfl rfl Jsi (fun u hu=>Jvn p R fn cap hent key hcmp v (b1.length+c1.length) (y.2.2.1) b1 c1 (r1) _ _ _ u (by first | omega | (simp; omega)) (by first | omega | (simp; omega)) (by first | omega | (simp; omega)) (by first | omega | (simp; omega)) (by first | omega | (simp; omega)) (Nat.le_refl _) k1 k2 (by first | omega | (simp; omega)) hu) (fun _=>rfl) ?_; rintro Mc ⟨hMcs,hMce⟩
   refine Wd (Qc (Nz 2 ?_))
   refine Wd (Qc (Ny 2 ?_))
   refine Wk 0 Zc ?_
   refine Wk 1 Za ?_
   exact Wd (Qb (QS.head ((y.2.1,y.2.1+2 * x.1,y.2.2.1++Mc,r1)) rfl (congrArg (fun l=>[oT cEntry 84 v (l),roS p,R]) (by simp)) ⟨⟨rfl,by simp only [List.length_append]; rw [hMce.len,List.length_append]; omega,hy3.snoc (by rw [hMce.len,List.length_append]; omega) hMcs,k3,hy5.trans (by rw [hT]; have h:=(Eqv.refl (key:=key) y.2.2.1).app (hMce.app (Eqv.refl r1)); simpa using h)⟩,by show (n - y.2.1).toNat < (n - y.1).toNat; omega⟩))
  refine Cv (Qe (Qe (Qx (Qc (Cs (Nz 2 ?_))))))
  refine Wk 1 Za ?_
  refine Wd (Qc (Nz 3 ?_))
  refine Wd (Qc (CS.cond rfl ?_ ?_))<;>intro hc4<;>try simp only [bq] at hc4
  ·
   obtain ⟨b1,r1,hT,l1,k1,k2⟩:=hy4.split (by omega)
   have hTl:=congrArg List.length hT
   simp only [List.length_append] at hTl
   have k3:=k2.srt (by omega)
   refine Ny 5 ?_
   refine WS.weak (L':=[oT cEntry 84 v ((y.2.2.1)++((b1)++((r1)++([])))),roS p,R]) (fun u hu=>hu.oTe (by rw [hT,List.append_nil])) ?_
   refine WS.callS (β:=List Entr) (p:=fun M'=>Srt key M'∧Eqv key ((b1)++(r1)) M') (v:=fun _=>.tuple #[]) (L':=fun M'=>[oT cEntry 84 v ((y.2.2.1)++(M'++([]))),roS p,R]) rfl rfl Jsi (fun u hu=>Jvn p R fn cap hent key hcmp v (b1.length+r1.length) (y.2.2.1) b1 r1 ([]) _ _ _ u (by first | omega | (simp; omega)) (by first | omega | (simp; omega)) (by first | omega | (simp; omega)) (by first | omega | (simp; omega)) (by first | omega | (simp; omega)) (Nat.le_refl _) k1 k3 (by first | omega | (simp; omega)) hu) (fun _=>rfl) ?_; rintro Md ⟨hMds,hMde⟩
   refine Wd (Qc (Ny 1 ?_))
   refine Wk 1 Zc ?_
   exact Wd (Qb (QS.head ((x.1 * 2,y.2.2.1++Md)) rfl (congrArg (fun l=>[oT cEntry 84 v (l),roS p,R]) (by simp)) ⟨⟨by show 20≤x.1 * 2; omega,by show x.1 * 2≤2000000; omega,by show Blk key (x.1 * 2).toNat _; rw [show x.1 * 2=2 * x.1 by omega]; exact hy3.blk (.last (by rw [hMde.len,List.length_append]; omega) hMds),hy5.trans (by rw [hT]; exact (Eqv.refl _).app hMde)⟩,by show (n - x.1 * 2).toNat < (n - x.1).toNat; omega⟩))
  have k3:=hy4.srt (by omega)
  refine Ck (Qc (Ny 1 ?_))
  refine Wk 1 Zc ?_
  exact Wd (Qb (QS.head ((x.1 * 2,y.2.2.1++y.2.2.2)) rfl rfl ⟨⟨by show 20≤x.1 * 2; omega,by show x.1 * 2≤2000000; omega,by show Blk key (x.1 * 2).toNat _; rw [show x.1 * 2=2 * x.1 by omega]; exact hy3.blk (.last (by omega) k3),hy5⟩,by show (n - x.1 * 2).toNat < (n - x.1).toNat; omega⟩))
 have hfin:=hx3.srt (by omega)
 exact Cv (Qe (Qe (Qx (out0 (Or.inr rfl) rfl (fun u hu=>⟨x.2,⟨hfin,hx4⟩,rfl,hu⟩)))))
theorem J5o {w u:World} (p:World→Prop) (R:SA)  (fn:FuncId) (cap:List Value) (hent:Ent Tryz.prog fn) (key:Entr→Int) (hcmp:∀ (x y:Entr) (u:World),p u→Calls Tryz.prog fn ([.agg (cEntry.cells x).toArray,.agg (cEntry.cells y).toArray]++cap:List Value).toArray u (RetB u (.int .i64 (cmpK (key x) (key y))))) (v:Value) (xs:List Entr) (hm:(xs.length:Int)≤1000000) (hu:St w.heap.size w [oT cEntry 84 v (xs),roS p,R] u) :
  Calls Tryz.prog 71 #[v,.func (.func fn) #[] cap.toArray] u (fun e u'=>∃ ys:List Entr,(Srt key ys∧Eqv key xs ys)∧e = .returned (.tuple #[])∧St w.heap.size w [oT cEntry 84 v (ys),roS p,R] u'):=by
 refine Jb0 hu Tryz.func71 rfl rfl (Nat.le_of_ble_eq_true rfl) ?_
 refine Ny 2 ?_
 refine Wk 1 (Jds (j:=0) sl67 rfl rfl) ?_
 refine WS.callS (β:=List Entr) (p:=fun ys=>Srt key ys∧Eqv key xs ys) (v:=fun _=>.tuple #[]) (L':=fun ys=>[oT cEntry 84 v (ys),roS p,R]) rfl rfl J9i (fun u hu=>J5w p R fn cap hent key hcmp v xs _ rfl hm hu) (fun _=>rfl) ?_; rintro ys ⟨h1,h2⟩
 exact Wd (out0 (Or.inr rfl) rfl (fun u hu=>⟨ys,⟨h1,h2⟩,rfl,hu⟩))
abbrev keyT (x:Entr):Int:=x.t
def Jl8 (a b:List Entr):Int × List Entr:=if 500 < (a.length:Int)+b.length then (2,[]) else if srtB keyT a && srtB keyT b then (0,Jdf keyT a b) else (120,[])
theorem J7c (n:Int) (h0:0≤n) (h1:n≤1000000) (w:World) :
  Calls Tryz.prog 132 #[.slice none 0 0,.int .i64 n] w (fun e w'=>∃ v':Value,v'.oneCell'=true∧RetF w v' (oT cEntry 84 v' []) e w'):=by
 refine enter Tryz.func132 rfl rfl (Nat.le_of_ble_eq_true rfl) ?_
 refine Nz 1 ?_
 refine Wd (Qc (Cs (Nz 2 ?_)))
 refine Wd (Qc (CS.cond rfl ?_ ?_))<;>intro hc1<;>try simp only [bq] at hc1
 ·
  exact absurd hc1 (by omega)
 refine Ck (Qc (Cs (Nz 2 ?_)))
 refine Wk 1 (Jts sl67 rfl ⟨_,_,rfl⟩) ?_
 refine Wk 0 (Jhm sl67 rfl ⟨_,_,rfl⟩) ?_
 refine Wk 0 Zb ?_
 refine Wk 1 Zb ?_
 refine Wd (Qc (Nz 2 ?_))
 refine Wd (Qc (CS.cond rfl ?_ ?_))<;>intro hc2<;>try simp only [bq] at hc2
 ·
  have hn0:0 < n:=by omega
  refine Ny 2 ?_
  refine Wk 0 (Jts sl67 rfl ⟨_,_,rfl⟩) ?_
  refine Wk 1 (Jwc (n:=0) (c:=0) (p:=none) sl67 rfl rfl (by decide) (by decide)) ?_
  refine WS.appendMade (n:=n) sl67 Tryz.underlying3 zv84 rfl (by decide) rfl (congrArg (fun z=>some (Value.int .i64 z)) (show n - (0 - 0)=n by omega)) hn0 (by omega) (by decide) (fun _ _=>rfl) ?_; intro b22 c22 z22 hc22
  refine Wz 1 ?_
  refine Wk 0 (Jhm sl67 rfl ⟨_,_,rfl⟩) ?_
  refine Wk 1 (Jwc (n:=n.toNat) (c:=c22) (p:=some ⟨b22,0,none⟩) sl67 rfl rfl (by decide) (by omega)) ?_
  refine Wd (Qc (Nz 2 ?_))
  refine Wd (Qc (Cr ?_))
  first | exact out1 rfl rfl (fun u hu=>⟨_,Jr8 rfl,retF (j:=0) rfl u (hu.oslTo (Nat.zero_le _))⟩) | exact out1 rfl rfl (fun u hu=>⟨_,rfl,retF (j:=0) rfl u (hu.osl0 (e:=84) (size:=7))⟩)
 refine Ck (Qc (Nz 2 ?_))
 refine Wd (Qc (Cr ?_))
 first | exact out1 rfl rfl (fun u hu=>⟨_,Jr8 rfl,retF (j:=0) rfl u (hu.oslTo (Nat.zero_le _))⟩) | exact out1 rfl rfl (fun u hu=>⟨_,rfl,retF (j:=0) rfl u (hu.osl0 (e:=84) (size:=7))⟩)
theorem Jyd (x:Sl (Sl Entr)) (w:World) (hx:SlT (cSl cEntry) w x) (hm:((catL x.l).length:Int)≤1000000) :
  Calls Tryz.prog 70 #[x.v] w (fun e w'=>∃ v':Value,v'.oneCell'=true∧RetF w v' (oT cEntry 84 v' (catL x.l)) e w'):=by
 have lx:=hx.le
 have hall:=Jz8 (l:=x.l) x.l.length
 have hta:x.l.take x.l.length=x.l:=List.take_of_length_le (Nat.le_refl _)
 refine enter Tryz.func70 rfl rfl (Nat.le_of_ble_eq_true rfl) ?_
 refine Nz 1 ?_
 refine Wd (Qc (Nz 1 ?_))
 refine Wd (Qc (Cs (Nz 1 ?_)))
 refine Wk 1 Nc ?_
 refine Wd (Qc (Ce ?_))
 refine CS.loopM (σ:=Int × Int) [5,12,13,14,15,16,17,18,19,20,21,22] (fun s=>[(11,.int .i64 s.1),(3,.int .i64 s.2)]) (fun _=>_) (fun s=>0≤s.1∧s.1≤x.l.length∧s.2=(catL (x.l.take s.1.toNat)).length) (fun s=>(x.l.length - s.1).toNat) (0,0) (fun _ _=>rfl) rfl rfl ⟨by simp,by simp,by simp [catL]⟩ ?_
 intro a t hs
 obtain ⟨ha1,ha2,ha3⟩:=hs
 refine Nz 1 ?_
 refine Wd (Qc (Cs (CS.cond rfl ?_ ?_)))<;>intro hc1<;>try simp only [bq] at hc1
 ·
  have hxs:SlT cEntry w (nth x.l a.1):=hx.at ha1 (by omega)
  have hsn:=congrArg List.length (Jmc ha1 (show a.1 < (x.l.length:Int) by omega))
  have hle:=Jz8 (l:=x.l) (a.1+1).toNat
  rw [List.length_append] at hsn
  refine Ck (Qc (Cs (Ce (Nz 0 ?_))))
  refine Wk 0 Xc ?_
  refine Wk 1 Ub ?_
  refine Wd (Qc (Nz 2 ?_))
  refine Wk 0 Nc ?_
  refine Wk 1 Za ?_
  refine Wd (Qc (Nz 2 ?_))
  refine Wd (Qc (CS.cond rfl ?_ ?_))<;>intro hc2<;>try simp only [bq] at hc2
  ·
   exact absurd hc2 (by show ¬ a.2+_ < 0; omega)
  refine Ck (Qb (Qc (Ny 0 ?_)))
  refine Wk 1 Za ?_
  exact Wd (QS.head ((a.1+1,a.2+((nth x.l a.1).l.length:Int))) rfl rfl ⟨⟨by simp; omega,by simp; omega,by show a.2+_=((catL (x.l.take (a.1+1).toNat)).length:Int); omega⟩,by simp; omega⟩)
 have hae:a.1.toNat=x.l.length:=by omega
 rw [hae,hta] at ha3
 refine Cv (Qe (Qe (Qx (Qc (Nz 1 ?_)))))
 refine Wc rfl rfl J92 (fun u hu=>J7c _ (by omega) (by omega) u) (fun _=>rfl) ?_; intro v24 hv24
 refine Wz 1 ?_
 refine Wd (Qc (Cs (Nz 1 ?_)))
 refine Wk 1 Nc ?_
 refine Wd (Qc (Ce ?_))
 refine CS.loopM (σ:=Int × Value) [8,28,29,30,31,32,33,34] (fun s=>[(27,.int .i64 s.1),(6,s.2)]) (fun s=>[oT cEntry 84 s.2 (catL (x.l.take s.1.toNat))]) (fun s=>0≤s.1∧s.1≤x.l.length∧s.2.oneCell'=true) (fun s=>(x.l.length - s.1).toNat) (0,v24) (fun _ _=>rfl) rfl (by simp [catL]) ⟨by simp,by simp,hv24⟩ ?_
 intro q t hs
 obtain ⟨hq1,hq2,hq3⟩:=hs
 refine Nz 1 ?_
 refine Wd (Qc (Cs (CS.cond rfl ?_ ?_)))<;>intro hc3<;>try simp only [bq] at hc3
 ·
  have hxs:SlT cEntry w (nth x.l q.1):=hx.at hq1 (by omega)
  have hsn:=congrArg List.length (Jmc hq1 (show q.1 < (x.l.length:Int) by omega))
  have hle:=Jz8 (l:=x.l) (q.1+1).toNat
  rw [List.length_append] at hsn
  have hone:=hxs.one
  refine Ck (Qc (Cs (Ce (Nz 0 ?_))))
  refine Wk 0 Xc ?_
  refine Wk 1 Ub ?_
  refine Wd (Qc (Ny 2 ?_))
  refine WS.appendTs (C:=cEntry) (s:=nth x.l q.1) (j:=0) sl67 zv84 rfl (by decide) rfl rfl rfl (fun u hu=>hxs.st hu) hone (by omega) (by omega) (fun _=>rfl) (fun _=>rfl) ?_; intro v33 hv33
  refine Wz 1 ?_
  refine Wd (Qb (Qc (Ny 0 ?_)))
  refine Wk 1 Za ?_
  exact Wd (QS.head ((q.1+1,v33)) rfl (by show [_]=[_]; rw [Jmc hq1 (by omega)]) ⟨⟨by simp; omega,by simp; omega,hv33⟩,by simp; omega⟩)
 have hqe:q.1.toNat=x.l.length:=by omega
 refine Cv (Qe (Qe (Qx (Qc (Nz 2 ?_)))))
 exact Wd (Qc (Cr (out1 rfl rfl (fun u hu=>⟨_,hq3,by rw [hqe,hta] at hu; exact retF (j:=0) rfl u hu⟩))))
theorem Jp8 (x y:Entr) (w:World) :
  Calls Tryz.prog 67 #[.agg #[.int .i64 x.t,.int .i64 x.k,.int .i64 x.m.p,.int .i64 x.m.k,.int .i64 x.m.n,.int .i64 x.a,.int .i64 x.b],.agg #[.int .i64 y.t,.int .i64 y.k,.int .i64 y.m.p,.int .i64 y.m.k,.int .i64 y.m.n,.int .i64 y.a,.int .i64 y.b]] w (RetB w (.int .i64 (cmpK (keyT x) (keyT y)))):=by
 refine enter Tryz.func67 rfl rfl (Nat.le_of_ble_eq_true rfl) ?_
 refine Nz 0 ?_
 refine Wb 0 rfl rfl (fun _=>rfl) (fun _=>rfl) fun b2 hb2=>?_
 refine Wb 1 rfl rfl (fun _=>rfl) (fun _=>rfl) fun b3 hb3=>?_
 refine Wd (Qc (Nz 1 ?_))
 refine Wk 1 (Ba 1) ?_
 refine Wk 0 (Ba 0) ?_
 refine Wk 1 (Cb rfl rfl J73 (fun u hu=>Jpg _ _ u)) ?_
 exact Wd (Qc (Cr (out1 rfl rfl retB)))
theorem Jlg (fn:FuncId) (hent:Ent Tryz.prog fn) (key:Entr→Int) (hcmp:∀ (x y:Entr) (u:World),Calls Tryz.prog fn #[.agg #[.int .i64 x.t,.int .i64 x.k,.int .i64 x.m.p,.int .i64 x.m.k,.int .i64 x.m.n,.int .i64 x.a,.int .i64 x.b],.agg #[.int .i64 y.t,.int .i64 y.k,.int .i64 y.m.p,.int .i64 y.m.k,.int .i64 y.m.n,.int .i64 y.a,.int .i64 y.b]] u (RetB u (.int .i64 (cmpK (key x) (key y))))) (x:Sl Entr) (w:World) (hx:SlT cEntry w x) :
  Calls Tryz.prog 69 #[x.v,.func (.func fn) #[] #[]] w (RetB w (.bool (srtB key x.l))):=by
 have lx:=hx.le
 refine enter Tryz.func69 rfl rfl (Nat.le_of_ble_eq_true rfl) ?_
 refine Nz 1 ?_
 refine Wd (Qc (Cs (Nz 1 ?_)))
 refine Wk 0 Nc ?_
 refine Wk 1 Zb ?_
 refine Wd (Qc (Ce ?_))
 refine CS.loopM (σ:=Int) [4,9,10,11,12,13,14,15,16,17,18,19,20,21,22,23,24] (fun s=>[(5,.int .i64 s)]) (fun _=>_) (fun s => -1≤s∧s < x.l.length∧∀ k:Int,s≤k→0≤k→k+1 < x.l.length→key (nth x.l k)≤key (nth x.l (k+1))) (fun s=>s.toNat) ((x.l.length:Int) - 1) (fun _ _=>rfl) rfl rfl ⟨by omega,by omega,fun k h1 h2 h3=>by omega⟩ ?_
 intro s t hs
 obtain ⟨hs1,hs2,hs3⟩:=hs
 refine Cs (Nz 2 ?_)
 refine Wd (Qc (CS.cond rfl ?_ ?_))<;>intro hc1<;>try simp only [bq] at hc1
 ·
  refine Ck (Qc (Cs (Ce (Cs (Dr Jah 3 ?_)))))
  refine Dk 0 Xc ?_
  refine Dk 2 Ua ?_
  refine Dk 0 Zb ?_
  refine Dk 0 Xc ?_
  refine Dk 0 Ua ?_
  refine Dk 1 (Cb rfl rfl hent (fun u hu=>hcmp _ _ u)) ?_
  refine Dd (Qc (CS.cond rfl ?_ ?_))<;>intro hc2<;>try simp only [bq] at hc2
  ·
   have hcc:key (nth x.l s) < key (nth x.l (s - 1)):=Jd1.1 (by first | exact hc2 | simpa using hc2)
   refine Nz 1 ?_
   exact Wd (Qc (Cr (Qs (Qr (Qr (Qs (Qr (out1 rfl rfl (Jab (by rw [J5y (k:=s - 1) (by omega) (by omega) (by rw [show s - 1+1=s by omega]; omega)]))))))))))
  have hcc:key (nth x.l (s - 1))≤key (nth x.l s):=Jg9.1 (by first | exact hc2 | simpa using hc2)
  refine Ck (Qb (Qc (Ny 1 ?_)))
  refine Wk 1 Zb ?_
  refine Wd ?_
  exact QS.head (s - 1) rfl rfl ⟨⟨by omega,by omega,fun k h1 h2 h3=>by
     rcases (show k=s - 1∨s≤k by omega) with h | h
     ·
      rw [h,show s - 1+1=s by omega]; exact hcc
     exact hs3 k h h2 h3⟩,by omega⟩
 refine Cv (Qe (Qe (Qx (Qc (Nz 1 ?_)))))
 exact Wd (Qc (Cr (out1 rfl rfl (Jab (by rw [J0j fun k h0 h1=>hs3 k (by omega) h0 h1])))))
theorem Jpa {a b:List Entr} (hle:¬ 500 < (a.length:Int)+b.length) (h:srtB keyT a=true∧srtB keyT b=true):Jl8 a b=(0,Jdf keyT a b):=(if_neg hle).trans (if_pos (by rw [h.1,h.2]; rfl))
section
variable {n0:Nat} {w0:World} {L:List SA} {u:World}
theorem St.sorts {a:SA} (p:World→Prop) (hp:∀ u,p u) (h:St n0 w0 [a] u):St n0 w0 [a,roS p,roS p] u:=((h.roTrue hp).roTrue hp).sel [2,0,0] rfl
end
theorem J0r (x y:Sl Entr) (w:World) (hx:SlT cEntry w x) (hy:SlT cEntry w y) (hmx:x.l.length≤1000000) (hmy:y.l.length≤1000000) :
  Calls Tryz.prog 22 #[x.v,y.v] w (RetT cEntry w (Jl8 x.l y.l).2 fun v=>.tuple #[v,.int .i64 (Jl8 x.l y.l).1]):=by
 have lx:=hx.le
 have ly:=hy.le
 have ox:=(cSl cEntry).one w x hx
 have oy:=(cSl cEntry).one w y hy
 refine enter Tryz.func22 rfl rfl (Nat.le_of_ble_eq_true rfl) ?_
 refine Nz 2 ?_
 refine Wd (Qc (Cs (Nz 1 ?_)))
 refine Wk 1 Nc ?_
 refine Wk 0 Nc ?_
 refine Wk 1 Za ?_
 refine Wd (Qc (CS.cond rfl ?_ ?_))<;>intro hc1<;>try simp only [bq] at hc1
 ·
  have hgt:500 < (x.l.length:Int)+y.l.length:=by first | omega | (simp at hc1; omega)
  refine Nz 2 ?_
  refine Wd (Qc (Cr (Qr ?_)))
  exact out2 rfl rfl rfl (fun u hu=>by
     have hv:Jl8 x.l y.l=(2,[]):=if_pos hgt
     rw [hv]
     exact Jgv (C:=cEntry) (f:=fun v=>.tuple #[v,.int .i64 2]) hu)
 have hle:¬ 500 < (x.l.length:Int)+y.l.length:=by first | omega | (simp at hc1; omega)
 refine Ck (Qc (Nz 1 ?_))
 refine Wd (Qc (Cs (Nz 2 ?_)))
 refine Wk 2 (Cb rfl rfl J8i (fun u hu=>Jlg 67 J45 keyT (fun x y u=>Jp8 x y u) x u (hx.st hu))) ?_
 refine Wf 0 rfl rfl (fun hg=>Fm) ?_
 refine Wf 0 rfl rfl (fun hg=>Fm) ?_
 refine Wf 0 rfl rfl (fun hg=>Cb rfl (ec_ (eg_ hg rfl) (ec_ (eg_ hg rfl) en_)) J8i (fun u hu=>Jlg 67 J45 keyT (fun x y u=>Jp8 x y u) y u (hy.st hu))) ?_
 refine Wf 0 rfl rfl (fun hg=>Fn) ?_
 refine Wk 0 Po ?_
 refine Wd (Qc (CS.cond rfl ?_ ?_))<;>intro hc2<;>try simp only [bq] at hc2
 ·
  have hns:(srtB keyT x.l && srtB keyT y.l)=false:=by cases hp:srtB keyT x.l <;> cases hq:srtB keyT y.l <;> simp_all
  refine Nz 2 ?_
  refine Wd (Qc (Cr (Qr ?_)))
  exact out2 rfl rfl rfl (fun u hu=>by
     have hv:Jl8 x.l y.l=(120,[]):=(if_neg hle).trans (if_neg (by rw [hns]; decide))
     rw [hv]
     exact Jgv (C:=cEntry) (f:=fun v=>.tuple #[v,.int .i64 120]) hu)
 have hys:srtB keyT x.l=true∧srtB keyT y.l=true:=by cases hp:srtB keyT x.l <;> cases hq:srtB keyT y.l <;> simp_all
 refine Ck (Qc (Nz 2 ?_))
 refine WS.buildSlice1 sl73 zv67 (vs:=[x.v,y.v]) rfl rfl (by decide) (fun v h=>by rcases List.mem_cons.1 h with rfl | h; exact ox _ (List.mem_singleton.2 rfl); exact oy _ h) (fun _=>rfl) ?_; intro v26
 refine Wc rfl rfl Kcw (fun u hu=>Jyd ⟨v26,[x,y]⟩ u (Jg1 (C:=cSl cEntry) (xs:=[x,y]) hu (j:=0) rfl (fun a ha ↦ by rcases List.mem_cons.1 ha with rfl | ha; exact hx.st hu; rw [List.mem_singleton.1 ha]; exact hy.st hu)) (by show ((catL [x,y]).length:Int)≤_; simp [catL]; omega)) (fun _=>rfl) ?_; intro v27 hv27
 refine Wz 1 ?_
 refine Wd (Qc (Nz 2 ?_))
 refine WS.sel [0] rfl ?_
 refine WS.weak (fun u hu=>St.sorts (fun _=>True) (fun _=>trivial) hu) ?_
 refine WS.callS (β:=List Entr) (p:=fun ys=>Srt keyT ys∧Eqv keyT (catL [x,y]) ys) (v:=fun _=>.tuple #[]) (L':=fun ys=>[oT cEntry 84 v27 ys,roS fun _=>True,roS fun _=>True]) rfl rfl Kdg (fun u hu=>J5o (fun _=>True) _ 67 [] J45 keyT (fun x y u _=>Jp8 x y u) v27 (catL [x,y]) (by simp [catL]; omega) hu) (fun _=>rfl) ?_; rintro ys ⟨hys1,hys2⟩
 refine Wd (Qc (Nz 3 ?_))
 refine Wd (Qc (Cr ?_))
 exact out2 rfl rfl rfl (by
    rw [Jpa hle hys, ← Jn4 (Jgr.1 hys.1) (Jgr.1 hys.2) hys1 (by simpa [catL] using hys2)]
    exact fun u hu=>retT (C:=cEntry) (f:=fun v=>.tuple #[v,.int .i64 0]) (j:=0) (fun _ _ _=>trivial) rfl hu)
theorem Jw9 (s0:Sl Entr) (w:World) (hk:SlT cEntry w s0) (g:Nat) (lb:List Value) (p:Entr→Bool) (hg:Ent Tryz.prog g)
  (hp:∀ u,Below w.heap.size w u→∀ i:Int,0≤i→i < s0.l.length→Calls Tryz.prog g ([.agg #[.int .i64 (nth s0.l i).t,.int .i64 (nth s0.l i).k,.int .i64 (nth s0.l i).m.p,.int .i64 (nth s0.l i).m.k,.int .i64 (nth s0.l i).m.n,.int .i64 (nth s0.l i).a,.int .i64 (nth s0.l i).b]]++lb:List Value).toArray u (RetB u (.bool (p (nth s0.l i))))) :
  Calls Tryz.prog 140 #[s0.v,.func (.func g) #[] lb.toArray] w (RetB w (.int .i64 (idxF p s0.l))):=by
 have hl1:=hk.le
 refine enter Tryz.func140 rfl rfl (Nat.le_of_ble_eq_true rfl) ?_
 refine Nz 1 ?_
 refine Wd (Qc (Cs (Nz 1 ?_)))
 refine Wk 1 Nc ?_
 refine Wd (Qc (Ce ?_))
 refine CS.loopM (σ:=Int) [4,5,9,10,11,12,13,14,15,16,17,18] (fun s=>[(8,.int .i64 s)]) (fun _=>_) (fun s=>0≤s∧s≤s0.l.length∧∀ j:Int,0≤j→j < s→p (nth s0.l j)=false) (fun s=>(s0.l.length - s).toNat) 0 (fun _ _=>rfl) rfl rfl ⟨by omega,by omega,fun j h1 h2=>by omega⟩ ?_
 intro s t hs
 obtain ⟨hs1,hs2,hs3⟩:=hs
 refine Nz 1 ?_
 refine Wd (Qc (Cs (CS.cond rfl ?_ ?_)))<;>intro hc1<;>try simp only [bq] at hc1
 ·
  refine Ck (Qc (Cs (Ce (Nz 2 ?_))))
  refine Wd (Qc (Nz 3 ?_))
  refine Wk 0 Xc ?_
  refine Wk 0 Ua ?_
  refine Wk 0 (Cb rfl rfl hg (fun u hu=>hp u hu.below s (by omega) (by omega))) ?_
  refine Wd (Qc (CS.cond rfl ?_ ?_))<;>intro hc2<;>try simp only [bq] at hc2
  ·
   refine Nz 2 ?_
   exact Wd (Qc (Cr (Qs (Qr (Qr (Qs (Qr (out1 rfl rfl (Jab (by rw [Ja3 hs1 (by omega) hs3 hc2]))))))))))
  refine Ck (Qb (Qc (Ny 0 ?_)))
  refine Wk 1 Za ?_
  exact Wd (QS.head (s+1) rfl rfl ⟨⟨by omega,by omega,fun j h1 h2=>if hj:j=s then by rw [hj]; exact hc2 else hs3 j h1 (by omega)⟩,by omega⟩)
 refine Cv (Qe (Qe (Qx (Qc (Nz 1 ?_)))))
 exact Wd (Qc (Cr (out1 rfl rfl (Jab (by rw [Jbe fun j h1 h2=>hs3 j h1 (by omega)])))))
theorem J0z (x:Sl Entr) (w:World) (hx:SlT cEntry w x) (hm:x.l.length≤1000000) :
  Calls Tryz.prog 85 #[x.v] w (fun e w'=>∃ v':Value,v'.oneCell'=true∧RetF w v' (oT cEntry 84 v' x.l) e w'):=by
 have hone:=hx.one
 have hls:=hx.sp
 obtain ⟨xv,xl⟩:=x
 dsimp only at hm hone hls
 obtain ⟨hl,p,cap,rfl,hcap,hp⟩:=hls
 have hsp:=hx.sp
 refine enter Tryz.func85 rfl rfl (Nat.le_of_ble_eq_true rfl) ?_
 refine Nz 1 ?_
 refine Wd (Qc (Cs (Nz 1 ?_)))
 refine Wk 0 (Jkm sl67 rfl rfl) ?_
 refine Wd (Qc (CS.cond rfl ?_ ?_))<;>intro hc1<;>try simp only [bq] at hc1
 ·
  have hx0:xl=[]:=by
   have:p=none:=by simpa using hc1
   subst this
   exact List.eq_nil_of_length_eq_zero (SlC.nil hsp)
  subst hx0
  refine Nz 1 ?_
  exact Wd (Qc (Cr (Qr (out1 rfl rfl (fun u hu=>⟨_,rfl,retF (j:=0) rfl u hu.osl0⟩)))))
 refine Ck (Qc (Nz 0 ?_))
 refine WS.build0 sl67 zv84 (fun _=>rfl) ?_; intro v5
 refine Wz 1 ?_
 refine WS.append0 (j:=0) (news:=Jau cEntry xl) (m:=xl.length) sl67 zv84 rfl (by decide) rfl rfl rfl (fun u hu=>(hx.st hu).sp) hone (by omega) (by omega) (fun _=>rfl) (fun _=>rfl) ?_; intro v7; refine WS.oc (j:=0) rfl (fun hv7=>?_)
 refine Wz 1 ?_
 exact Wd (Qc (Cr (out1 rfl rfl (fun u hu=>⟨v7,hv7,retF (j:=0) rfl u hu⟩))))
theorem Kbl {w u:World} (p:World→Prop) (R:SA) (fn:FuncId) (cap:List Value) (hent:Ent Tryz.prog fn) (d:Entr→Bool) (hcmp:∀ (x:Entr) (u:World),p u→Calls Tryz.prog fn ([.agg #[.int .i64 x.t,.int .i64 x.k,.int .i64 x.m.p,.int .i64 x.m.k,.int .i64 x.m.n,.int .i64 x.a,.int .i64 x.b]]++cap:List Value).toArray u (RetB u (.bool (d x)))) (v:Value) (xs:List Entr) (hm:(xs.length:Int)≤1000000) (hu:St w.heap.size w [oT cEntry 84 v (xs),roS p,R] u) :
  Calls Tryz.prog 84 #[v,.func (.func fn) #[] cap.toArray] u (fun e u'=>∃ v':Value,True∧e = .returned v'∧St w.heap.size w [oT cEntry 84 v' (xs.filter fun x => !d x),roS p,R] u'):=by
 have hidx:=J7b d xs
 refine Jb0 hu Tryz.func84 rfl rfl (Nat.le_of_ble_eq_true rfl) ?_
 refine Nz 1 ?_
 refine Wd (Qc (Nz 2 ?_))
 refine Wk 1 (Cb rfl rfl J7z (fun u hu=>(show Calls _ _ _ u (RetB u (.int .i64 (idxF d xs))) from Jw9 ⟨v,xs⟩ u (Jg1 hu (j:=0) rfl (fun _ _ ↦ trivial)) fn cap d hent (fun u2 h2 i h0 h1 ↦ hcmp _ u2 ((hu.ext h2).ro (j:=1) rfl))))) ?_
 refine Wd (Qc (Cs (Nz 2 ?_)))
 refine Wd (Qc (CS.cond rfl ?_ ?_))<;>intro hc1<;>try simp only [bq] at hc1
 ·
  have hfa:∀ k:Int,0≤k→k < xs.length→d (nth xs k)=false:=by
   rcases hidx with h | h
   ·
    exact h.2
   omega
  have hff:xs.filter (fun x => !d x)=xs:=Jn2 hfa
  refine Nz 2 ?_
  exact Wd (Qc (Cr (Qr (out1 rfl rfl (fun u hu=>⟨_,trivial,rfl,by rw [hff]; exact hu⟩)))))
 obtain ⟨hf1,hf2,hf3,hf4⟩:0≤idxF d xs∧idxF d xs < xs.length∧d (nth xs (idxF d xs))=true∧∀ j:Int,0≤j→j < idxF d xs→d (nth xs j)=false:=by
  rcases hidx with h | h
  ·
   exact absurd h.1 hc1
  exact h
 refine Ck (Qc (Cs (Nz 1 ?_)))
 refine Wk 1 Za ?_
 refine Wd (Qc (Ce ?_))
 refine CS.loopM (σ:=Int × Int × List Entr) [7,16,17,18,19,20,21,22,23,24,25,26,27,28,29,30,31,32,33,34,35] (fun s=>[(5,.int .i64 s.1),(6,.int .i64 s.2.1)]) (fun s=>[oT cEntry 84 v (s.2.2),roS p,R]) (fun s=>DelI d xs s.2.2 s.1 s.2.1) (fun s=>(xs.length - s.2.1).toNat) (idxF d xs,idxF d xs+1,xs) (fun _ _=>rfl) rfl rfl (DelI.first hf1 hf2 hf4 hf3) ?_
 intro q t hs
 have hq0:=hs.i0
 have hq1:=hs.ij
 have hq2:=hs.jn
 have hq3:=hs.len
 refine Cs (Nz 2 ?_)
 refine Wk 1 (Jh2 (j:=0) sl67 rfl rfl) ?_
 refine Wd (Qc (CS.cond rfl ?_ ?_))<;>intro hc2<;>try simp only [bq] at hc2
 ·
  refine Ck (Qc (Cs (Ce (Nz 2 ?_))))
  refine Wk 0 (Jaf (j:=0) sl67 rfl rfl rfl rfl (by omega) (by omega)) ?_
  refine Wk 0 (Jbf (j:=0) rfl rfl rfl ⟨by omega,by omega⟩ rfl tk84) ?_
  refine Wl 0 zv84 (fun _=>rfl) (fun _=>rfl) fun b7 hb7=>?_
  refine Wv 0 0 ?_
  refine Wd (Qc (Nz 1 ?_))
  refine Wk 0 (Bb 0) ?_
  refine Wk 1 (Cb rfl rfl hent (fun u hu=>hcmp _ u (hu.ro (j:=2) rfl))) ?_
  refine Wd (Qc (CS.cond rfl ?_ ?_))<;>intro hc3<;>try simp only [bq] at hc3
  ·
   have hdj:¬ d (nth q.2.2 q.2.1)=true:=by simpa using hc3
   refine Nz 2 ?_
   refine Wk 0 (Bb 0) ?_
   refine Wk 0 (Jaf (j:=1) sl67 rfl rfl rfl rfl (by omega) (by omega)) ?_
   refine WS.storeTw (C:=cEntry) (nth q.2.2 q.2.1) (j:=1) rfl rfl rfl ⟨by omega,by omega⟩ rfl (cEntry.one w _ trivial) (by decide) tk84 rfl ?_
   refine Wd (Qc (Ny 1 ?_))
   refine Wk 1 Za ?_
   refine Wd (Qb (Qc (Ny 1 ?_)))
   refine Wk 1 Za ?_
   refine Wd ?_
   refine QS.sel [1,1,1] rfl ?_
   exact QS.head ((q.1+1,q.2.1+1,q.2.2.set q.1.toNat (nth q.2.2 q.2.1))) rfl rfl ⟨hs.keep (by omega) hdj,by simp; omega⟩
  have hdj:d (nth q.2.2 q.2.1)=true:=by simpa using hc3
  refine Ck (Qb (Qc (Ny 1 ?_)))
  refine Wk 1 Za ?_
  refine Wd ?_
  refine QS.sel [1,1,1] rfl ?_
  exact QS.head ((q.1,q.2.1+1,q.2.2)) rfl rfl ⟨hs.gone (by omega) hdj,by simp; omega⟩
 have hfin:=hs.fin (by omega)
 refine Cv (Qe (Qe (Qx (Qc (Nz 2 ?_)))))
 refine Wk 0 (Jec (j:=0) sl67 rfl rfl rfl (by omega) (by omega)) ?_
 refine WS.clearTail (j:=0) (i:=q.1) sl67 zv84 rfl (by decide) (by decide) rfl rfl (by omega) (by omega) (fun _=>rfl) ?_; intro xs9 hxs9
 refine Wd (Qc (Nz 2 ?_))
 refine Wk 1 (Jgg (j:=0) (k':=7) (n:=q.2.2.length) (xs:=xs9) sl67 rfl rfl rfl (by omega) (by omega)) ?_
 exact Wd (Qc (Cr (out1 rfl rfl (fun u hu=>⟨_,trivial,rfl,St.oTtake (C:=cEntry) (n:=q.2.2.length) (ys:=q.2.2) hu (by omega) rfl hxs9 hfin⟩))))
theorem J7r (tick:Int) (b:Nat) (x:Entr) (w:World) (hb:BlkAt w b [.int .i64 tick] 3) :
  Calls Tryz.prog 86 #[.agg #[.int .i64 x.t,.int .i64 x.k,.int .i64 x.m.p,.int .i64 x.m.k,.int .i64 x.m.n,.int .i64 x.a,.int .i64 x.b],.pointer (some ⟨b,0,none⟩)] w (RetB w (.bool (decide (tick < x.t)))):=by
 refine enter Tryz.func86 rfl rfl (Nat.le_of_ble_eq_true rfl) ?_
 refine Nz 0 ?_
 refine Wb 1 rfl rfl (fun _=>rfl) (fun _=>rfl) fun b2 hb2=>?_
 refine Wd (Qc (Nz 1 ?_))
 refine Wk 0 (Ba 0) ?_
 refine Wk 2 Ga ?_
 exact Wd (Qc (Cr (out1 rfl rfl (Jab (by rfl)))))
def CutV (G:GP) (l:List Entr) (tick:Int):Int × List Entr:=if (Jae G l).1=0 then (0,l.filter fun x=>decide (x.t≤tick)) else ((Jae G l).1,[])
theorem J00 {l:List Entr} {tick:Int}:(l.filter fun x => !decide (tick < x.t))=l.filter fun x=>decide (x.t≤tick):=by
 congr 1; funext x
 by_cases h:tick < x.t
 ·
  rw [decide_eq_true h,decide_eq_false (by omega)]; rfl
 rw [decide_eq_false h,decide_eq_true (by omega)]; rfl
section
variable {n0:Nat} {w0:World} {u:World}
theorem Ka8 {a:SA} {b:Nat} {c:List Value} {e:TypeId} (h:St n0 w0 [a,blk b c e] u):St n0 w0 [a,roS (fun u=>BlkAt u b c e),roS fun _=>True] u:=by
 have h1:St n0 w0 [blk b c e,a] u:=h.sel [1,0] rfl
 have h2:=St.toRo (A:=blk b c e) (p:=fun u=>BlkAt u b c e) (fun S u h=>h.2) h1
 exact ((h2.roTrue (fun _=>trivial)).sel [2,1,0] rfl)
end
theorem J67 (G:Game) (w:World) (hG:GameOk w G) (hn:NearG G) (g:Sl ByteArray) (hW:GOk w g) (l:Sl Entr) (hk:SlT cEntry w l) (hm:l.l.length≤1000) (tick:Int) (hE:(Jae G.p l.l).1=0) :
  Calls Tryz.prog 33 #[.agg #[G.rm.pls.v,G.rm.ths.v,G.rm.prs.v,G.rm.wys.v,G.rm.acs.v,G.rm.aus.v,.int .i64 G.rm.ply,G.rm.gl.v,G.lks.v,G.cds.v,G.nts.v,.int .i64 G.tr],l.v,.int .i64 tick] w (RetT cEntry w (CutV G.p l.l tick).2 fun v=>.tuple #[v,.int .i64 (CutV G.p l.l tick).1]):=by
 refine enter Tryz.func33 rfl rfl (Nat.le_of_ble_eq_true rfl) ?_
 refine Nz 0 ?_
 refine Wb 0 rfl rfl (fun _=>rfl) (fun _=>rfl) fun b3 hb3=>?_
 refine Wb 2 rfl rfl (fun _=>rfl) (fun _=>rfl) fun b5 hb5=>?_
 refine Wd (Qc (Cs (Nz 0 ?_)))
 refine Wk 1 (Bb 1) ?_
 refine WS.weak (fun u hu=>hu.osl0 (e:=0) (size:=1)) ?_
 refine WS.callS rfl rfl Jqz (fun u hu=>Jmf _ G hG hn g hW l hk hE hu) (fun _=>rfl) ?_; rintro ⟨fb,y⟩ ⟨hyx,uy,hyok⟩
 dsimp only at hyx hyok
 refine Wz 5 ?_
 refine Wd (Qc (Nz 2 ?_))
 refine Wd (Qc (CS.cond rfl ?_ ?_))<;>intro hc1<;>try simp only [bq] at hc1
 ·
  exact absurd trivial hc1
 refine Ck (Qc (Nz 1 ?_))
 refine Wc rfl rfl Kc8 (fun u hu=>J0z l u (hk.st hu) (by omega)) (fun _=>rfl) ?_; intro v20 hv20
 refine Wk 0 (Jal rfl) ?_
 refine WS.sel [0,3] rfl ?_
 refine WS.weak (fun u hu=>Ka8 hu) ?_
 refine WS.callS (p:=fun _=>True) (v:=fun v=>v) (L':=fun v=>[oT cEntry 84 v (l.l.filter fun x => !decide (tick < x.t)),roS (fun u=>BlkAt u b5 [.int .i64 tick] 3),roS fun _=>True]) rfl rfl Kc4 (fun u hu=>Kbl (fun u=>BlkAt u b5 [.int .i64 tick] 3) _ 86 [.pointer (some ⟨b5,0,none⟩)] Kch (fun x=>decide (tick < x.t)) (fun x u hb=>J7r tick b5 x u hb) v20 l.l (by omega) hu) (fun _=>rfl) ?_; rintro v22 -
 refine Wz 2 ?_
 refine Wd (Qc (Cr ?_))
 exact out2 rfl rfl rfl (by
   have hv:(CutV G.p l.l tick)=(0,l.l.filter fun x=>decide (x.t≤tick)):=if_pos hE
   rw [hv, ← J00]
   exact fun u hu=>retT (C:=cEntry) (f:=fun v=>.tuple #[v,.int .i64 0]) (j:=0) (fun _ _ _=>trivial) rfl hu)
theorem J7g (G:Game) (w:World) (hG:GameOk w G) (hn:NearG G) (g:Sl ByteArray) (hW:GOk w g) (l:Sl Entr) (hk:SlT cEntry w l) (hm:l.l.length≤1000) (tick:Int) (hE:¬ (Jae G.p l.l).1=0) :
  Calls Tryz.prog 33 #[.agg #[G.rm.pls.v,G.rm.ths.v,G.rm.prs.v,G.rm.wys.v,G.rm.acs.v,G.rm.aus.v,.int .i64 G.rm.ply,G.rm.gl.v,G.lks.v,G.cds.v,G.nts.v,.int .i64 G.tr],l.v,.int .i64 tick] w (RetT cEntry w (CutV G.p l.l tick).2 fun v=>.tuple #[v,.int .i64 (CutV G.p l.l tick).1]):=by
 refine enter Tryz.func33 rfl rfl (Nat.le_of_ble_eq_true rfl) ?_
 refine Nz 0 ?_
 refine Wb 0 rfl rfl (fun _=>rfl) (fun _=>rfl) fun b3 hb3=>?_
 refine Wb 2 rfl rfl (fun _=>rfl) (fun _=>rfl) fun b5 hb5=>?_
 refine Wd (Qc (Cs (Nz 0 ?_)))
 refine Wk 1 (Bb 1) ?_
 refine WS.weak (fun u hu=>hu.osl0 (e:=0) (size:=1)) ?_
 refine WS.callS rfl rfl Jqz (fun u hu=>Jm8 _ G hG hn g hW l hk hE hu) (fun _=>rfl) ?_; rintro acc -
 refine Wz 5 ?_
 refine Wd (Qc (Nz 2 ?_))
 refine Wd (Qc (CS.cond rfl ?_ ?_))<;>intro hc1<;>try simp only [bq] at hc1
 ·
  refine Nz 3 ?_
  refine Wd (Qc (Cr (Qr ?_)))
  exact out2 rfl rfl rfl (by
    have hv:(CutV G.p l.l tick)=((Jae G.p l.l).1,[]):=if_neg hE
    rw [hv]
    exact fun u hu=>Jgv (C:=cEntry) (f:=fun v=>.tuple #[v,.int .i64 (Jae G.p l.l).1]) hu)
 exact absurd hc1 hE
theorem Kbs (G:Game) (w:World) (hG:GameOk w G) (hn:NearG G) (g:Sl ByteArray) (hW:GOk w g) (l:Sl Entr) (hk:SlT cEntry w l) (hm:l.l.length≤1000) (tick:Int) :
  Calls Tryz.prog 33 #[.agg #[G.rm.pls.v,G.rm.ths.v,G.rm.prs.v,G.rm.wys.v,G.rm.acs.v,G.rm.aus.v,.int .i64 G.rm.ply,G.rm.gl.v,G.lks.v,G.cds.v,G.nts.v,.int .i64 G.tr],l.v,.int .i64 tick] w (RetT cEntry w (CutV G.p l.l tick).2 fun v=>.tuple #[v,.int .i64 (CutV G.p l.l tick).1]):=by
 by_cases hE:(Jae G.p l.l).1=0
 ·
  exact J67 G w hG hn g hW l hk hm tick hE
 exact J7g G w hG hn g hW l hk hm tick hE
section
variable {α:Type} [Inhabited α] {p:α→Bool} {xs:List α} {j:Int}
theorem Jtp (h0:0≤j) (h1:j < xs.length) (h:p (nth xs j)=true):(xs.take j.toNat).filter p++[nth xs j]=(xs.take (j+1).toNat).filter p:=by
 rw [Jby h0 h1,List.filter_append]; simp [h]
theorem Jxh (h0:0≤j) (h1:j < xs.length) (h:p (nth xs j)=false):(xs.take j.toNat).filter p=(xs.take (j+1).toNat).filter p:=by
 rw [Jby h0 h1,List.filter_append]; simp [h]
theorem Jso {α:Type} {p:α→Bool} {xs:List α} {j:Int} (h0:0≤j) (h1:j≤xs.length):(((xs.take j.toNat).filter p).length:Int)≤j:=by
 have h:=List.length_filter_le p (xs.take j.toNat)
 rw [List.length_take] at h; omega
end
theorem J7i (G:Game) (w:World) (hG:GameOk w G) (hn:NearG G) (l:Sl Entr) (hk:SlT cEntry w l) (tick:Int) :
  Calls Tryz.prog 34 #[.agg #[G.rm.pls.v,G.rm.ths.v,G.rm.prs.v,G.rm.wys.v,G.rm.acs.v,G.rm.aus.v,.int .i64 G.rm.ply,G.rm.gl.v,G.lks.v,G.cds.v,G.nts.v,.int .i64 G.tr],l.v,.int .i64 tick] w (RetT cEntry w (CutV G.p l.l tick).2 fun v=>.tuple #[v,.int .i64 (CutV G.p l.l tick).1]):=by
 have lls:=hk.le
 refine enter Tryz.func34 rfl rfl (Nat.le_of_ble_eq_true rfl) ?_
 refine Nz 0 ?_
 refine Wb 2 rfl rfl (fun _=>rfl) (fun _=>rfl) fun b3 hb3=>?_
 refine Wd (Qc (Nz 0 ?_))
 refine Wk 1 (Bb 0) ?_
 refine Wk 5 (Cb rfl rfl J1w (fun u hu=>Jfo G u (hG.st hu) hn l (hk.st hu))) ?_
 refine Wd (Qc (Cs (Nz 2 ?_)))
 refine Wd (Qc (CS.cond rfl ?_ ?_))<;>intro hc1<;>try simp only [bq] at hc1
 ·
  refine Nz 3 ?_
  refine Wd (Qc (Cr (Qr ?_)))
  exact out2 rfl rfl rfl (by
    have hv:(CutV G.p l.l tick)=((Jae G.p l.l).1,[]):=if_neg hc1
    rw [hv]
    exact fun u hu=>Jgv (C:=cEntry) (f:=fun v=>.tuple #[v,.int .i64 (Jae G.p l.l).1]) hu)
 have hE:(Jae G.p l.l).1=0:=hc1
 obtain ⟨hB,hL,F,hR,hV⟩:=Jhg hE
 refine Ck (Qc (Nz 1 ?_))
 refine Wd (Qc (Cs (Nz 1 ?_)))
 refine Wd (Qc (Ce ?_))
 refine CS.weak (fun _ hu=>hu.osl0 (e:=84) (size:=7)) ?_
 refine CS.loopM (σ:=Int × Value) [21,22,23,24,25,26,27,28,29,30,31,32,33,34,35,36,37,38,39,40] (fun s=>[(11,.int .i64 s.1),(10,s.2)]) (fun s=>[oT cEntry 84 s.2 ((l.l.take s.1.toNat).filter fun x=>decide (x.t≤tick)),blk b3 [G.rm.pls.v,G.rm.ths.v,G.rm.prs.v,G.rm.wys.v,G.rm.acs.v,G.rm.aus.v,.int .i64 G.rm.ply,G.rm.gl.v,G.lks.v,G.cds.v,G.nts.v,.int .i64 G.tr] 36]) (fun s=>0≤s.1∧s.1≤l.l.length) (fun s=>(l.l.length - s.1).toNat) (0,.slice none 0 0) (fun _ _=>rfl) rfl rfl ⟨by simp,by simp⟩ ?_
 intro s t hs
 obtain ⟨hs1,hs2⟩:=hs
 have hkl:=Jso (p:=fun x:Entr=>decide (x.t≤tick)) (xs:=l.l) hs1 hs2
 refine Cs (Nz 2 ?_)
 refine Wk 1 Nc ?_
 refine Wd (Qc (CS.cond rfl ?_ ?_))<;>intro hc2<;>try simp only [bq] at hc2
 ·
  refine Ck (Qc (Cs (Ce (Nz 2 ?_))))
  refine Wk 1 Xc ?_
  refine Wk 2 (Uc 7 0) ?_
  refine Wd (Qc (CS.cond rfl ?_ ?_))<;>intro hc3<;>try simp only [bq] at hc3
  ·
   have hp:decide ((nth l.l s.1).t≤tick)=true:=decide_eq_true hc3
   refine Ny 3 ?_
   refine Wk 0 Xc ?_
   refine Wk 0 Ua ?_
   refine WS.buildT1 cEntry (a:=(nth l.l s.1)) sl67 zv84 rfl (by decide) (fun _=>rfl) ?_; intro v39
   refine WS.appendT1 (C:=cEntry) (a:=(nth l.l s.1)) (j:=1) (jz:=0) sl67 zv84 rfl (by decide) rfl rfl rfl rfl (w:=w) trivial (by omega) (by omega) (fun _=>rfl) (fun _=>rfl) ?_; intro v40 hv40
   refine Wz 1 ?_
   refine Wd (Qb (Qc (Ny 1 ?_)))
   refine Wk 1 Za ?_
   refine Wd ?_
   refine QS.sel [1,1] rfl ?_
   exact QS.head ((s.1+1,v40)) rfl (by show [_,_]=[_,_]; rw [← Jtp hs1 (by omega) hp]) ⟨⟨by simp; omega,by simp; omega⟩,by simp; omega⟩
  have hp:decide ((nth l.l s.1).t≤tick)=false:=decide_eq_false hc3
  refine Ck (Qb (Qc (Ny 1 ?_)))
  refine Wk 1 Za ?_
  exact Wd (QS.head ((s.1+1,s.2)) rfl (by show [_,_]=[_,_]; rw [← Jxh hs1 (by omega) hp]) ⟨⟨by simp; omega,by simp; omega⟩,by simp; omega⟩)
 have hta:l.l.take s.1.toNat=l.l:=List.take_of_length_le (by omega)
 refine Cv (Qe (Qe (Qx (Qc (Nz 3 ?_)))))
 refine Wd (Qc (Cr ?_))
 exact out2 rfl rfl rfl (by
   have hv:(CutV G.p l.l tick)=(0,l.l.filter fun x=>decide (x.t≤tick)):=if_pos hE
   rw [hv,hta]
   exact fun u hu=>retT (C:=cEntry) (f:=fun v=>.tuple #[v,.int .i64 0]) (j:=0) (fun _ _ _=>trivial) rfl hu)
theorem Jo2 {c:Int}:∀ {l:List Entr},Srt keyT l→(l.filter fun x=>decide (x.t≤c))++(l.filter fun x=>decide (c < x.t))=l
 | [],_=>rfl
 | x::l,h=>by
  have h1:∀ y∈l,x.t≤y.t:=(List.pairwise_cons.1 h).1
  have h2:Srt keyT l:=(List.pairwise_cons.1 h).2
  by_cases hx:x.t≤c
  ·
   simp only [List.filter_cons,hx,decide_true,if_true,show ¬ c < x.t by omega,decide_false,Bool.false_eq_true,if_false,List.cons_append]
   rw [Jo2 h2]
  have e1:(x::l).filter (fun x=>decide (x.t≤c))=[]:=by
   rw [List.filter_eq_nil_iff]
   intro a ha
   rcases List.mem_cons.1 ha with rfl | ha
   ·
    simpa using hx
   have:=h1 a ha; simp; omega
  have e2:(x::l).filter (fun x=>decide (c < x.t))=x::l:=by
   rw [List.filter_eq_self]
   intro a ha
   rcases List.mem_cons.1 ha with rfl | ha
   ·
    simp; omega
   have:=h1 a ha; simp; omega
  rw [e1,e2]; rfl
theorem Jn9 {G:GP}:∀ {l:List Entr} {i last:Int} {f F:Film},Jcp G l i last f = .ok F→(∀ e∈l,last≤e.t)∧Srt keyT l
 | [],_,_,_,_,_=>⟨fun _ h=>absurd h List.not_mem_nil,Srt.nil⟩
 | e::l,i,last,f,F,h=>by
  obtain ⟨h1,f',h2,h3⟩:=Jhl h
  obtain ⟨h4,h5⟩:=Jn9 h3
  have h6:last≤e.t:=by unfold Jco at h1; simp at h1; exact h1.1
  refine ⟨fun x hx=>?_,List.pairwise_cons.2 ⟨fun x hx=>h4 x hx,h5⟩⟩
  rcases List.mem_cons.1 hx with rfl | hx
  ·
   exact h6
  exact Int.le_trans h6 (h4 x hx)
theorem Jok {G:GP} {B:List Entr}:∀ {A:List Entr} {i last:Int} {f F:Film},Jcp G (A++B) i last f = .ok F→∃ F',Jcp G A i last f = .ok F'
 | [],_,_,f,_,_=>⟨f,rfl⟩
 | e::A,i,last,f,F,h=>by
  obtain ⟨h1,f',h2,h3⟩:=Jhl h
  obtain ⟨F',h4⟩:=Jok h3
  exact ⟨F',by rw [Jfa h1 h2,h4]⟩
theorem Jpk {G:GP} {B:List Entr}:∀ {A:List Entr} {f:Film},∃ R,Jdz G (A++B) f=Jdz G A f++R
 | [],f=>⟨_,rfl⟩
 | e::A,f=>by
  cases h:Ja2 G f e with
  | none=>exact ⟨[],by rw [List.cons_append,Jdz,Jdz,h]; rfl⟩
  | some f' =>
   obtain ⟨R,hR⟩:=Jpk (G:=G) (B:=B) (A:=A) (f:=f')
   by_cases hk:e.k=1
   ·
    exact ⟨R,by rw [List.cons_append,Jqd h hk,Jqd h hk,hR]; rfl⟩
   exact ⟨R,by rw [List.cons_append,Jps h hk,Jps h hk,hR]⟩
theorem Jwp {G:GP} {l:List Entr} {c:Int} (h:(CutV G l c).1=0):(Jae G l).1=0∧(Jae G (CutV G l c).2).1=0∧Jl8 (CutV G l c).2 (l.filter fun x=>decide (c < x.t))=(0,l)∧(CutV G l c).2.length≤500∧(l.filter fun x=>decide (c < x.t)).length≤500 ∧
  (Jc6 G l).1=0∧(Jc6 G (CutV G l c).2).1=0∧∃ R,(Jc6 G l).2.1=(Jc6 G (CutV G l c).2).2.1++R:=by
 by_cases hE:(Jae G l).1=0
 ·
  have hv:CutV G l c=(0,l.filter fun x=>decide (x.t≤c)):=if_pos hE
  rw [hv]
  obtain ⟨hB,hL,F,hR,hV⟩:=Jhg hE
  obtain ⟨_,hs⟩:=Jn9 hR
  have hp:=Jo2 (c:=c) hs
  obtain ⟨A,hA⟩:∃ A,A=l.filter fun x=>decide (x.t≤c):=⟨_,rfl⟩
  obtain ⟨B,hB2⟩:∃ B,B=l.filter fun x=>decide (c < x.t):=⟨_,rfl⟩
  rw [← hA, ← hB2] at hp
  show (Jae G l).1=0∧(Jae G (l.filter fun x=>decide (x.t≤c))).1=0∧_
  rw [← hA, ← hB2]
  have hl:=congrArg List.length hp
  rw [List.length_append] at hl
  obtain ⟨F',hF'⟩:=Jok (A:=A) (B:=B) (by rw [hp]; exact hR)
  have hEA:(Jae G A).1=0:=by rw [Jms hB (by omega) hF']
  have hsA:Srt keyT A:=Srt.left (b:=B) (by rw [hp]; exact hs)
  have hsB:Srt keyT B:=Srt.right (a:=A) (by rw [hp]; exact hs)
  refine ⟨hE,hEA,?_,by show A.length≤500; omega,by omega,?_,?_,?_⟩
  ·
   rw [Jpa (by omega) ⟨Jgr.2 hsA,Jgr.2 hsB⟩, ← Jn4 hsA hsB hs (by rw [hp]; exact Eqv.refl _)]
  ·
   unfold Jc6; rw [if_pos hE]
  ·
   unfold Jc6; rw [if_pos hEA]
  obtain ⟨R,hR⟩:=Jpk (G:=G) (A:=A) (B:=B) (f:=Jaz G)
  rw [hp] at hR
  exact ⟨R,by unfold Jc6; rw [if_pos hE,if_pos hEA]; exact hR⟩
 have hv:CutV G l c=((Jae G l).1,[]):=if_neg hE
 rw [hv] at h
 exact absurd h hE
end Go.Proofs.YtbboikncaihafaaGreatDoor
