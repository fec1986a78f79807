/- Merged texts of this proof (walks and plain laws), printed by a program of the prover. -/
import Derived.Test.YtbboikncaihafaaGreatDoorZa
import Derived.RangeFuncLeaves
import Derived.RangeFuncBound
import Derived.Test.YtbboikncaihafaaGreatDoorZb
import Derived.Test.YtbboikncaihafaaGreatDoorProg
import Derived.KernelRfl
import Derived.Test.YtbboikncaihafaaGreatDoorZc
import Derived.Test.YtbboikncaihafaaGreatDoorZz
import Derived.Test.YtbboikncaihafaaGreatDoorXa
import Derived.Test.YtbboikncaihafaaGreatDoorXd
import Derived.Test.YtbboikncaihafaaGreatDoorXe
import Derived.Test.YtbboikncaihafaaGreatDoorXf
import Derived.Test.YtbboikncaihafaaGreatDoorXh
import Derived.Test.YtbboikncaihafaaGreatDoorXg
import Derived.Test.YtbboikncaihafaaGreatDoorXi
namespace Go.Proofs.YtbboikncaihafaaGreatDoor
set_option linter.unusedVariables false
set_option linter.unusedSimpArgs false
open Go.RowKit Go.Proofs
section
variable {P:Program} {ro:Option Nat} {n0:Nat} {w0:World} {ds:List Deferred} {ops:Array Oper} {Q:Exit→Act→World→Prop} {L:List SA}
 {rest:List Oper} {l:List Value} {d:Option Tmp} {ty:TypeId} {ps:String} {af:Array Edge} {g:Option (Nat × Bool)} {C:World→Prop}
theorem Jv3 {T e e':TypeId} {a b j:Nat} {x:Operand} {v:Value} {xs:List Int} (hT:sl P T=some (e,a,b)) (hx:evo l x=some v) (hj:L[j]? = some (oints e' v xs)) :
  Det P (St n0 w0 L) ⟨d,.call ⟨.builtin .len, #[x], #[T]⟩,ty,ps,af,g⟩ l (.int .i64 xs.length):=Jh2 hT hx hj
end
end Go.Proofs.YtbboikncaihafaaGreatDoor
namespace Go.Proofs.YtbboikncaihafaaGreatDoor
set_option linter.unusedVariables false
set_option linter.unusedSimpArgs false
open Go.RowKit
section
variable {P:Program} [Fx P] {C:World→Prop} {l:List Value} {d:Option Tmp} {ty:TypeId} {ps:String} {af:Array Edge} {g:Option (Nat × Bool)} {v:Value}
variable {n0:Nat} {w0:World} {L:List SA} {T T' e e':TypeId} {x y z:Operand} {i b o a k q q' m n:Nat} {c cs:List Value} {vv:Value} {xs:List Int} {ii aa bb:Int} {w:World} {ik:IntKind} {ba bc br:Bool}
theorem Nb (j:Nat) (hx:evo l x=some vv:=by exact op_) (hj:L[j]? = some (oints e' vv xs):=by exact rfl) (hT:slf P T=some (e,a,q):=by exact rfl):Det P (St n0 w0 L) ⟨d,.call ⟨.builtin .len, #[x], #[T]⟩,ty,ps,af,g⟩ l (.int .i64 xs.length):=Jv3 (Jlo hT) hx hj
end
def Jfw (G:GP) (l:List Entr):Int × Int × Int:=if (Jae G l).1=0 then if (Jae G l).2.2.en < 0 then (3,0,0) else (0,(Jae G l).2.2.en,(Jae G l).2.2.hi) else ((Jae G l).1,0,0)
def Jbw (G:GP) (l:List Entr) (pen:Int):Int × Int :=
 if (Jae G l).1=0 then if 0≤pen∧pen≤10000 then if (Jae G l).2.2.en < 0 then (3,0) else (0,(Jae G l).2.2.en+pen * (Jae G l).2.2.hi) else (1,0) else ((Jae G l).1,0)
theorem Juf {G:GP} {f f':Film} {e:Entr} (h:Ja2 G f e=some f') (h0:0≤f.en):f'.en=f.en∧f'.hi=f.hi:=by
 have hn:¬ f.en < 0:=by omega
 obtain ⟨_,h | h | h | h | h⟩:=Jea h
 ·
  rw [h.2.2.2]; exact ⟨if_neg fun q=>hn q.1,rfl⟩
 ·
  rw [h.2.2.2]; exact ⟨rfl,if_neg hn⟩
 ·
  rw [h.2.2]; exact ⟨rfl,rfl⟩
 ·
  rw [h.2.2]; exact ⟨rfl,rfl⟩
 rw [h.2.2]; exact ⟨rfl,rfl⟩
theorem Ji2 {G:GP}:∀ (l:List Entr) (i last:Int) (f f':Film),Jcp G l i last f = .ok f'→0≤f.en→f'.en=f.en∧f'.hi=f.hi
 | [],_,_,f,f',h,_=>by cases h; exact ⟨rfl,rfl⟩
 | e::l,i,last,f,f',h,h0=>by
  unfold Jcp at h
  split at h
  ·
   cases hs:Ja2 G f e with
   | none=>rw [hs] at h; cases h
   | some f1 =>
    rw [hs] at h
    obtain ⟨a,b⟩:=Juf hs h0
    obtain ⟨c,d⟩:=Ji2 l (i+1) e.t f1 f' h (by omega)
    exact ⟨c.trans a,d.trans b⟩
  cases h
section
variable {α:Type} (key:α→Int)
variable {key}
def insS (key:α→Int) (x:α) (l:List α):List α:=l.takeWhile (fun y=>decide (key y≤key x))++x::l.dropWhile fun y=>decide (key y≤key x)
theorem Js4 {l:List α} (h:Srt key l) {x:α}:(∀ y∈l.takeWhile (fun y=>decide (key y≤key x)),key y≤key x)∧∀ y∈l.dropWhile (fun y=>decide (key y≤key x)),key x < key y:=by
 induction l with
 | nil=>exact ⟨fun y hy=>by simp at hy,fun y hy=>by simp at hy⟩
 | cons z l ih =>
  have q:=List.pairwise_cons.1 h
  by_cases hz:key z≤key x
  ·
   rw [List.takeWhile_cons,if_pos (by simpa using hz),List.dropWhile_cons,if_pos (by simpa using hz)]
   refine ⟨fun y hy=>?_,(ih q.2).2⟩
   rcases List.mem_cons.1 hy with rfl | hy
   ·
    exact hz
   exact (ih q.2).1 y hy
  rw [List.takeWhile_cons,if_neg (by simpa using hz),List.dropWhile_cons,if_neg (by simpa using hz)]
  refine ⟨fun y hy=>by simp at hy,fun y hy=>?_⟩
  rcases List.mem_cons.1 hy with rfl | hy
  ·
   omega
  have:=q.1 y hy; omega
theorem J0y {x:α} {l:List α} (h:Srt key l):Srt key (insS key x l):=by
 obtain ⟨h1,h2⟩:=Js4 h (x:=x)
 have e:=List.takeWhile_append_dropWhile (p:=fun y=>decide (key y≤key x)) (l:=l)
 rw [← e] at h
 unfold insS
 refine h.left.app (List.pairwise_cons.2 ⟨fun y hy=>by have:=h2 y hy; omega,h.right⟩) fun a ha b hb=>?_
 rcases List.mem_cons.1 hb with rfl | hb
 ·
  exact h1 a ha
 exact h.across a ha b hb
theorem J1y {x:α} {l:List α} (h:Srt key l):Eqv key (l++[x]) (insS key x l):=by
 obtain ⟨h1,h2⟩:=Js4 h (x:=x)
 have e:=List.takeWhile_append_dropWhile (p:=fun y=>decide (key y≤key x)) (l:=l)
 have q:Eqv key (l.dropWhile (fun y=>decide (key y≤key x))++[x]) ([x]++l.dropWhile fun y=>decide (key y≤key x)):=Eqv.swap fun a ha b hb e2=>by
  rw [List.mem_singleton.1 hb] at e2
  have:=h2 a ha; omega
 have r:=(Eqv.refl (key:=key) (l.takeWhile fun y=>decide (key y≤key x))).app q
 unfold insS
 rw [← List.append_assoc,e] at r
 exact r
end
section
variable {P:Program} {ro:Option Nat} {n0:Nat} {w0:World} {ds:List Deferred} {ops:Array Oper} {Q:Exit→Act→World→Prop} {L:List SA} {rest:List Oper} {l:List Value} {d:Option Tmp} {ty:TypeId} {ps:String} {af:Array Edge} {g:Option (Nat × Bool)}
 {α:Type} {C:Cel α}
variable [Inhabited α]
theorem Jbt {T e:TypeId} {z j:Nat} {x:Operand} {v y:Value} {i:Int} {xs:List α} (hj:L[j]? = some (oT C e v xs)) (hx:evo l x=some (.pointer (some (sla v (i.toNat * 1))))) (hk:C.k=1) (h:0≤i∧i < xs.length)
  (hc:(C.cells (nth xs i))[0]? = some y) (hT:tk P T=some (false,z)):Det P (St n0 w0 L) ⟨d,.load T x,ty,ps,af,g⟩ l y :=
 Jey 1 0 hj (by rw [hx,sla,Nat.add_zero]) hk h (by decide) hc hT
theorem WS.storeT1 {T e:TypeId} {x y:Operand} {v z:Value} {j:Nat} {q:Bool} {xs:List α} {i:Int} (a:α) (hj:L[j]? = some (oT C e v xs)) (hx:evo l x=some (.pointer (some (sla v (i.toNat * 1))))) (hk:C.k=1) (h:0≤i∧i < xs.length)
  (hy:evo l y=some z) (h1:z.oneCell'=true) (hT:tk P T=some (q,1)) (ha:C.cells a=[z])
  {L':List SA} (hL:lset L j (oT C e v (xs.set i.toNat a))=some L') (kk:WS P ro n0 w0 ds ops Q L' rest l) :
  WS P ro n0 w0 ds ops Q L (⟨none,.store T x y,ty,ps,af,none⟩::rest) l:=by
 refine WS.storeTc 1 0 a hj (by rw [hx,sla,Nat.add_zero]) hk h (by decide) hy h1 hT ?_ hL kk
 have h2:=C.len (nth xs i)
 rw [hk] at h2
 obtain ⟨c,hc⟩:=List.length_eq_one_iff.1 h2
 rw [ha,hc]; rfl
end
end Go.Proofs.YtbboikncaihafaaGreatDoor
namespace Go.Proofs.YtbboikncaihafaaGreatDoor
set_option linter.unusedVariables false
set_option linter.unusedSimpArgs false
open Go.RowKit Go.Proofs Go.MapKept
def J2s (c:Prop) (A:SA):SA where
 h S u:=(c∧A.h S u)∨(¬ c∧∀ k,¬ S k)
 loc S u u' h hk:=h.elim (fun h=>.inl ⟨h.1,A.loc S u u' h.2 hk⟩) .inr
 dom S u k h hS:=h.elim (fun h=>A.dom S u k h.2 hS) (fun h=>(h.2 k hS).elim)
section
variable {n0:Nat} {w0:World} {L:List SA} {u:World} {c:Prop} {A:SA}
theorem St.condT (hc:c) (h:St n0 w0 (J2s c A::L) u):St n0 w0 (A::L) u:=by
 obtain ⟨h1,h2,T,h3,h4,h5⟩:=h
 rcases h4 with h4 | h4
 ·
  exact ⟨h1,h2,T,h3,h4.2,h5⟩
 exact absurd hc h4.1
theorem St.toCond {a b z:SA} (hc:c) (h:St n0 w0 (a::b::z::L) u):St n0 w0 (J2s c (Go.Proofs.YtbboikncaihafaaGreatDoor.star [a,b])::L) u:=by
 have h0:=St.pack (L1:=[a,b]) (L2:=L) (h.erase 2)
 obtain ⟨h1,h2,T,h3,h4,h5⟩:=h0
 exact ⟨h1,h2,T,h3,.inl ⟨hc,h4⟩,h5⟩
theorem St.toCondN {z:SA} (hc:¬ c) (h:St n0 w0 (z::L) u):St n0 w0 (J2s c A::L) u :=
 h.erase 0 |>.cons (T:=fun _=>False) (Below.refl _ u) (.inr ⟨hc,fun _ h=>h⟩) (fun _ h=>h.elim)
end
section
variable {P:Program} {n0:Nat} {w0:World} {L:List SA} {l:List Value} {d:Option Tmp} {ty:TypeId} {ps:String} {af:Array Edge} {g:Option (Nat × Bool)} {C:World→Prop}
theorem J2a {T T':TypeId} {x y:Operand} {a b:Int} (hx:evo l x=some (.int .i64 a)) (hy:evo l y=some (.int .i64 b)) :
  Det P C ⟨d,.binOp .mul T x y T',ty,ps,af,g⟩ l (.int .i64 (IntKind.i64.wrap (a * b))):=fun u _=>by
 (replace hx:=Jar hx; replace hy:=Jar hy)
 simp [execOp,Jaq,hx,hy,eqGuard,binOp,Op.intArith]
theorem J0p {T T':TypeId} {x y:Operand} {a b:Int} (hx:evo l x=some (.int .i64 a)) (hy:evo l y=some (.int .i64 b)) :
  Det P C ⟨d,.binOp .add T x y T',ty,ps,af,g⟩ l (.int .i64 (IntKind.i64.wrap (a+b))):=fun u _=>by
 (replace hx:=Jar hx; replace hy:=Jar hy)
 simp [execOp,Jaq,hx,hy,eqGuard,binOp,Op.intArith]
theorem Jz3 {n:Int} (h : -9223372036854775808≤n∧n≤9223372036854775807):IntKind.i64.wrap n=n:=IntWalk.i64_in _ h
theorem Jk1 {T K E:TypeId} {x y:Operand} {b:Nat} {f:Int→Int} {k:Int} (hT:P.underlying T=some (.map K E)) (hK:P.underlying K=some (.int .i64)) (hz:zo P E=some (.int .i64 0)) (hx:evo l x=some (.map (some b))) (hm0:MapAt w0 b f) (hy:evo l y=some (.int .i64 k)) :
  Det P (St w0.heap.size w0 L) ⟨d,.lookup T x y false,ty,ps,af,g⟩ l (.int .i64 (f k)):=fun u hu=>by
 (replace hx:=Jar hx; replace hy:=Jar hy)
 obtain ⟨es,c,hb,hm⟩:=hm0.ext hu.below
 have hkey:IsKey (.int .i64) (.int .i64 k):=rfl
 rcases findNow_spec hkey es.toList 0 hm.keys with ⟨h1,h2⟩ | ⟨q,e,h1,h2,h3⟩
 ·
  have h0:f k=0:=hm.non k h2
  unfold zo at hz
  cases hi:P.info? E with
  | none=>simp [hi] at hz
  | some inf =>
   have hz2:inf.zero=some (.int .i64 0):=by simpa [hi] using hz
   simp [execOp,Jaq,hx,hy,Instr.lookup,run_underlying hT,MapKept.run_getObj_map hb,run_checkKey hK hkey,run_findKey hK h1,Result.andThen,zeroValue,typeInfo,hi,hz2,h0]
 have hv:=hm.at h2 h3
 simp [execOp,Jaq,hx,hy,Instr.lookup,run_underlying hT,MapKept.run_getObj_map hb,run_checkKey hK hkey,run_findKey hK h1,Result.andThen,hv]
end
theorem Jse (e:TypeId) (v:Value) (xs:List Int):oints e v xs=oT cInt e v xs:=by
 unfold oT oints
 rw [Jka]; rfl
section
variable {α:Type} [Inhabited α] (key:α→Int)
def Jhj (l:List α):List α:=l.foldl (fun acc x=>insS key x acc) []
variable {key}
theorem Jch {α:Type} {key:α→Int} {l:List α} {x:α}:Jhj key (l++[x])=insS key x (Jhj key l):=by simp [Jhj]
theorem Jhn (l:List α):Srt key (Jhj key l)∧Eqv key l (Jhj key l):=by
 have h:∀ n:Nat,∀ l:List α,l.length=n→Srt key (Jhj key l)∧Eqv key l (Jhj key l):=fun n=>by
  induction n with
  | zero=>intro l hl; rw [List.eq_nil_of_length_eq_zero hl]; exact ⟨Srt.nil,Eqv.refl _⟩
  | succ n ih =>
   intro l hl
   have hs:=Jgk (l:=l) (fun h=>by rw [h] at hl; cases hl)
   obtain ⟨h1,h2⟩:=ih l.dropLast (by rw [List.length_dropLast]; omega)
   rw [hs,Jch]
   exact ⟨J0y h1,(h2.app (Eqv.refl _)).trans (J1y h1)⟩
 exact h _ l rfl
theorem Jv8 {l ys:List α} (h1:Srt key ys) (h2:Eqv key l ys):ys=Jhj key l:=Jpr h1 (Jhn l).1 (h2.symm.trans (Jhn l).2)
theorem J5t {l:List α} {x:α} {k:Int} (h0:0≤k) (h1:k≤l.length) (hs:Srt key l) (hge:∀ j:Int,k≤j→j < l.length→key x < key (nth l j)) (hlt:k=0∨key (nth l (k - 1))≤key x):insS key x l=l.take k.toNat++x::l.drop k.toNat:=by
 have ht:∀ y∈l.take k.toNat,key y≤key x:=fun y hy=>by
  obtain ⟨i,i0,i1,i2,rfl⟩:=Jdt hy
  rcases hlt with h | h
  ·
   omega
  exact Int.le_trans (Jem hs i0 (show i≤k - 1 by omega) (by omega)) h
 have hd:∀ y∈l.drop k.toNat,key x < key y:=fun y hy=>by
  obtain ⟨i,i0,i1,rfl⟩:=Jdx h0 hy
  exact hge i i0 i1
 have hw:l.takeWhile (fun y=>decide (key y≤key x))=l.take k.toNat∧l.dropWhile (fun y=>decide (key y≤key x))=l.drop k.toNat:=by
  have e:=List.take_append_drop k.toNat l
  have hw1:∀ (a b:List α),(∀ y∈a,key y≤key x)→(∀ y∈b,key x < key y)→(a++b).takeWhile (fun y=>decide (key y≤key x))=a∧(a++b).dropWhile (fun y=>decide (key y≤key x))=b:=fun a=>by
   induction a with
   | nil =>
    intro b _ hb
    cases b with
    | nil=>exact ⟨rfl,rfl⟩
    | cons y b =>
     have h9:=hb y (List.mem_cons_self ..)
     simp only [List.nil_append,List.takeWhile_cons,List.dropWhile_cons]
     rw [decide_eq_false (by omega)]
     exact ⟨rfl,rfl⟩
   | cons y a ih =>
    intro b ha hb
    have h9:=ha y (List.mem_cons_self ..)
    obtain ⟨i1,i2⟩:=ih b (fun z hz=>ha z (List.mem_cons_of_mem _ hz)) hb
    simp only [List.cons_append,List.takeWhile_cons,List.dropWhile_cons]
    rw [decide_eq_true h9]
    simp only [if_true,i1,i2,and_self]
  have h2:=hw1 _ _ ht hd
  rwa [e] at h2
 unfold insS
 rw [hw.1,hw.2]
end
theorem Jcl {α:Type} (x:List (Sl α)) (i:Int):nth (x.map Sl.l) i=(nth x i).l:=by
 unfold nth
 rw [List.getD_eq_getElem?_getD,List.getD_eq_getElem?_getD,List.getElem?_map]
 cases x[i.toNat]? <;> rfl
def scW (pen:Int) (f:Film):Int:=IntKind.i64.wrap (f.en+IntKind.i64.wrap (pen * f.hi))
theorem Kaf {pen:Int} {f:Film} (hp:0≤pen∧pen≤10000) (he:f.en = -1∨(0≤f.en∧f.en≤1000000)) (hh:0≤f.hi∧f.hi≤500):scW pen f=f.en+pen * f.hi:=by
 have h1:0≤pen * f.hi:=Int.mul_nonneg hp.1 hh.1
 have h2:pen * f.hi≤10000 * 500:=Int.mul_le_mul hp.2 hh.2 hh.1 (by omega)
 unfold scW
 rw [Jz3 (n:=pen * f.hi) (by omega),Jz3 (by omega)]
def finR (G:GP) (L:List (List Entr)) (j:Int):Bool := !decide ((Jae G (nth L j)).2.2.en < 0)
def scF (G:GP) (L:List (List Entr)) (pen n:Int):Int→Int:=fun j=>if 0≤j∧j < n∧finR G L j=true then scW pen (Jae G (nth L j)).2.2 else 0
def errL (G:GP):List (List Entr)→Int
 | []=>0
 | l::L=>if (Jae G l).1=0 then errL G L else (Jae G l).1
def Jbb (G:GP) (L:List (List Entr)) (pen:Int):Int × List Int :=
 if (Jag G).1=0 then if 64 < (L.length:Int) then (2,[]) else if errL G L=0 then if 0≤pen∧pen≤10000 then (0,Jhj (scF G L pen L.length) (filI L.length (finR G L))) else (1,[]) else (errL G L,[]) else ((Jag G).1,[])
section
variable {G:GP} {L:List (List Entr)} {pen s:Int}
theorem Kcj:scF G L pen 0=fun _=>0:=by
 funext j; unfold scF; rw [if_neg (by omega)]
theorem J5l (h0:0≤s) (h:finR G L s=true):updI (scF G L pen s) s (scW pen (Jae G (nth L s)).2.2)=scF G L pen (s+1):=by
 funext j
 unfold updI scF
 by_cases hj:j=s
 ·
  rw [if_pos hj,if_pos ⟨by omega,by omega,by rw [hj]; exact h⟩,hj]
 rw [if_neg hj]
 by_cases hc:0≤j∧j < s∧finR G L j=true
 ·
  rw [if_pos hc,if_pos ⟨hc.1,by omega,hc.2.2⟩]
 rw [if_neg hc,if_neg (fun h9=>hc ⟨h9.1,by omega,h9.2.2⟩)]
theorem J8q (h:¬ finR G L s=true):scF G L pen s=scF G L pen (s+1):=by
 funext j
 unfold scF
 by_cases hc:0≤j∧j < s∧finR G L j=true
 ·
  rw [if_pos hc,if_pos ⟨hc.1,by omega,hc.2.2⟩]
 rw [if_neg hc,if_neg (fun h9=>hc ⟨h9.1,by
  by_cases e:j=s
  ·
   rw [e] at h9; exact absurd h9.2.2 h
  omega,h9.2.2⟩)]
theorem Jdm (h0:0≤s) (h:finR G L s=true):filI (s+1) (finR G L)=filI s (finR G L)++[s]:=by
 unfold filI; rw [Je4 h0,List.filter_append]; simp [h]
theorem Jys (h0:0≤s) (h:¬ finR G L s=true):filI (s+1) (finR G L)=filI s (finR G L):=by
 unfold filI; rw [Je4 h0,List.filter_append]; simp [h]
theorem Jrg (h0:0≤s):((filI s (finR G L)).length:Int)≤s:=by
 have h:=List.length_filter_le (finR G L) (Jeo s.toNat)
 unfold filI
 simp [Jeo] at h ⊢
 omega
theorem Jhs:∀ {L:List (List Entr)},errL G L=0 ↔ ∀ j:Int,0≤j→j < L.length→(Jae G (nth L j)).1=0
 | []=>⟨fun _ j h0 h1=>by simp at h1; omega,fun _=>rfl⟩
 | l::L=>by
  unfold errL
  by_cases h:(Jae G l).1=0
  ·
   rw [if_pos h,Jhs (L:=L)]
   constructor
   ·
    intro h2 j h0 h1
    by_cases hj:j=0
    ·
     rw [hj]; exact h
    have:=h2 (j - 1) (by omega) (by simp at h1; omega)
    rwa [show nth (l::L) j=nth L (j - 1) by unfold nth; rw [show j.toNat=(j - 1).toNat+1 by omega]; rfl]
   intro h2 j h0 h1
   have:=h2 (j+1) (by omega) (by simp; omega)
   rwa [show nth (l::L) (j+1)=nth L j by unfold nth; rw [show (j+1).toNat=j.toNat+1 by omega]; rfl] at this
  rw [if_neg h]
  exact ⟨fun h2=>absurd h2 h,fun h2=>absurd (h2 0 (Int.le_refl 0) (by simp)) h⟩
theorem Jiv:∀ {L:List (List Entr)} {s:Int},0≤s→s < L.length→(∀ j:Int,0≤j→j < s→(Jae G (nth L j)).1=0)→¬ (Jae G (nth L s)).1=0→errL G L=(Jae G (nth L s)).1
 | [],s,h0,h1,_,_=>by simp at h1; omega
 | l::L,s,h0,h1,h2,h3=>by
  unfold errL
  by_cases hs:s=0
  ·
   subst hs; exact if_neg h3
  have e0:(Jae G l).1=0:=h2 0 (Int.le_refl 0) (by omega)
  rw [if_pos e0]
  have e:∀ j:Int,0≤j→nth (l::L) (j+1)=nth L j:=fun j hj=>by unfold nth; rw [show (j+1).toNat=j.toNat+1 by omega]; rfl
  have e2:=e (s - 1) (by omega)
  rw [show s - 1+1=s by omega] at e2
  rw [e2] at h3 ⊢
  exact Jiv (by omega) (by simp at h1; omega) (fun j j0 j1=>by rw [← e j j0]; exact h2 (j+1) (by omega) (by omega)) h3
theorem Jxv (h:¬ (Jag G).1=0):Jbb G L pen=((Jag G).1,[]):=if_neg h
theorem Jz7 (h:(Jag G).1=0) (h2:64 < (L.length:Int)):Jbb G L pen=(2,[]):=(if_pos h).trans (if_pos h2)
theorem Jv9 (h:(Jag G).1=0) (h2:¬ 64 < (L.length:Int)) (h3:¬ errL G L=0):Jbb G L pen=(errL G L,[]):=(if_pos h).trans ((if_neg h2).trans (if_neg h3))
theorem Jyw (h:(Jag G).1=0) (h2:¬ 64 < (L.length:Int)) (h3:errL G L=0) (h4:¬ (0≤pen∧pen≤10000)):Jbb G L pen=(1,[]):=(if_pos h).trans ((if_neg h2).trans ((if_pos h3).trans (if_neg h4)))
theorem Jy3 (h:(Jag G).1=0) (h2:¬ 64 < (L.length:Int)) (h3:errL G L=0) (h4:0≤pen∧pen≤10000):Jbb G L pen=(0,Jhj (scF G L pen L.length) (filI L.length (finR G L))):=(if_pos h).trans ((if_neg h2).trans ((if_pos h3).trans (if_pos h4)))
end
end Go.Proofs.YtbboikncaihafaaGreatDoor
namespace Go.Proofs.YtbboikncaihafaaGreatDoor
open Go.Proofs
theorem tk67:tk Tryz.prog 67=some (false,1):=by kernel_rfl
theorem Kcu:Ent Tryz.prog 28:=Jaa Tryz.func28 (by kernel_rfl) rfl
theorem Kcs:Ent Tryz.prog 29:=Jaa Tryz.func29 (by kernel_rfl) rfl
theorem Kc0:Ent Tryz.prog 30:=Jaa Tryz.func30 (by kernel_rfl) rfl
theorem J9c:Ent Tryz.prog 32:=Jaa Tryz.func32 (by kernel_rfl) rfl
theorem Kbh:Ent Tryz.prog 76:=Jaa Tryz.func76 (by kernel_rfl) rfl
theorem Kb3:Ent Tryz.prog 78:=Jaa Tryz.func78 (by kernel_rfl) rfl
theorem Kda:Ent Tryz.prog 79:=Jaa Tryz.func79 (by kernel_rfl) rfl
theorem Kco:Ent Tryz.prog 83:=Jaa Tryz.func83 (by kernel_rfl) rfl
theorem Kb2:Ent Tryz.prog 136:=Jaa Tryz.func136 (by kernel_rfl) rfl
theorem J88:Ent Tryz.prog 139:=Jaa Tryz.func139 (by kernel_rfl) rfl
theorem J3w:Ent Tryz.prog 178:=Jaa Tryz.func178 (by kernel_rfl) rfl
theorem Jr5:Ent Tryz.prog 179:=Jaa Tryz.func179 (by kernel_rfl) rfl
theorem J29:Ent Tryz.prog 185:=Jaa Tryz.func185 (by kernel_rfl) rfl
theorem Ka5:Ent Tryz.prog 220:=Jaa Tryz.func220 (by kernel_rfl) rfl
theorem Jx2:Ent Tryz.prog 250:=Jaa Tryz.func250 (by kernel_rfl) rfl
end Go.Proofs.YtbboikncaihafaaGreatDoor
set_option maxHeartbeats 8000000
namespace Go.Proofs.YtbboikncaihafaaGreatDoor
open Go.RowKit Go.Proofs
set_option maxRecDepth 100000
set_option linter.unusedVariables false
set_option linter.unusedSimpArgs false
theorem J1k {α:Type} [Inhabited α] {e x:α} {l:List α}:nth (e::x::l) (((e::x::l).length:Int) - 1)=nth (x::l) (((x::l).length:Int) - 1):=by
 have h1:(((e::x::l).length:Int) - 1).toNat=l.length+1:=by simp
 have h2:(((x::l).length:Int) - 1).toNat=l.length:=by simp
 simp [nth,List.getD,h1,h2]
theorem Jmi {G:Game}:∀ (l:List Entr) (i last:Int) (f f':Film),FilmOk G f last i→Jcp G.p l i last f = .ok f' →
  ∃ last',FilmOk G f' last' (i+l.length)∧(l=[]→f'=f)∧(l≠[]→last'=(nth l ((l.length:Int) - 1)).t)
 | [],i,last,f,f',hf,h=>by
  cases h
  exact ⟨last,by simpa using hf,fun _=>rfl,fun h=>absurd rfl h⟩
 | e::l,i,last,f,f',hf,h=>by
  unfold Jcp at h
  split at h
  ·
   rename_i ht
   cases hs:Ja2 G.p f e with
   | none=>rw [hs] at h; cases h
   | some f1 =>
    rw [hs] at h
    obtain ⟨last',h1,h2,h3⟩:=Jmi l (i+1) e.t f1 f' (hf.next ht hs) h
    match l,h1,h2,h3,h with
    | [],h1,h2,h3,h =>
     obtain rfl:=h2 rfl
     have h9:Jcp G.p [] (i+1) e.t f' = .ok f':=rfl
     refine ⟨e.t,?_,(fun q=>by cases q),fun _=>rfl⟩
     have:=hf.next ht hs
     simpa using this
    | x::l,h1,h2,h3,h =>
     refine ⟨last',?_,(fun q=>by cases q),fun _=>?_⟩
     ·
      have e1:i+1+((x::l).length:Int)=i+((e::x::l).length:Int):=by simp only [List.length_cons]; omega
      rw [← e1]; exact h1
     rw [J1k]; exact h3 (by simp)
  cases h
theorem J1v {G:Game} {l:List Entr} (h0:(Jae G.p l).1=0) (hn:¬ (Jae G.p l).2.2.en < 0):0≤(Jae G.p l).2.2.en∧(l=[]→(Jae G.p l).2.2.en=0)∧(l≠[]→(Jae G.p l).2.2.en≤(nth l ((l.length:Int) - 1)).t)∧0≤(Jae G.p l).2.2.hi∧(Jae G.p l).2.2.hi≤l.length:=by
 obtain ⟨hb,hl,f,hr,hv⟩:=Jhg h0
 rw [hv] at hn ⊢
 obtain ⟨last',h1,h2,h3⟩:=Jmi l 0 0 _ _ (Jgn hb) hr
 have h4:=h1.en
 have h5:=h1.hi
 refine ⟨by simp only at hn ⊢; omega,fun he=>?_,fun he=>?_,h5.1,by have:=h5.2; show f.hi≤(l.length:Int); omega⟩
 ·
  obtain rfl:=h2 he
  have h6:=(Jgn hb).en
  simp only at hn ⊢
  omega
 rw [← h3 he]
 simp only at hn ⊢
 omega
theorem Jxd {G:GP} {f f2:Film} {e:Entr} (h:Ja2 G f e=some f2) (hen:f.en = -1) :
  (e.k=1→Jdu G f2.x=true→f2.en=e.t - f.pa∧f2.hi=f.hi) ∧
  (e.k=1→Jdu G f2.x=false→f2.en = -1∧f2.hi=f.hi∧f2.pa=f.pa∧f2.st=f.st∧f2.si=f.si) ∧
  (e.k=2→f2.en = -1∧f2.hi=f.hi+1∧f2.pa=f.pa∧f2.st=f.st∧f2.si=f.si) ∧
  (e.k=3→f2.en = -1∧f2.hi=f.hi∧f2.pa=f.pa∧f2.si=e.t) ∧
  (e.k=4→f.st=true∧f2.en = -1∧f2.hi=f.hi∧f2.pa=f.pa+(e.t - f.si)∧f2.st=false) ∧
  (¬ e.k=1→¬ e.k=2→¬ e.k=3→¬ e.k=4→f2=f):=by
 have hn:f.en < 0:=by omega
 obtain ⟨_,h | h | h | h | h⟩:=Jea h
 ·
  obtain ⟨k,_,_,rfl⟩:=h
  refine ⟨fun _ hd=>⟨if_pos ⟨hn,hd⟩,rfl⟩,fun _ hd=>⟨(if_neg fun q=>by rw [q.2] at hd; cases hd).trans hen,rfl,rfl,rfl,rfl⟩,fun q=>by omega,fun q=>by omega,fun q=>by omega,fun q=>absurd k q⟩
 ·
  obtain ⟨k,_,_,rfl⟩:=h
  refine ⟨fun q=>by omega,fun q=>by omega,fun _=>⟨hen,if_pos hn,rfl,rfl,rfl⟩,fun q=>by omega,fun q=>by omega,fun _ q=>absurd k q⟩
 ·
  obtain ⟨k,_,rfl⟩:=h
  refine ⟨fun q=>by omega,fun q=>by omega,fun q=>by omega,fun _=>⟨hen,rfl,rfl,rfl⟩,fun q=>by omega,fun _ _ q=>absurd k q⟩
 ·
  obtain ⟨k,s,rfl⟩:=h
  refine ⟨fun q=>by omega,fun q=>by omega,fun q=>by omega,fun q=>by omega,fun _=>⟨s,hen,rfl,rfl,rfl⟩,fun _ _ _ q=>absurd k q⟩
 obtain ⟨k,_,rfl⟩:=h
 refine ⟨fun q=>by omega,fun q=>by omega,fun q=>by omega,fun q=>by omega,fun q=>by omega,fun _ _ _ _=>rfl⟩
theorem J6m {G:GP} {l:List Entr} (h:¬ (Jae G l).1=0):Jfw G l=((Jae G l).1,0,0):=if_neg h
theorem Jtb {G:GP} {l:List Entr} {F:Film} (h:Jae G l=(0,0,F)) (he:0≤F.en):Jfw G l=(0,F.en,F.hi):=by
 unfold Jfw; rw [h]; exact (if_pos rfl).trans (if_neg (by show ¬ F.en < 0; omega))
theorem Jwn {G:GP} {l:List Entr} {F:Film} (h:Jae G l=(0,0,F)) (he:F.en = -1):Jfw G l=(3,0,0):=by
 unfold Jfw; rw [h]; exact (if_pos rfl).trans (if_pos (by show F.en < 0; omega))
theorem Jle {G:GP}:∀ (l:List Entr) (i last:Int) (f f':Film),Jcp G l i last f = .ok f'→∀ e∈l,e.t≤1000000
 | [],_,_,_,_,_=>fun e he=>by cases he
 | x::l,i,last,f,f',h=>by
  obtain ⟨ht,f1,_,h2⟩:=Jhl h
  intro e he
  rcases List.mem_cons.1 he with rfl | he
  ·
   exact (Jmr ht).2
  exact Jle l (i+1) x.t f1 f' h2 e he
theorem Jto {G:Game} {l:List Entr} (h0:(Jae G.p l).1=0) (hn:¬ (Jae G.p l).2.2.en < 0):0≤(Jae G.p l).2.2.en∧(Jae G.p l).2.2.en≤1000000∧0≤(Jae G.p l).2.2.hi∧(Jae G.p l).2.2.hi≤500:=by
 obtain ⟨h1,h2,h3,h4,h5⟩:=J1v h0 hn
 obtain ⟨hb,hl,f,hr,hv⟩:=Jhg h0
 refine ⟨h1,?_,h4,by omega⟩
 by_cases he:l=[]
 ·
  rw [h2 he]; decide
 have h6:=h3 he
 have hp:=List.length_pos_iff.2 he
 have h7:=Jle l 0 0 _ _ hr (nth l ((l.length:Int) - 1)) (Jai (by omega) (by omega))
 omega
theorem Jvt {p h:Int} (h0:0≤p) (h1:p≤10000) (h2:0≤h) (h3:h≤500):0≤p * h∧p * h≤5000000 :=
 ⟨Int.mul_nonneg h0 h2,by have:=Int.mul_le_mul h1 h3 h2 (by decide:(0:Int)≤10000); omega⟩
theorem Jtd {G:GP} {l:List Entr} {p:Int} (h:¬ (Jae G l).1=0):Jbw G l p=((Jae G l).1,0):=if_neg h
theorem Jog {G:GP} {l:List Entr} {p:Int} (h:(Jae G l).1=0) (hp:¬ (0≤p∧p≤10000)):Jbw G l p=(1,0):=(if_pos h).trans (if_neg hp)
theorem Jii {G:GP} {l:List Entr} {p:Int} (h:(Jae G l).1=0) (hp:0≤p∧p≤10000) (he:(Jae G l).2.2.en < 0):Jbw G l p=(3,0):=(if_pos h).trans ((if_pos hp).trans (if_pos he))
theorem Jkc {G:GP} {l:List Entr} {p:Int} (h:(Jae G l).1=0) (hp:0≤p∧p≤10000) (he:¬ (Jae G l).2.2.en < 0):Jbw G l p=(0,(Jae G l).2.2.en+p * (Jae G l).2.2.hi):=(if_pos h).trans ((if_pos hp).trans (if_neg he))
theorem Jof {G:GP} {l:List Entr} (h:(Jae G l).1=0) (he:¬ (Jae G l).2.2.en < 0):Jfw G l=(0,(Jae G l).2.2.en,(Jae G l).2.2.hi):=(if_pos h).trans (if_neg he)
theorem Jlf {G:GP} {l:List Entr} (h:(Jae G l).1=0) (he:(Jae G l).2.2.en < 0):Jfw G l=(3,0,0):=(if_pos h).trans (if_pos he)
theorem Jlr (G:Game) (w:World) (hG:GameOk w G) (y:Pos) (hy:PosOk w y) (hq:posG G.p y.x=0) :
  Calls Tryz.prog 185 #[.agg #[G.rm.pls.v,G.rm.ths.v,G.rm.prs.v,G.rm.wys.v,G.rm.acs.v,G.rm.aus.v,.int .i64 G.rm.ply,G.rm.gl.v,G.lks.v,G.cds.v,G.nts.v,.int .i64 G.tr],.agg #[y.st.ths.v,y.st.prs.v,y.st.pls.v,y.rd.v]] w (RetB w (.bool (Jdu G.p y.x))):=by
 have hP:=Jei (p:=y) hq
 have hgc:Jfx G.rm.ths.l G.rm.gl.l=true:=Jm6 (Jcs (Jh6 hP.ck)).2
 have hln:y.st.ths.l.length=G.rm.ths.l.length:=Jeu hq
 have hdx:Jdu G.p y.x=Jcd y.st.ths.l G.rm.gl.l:=by unfold Jdu; rw [← G.p_alike.gl]; rfl
 refine enter Tryz.func185 rfl rfl (Nat.le_of_ble_eq_true rfl) ?_
 refine Nz 0 ?_
 refine Wb 0 rfl rfl (fun _=>rfl) (fun _=>rfl) fun b2 hb2=>?_
 refine Wb 1 rfl rfl (fun _=>rfl) (fun _=>rfl) fun b3 hb3=>?_
 refine Wd (Qc (Nz 1 ?_))
 refine Wk 2 (Bc 0) ?_
 refine Wk 0 (Ba 1) ?_
 refine Wk 1 (Cb rfl rfl Jl0 (fun u hu=>Je2 y.st u (hy.st.st hu) G.rm.gl (hG.rm.gl.st hu) (by rw [hln]; exact Jf4 hgc))) ?_
 exact Wd (Qc (Cr (out1 rfl rfl (Jab (by rw [hdx])))))
theorem Jui (G:Game) (w:World) (hG:GameOk w G) (hn:NearG G) (l:Sl Entr) (hk:SlT cEntry w l) :
  Calls Tryz.prog 139 #[.agg #[G.rm.pls.v,G.rm.ths.v,G.rm.prs.v,G.rm.wys.v,G.rm.acs.v,G.rm.aus.v,.int .i64 G.rm.ply,G.rm.gl.v,G.lks.v,G.cds.v,G.nts.v,.int .i64 G.tr],l.v] w (RetB w (.tuple #[.int .i64 (Jfw G.p l.l).2.1,.int .i64 (Jfw G.p l.l).2.2,.int .i64 (Jfw G.p l.l).1])):=by
 have lls:=hk.le
 refine enter Tryz.func139 rfl rfl (Nat.le_of_ble_eq_true rfl) ?_
 refine Nz 0 ?_
 refine Wb 3 rfl rfl (fun _=>rfl) (fun _=>rfl) fun b2 hb2=>?_
 refine Wd (Qc (Nz 0 ?_))
 refine Wk 1 (Bb 0) ?_
 refine Wk 5 (Cb rfl rfl J1w (fun u hu=>Jfo G u (hG.st hu) hn l (hk.st hu))) ?_
 refine Wd (Qc (Cs (Nz 2 ?_)))
 refine Wd (Qc (CS.cond rfl ?_ ?_))<;>intro hc1<;>try simp only [bq] at hc1
 ·
  refine Nz 4 ?_
  exact Wd (Qc (Cr (Qr (out3 rfl rfl rfl rfl (Jab (by rw [J6m hc1]))))))
 have hE:(Jae G.p l.l).1=0:=hc1
 obtain ⟨hB,hL,F,hR,hV⟩:=Jhg hE
 refine Ck (Qc (Nz 0 ?_))
 refine Wk 0 (Bb 0) ?_
 refine Wc rfl rfl J6g (fun u hu=>Jni G u (hG.st hu) hn) (fun _=>rfl) ?_; rintro ⟨rb,y⟩ ⟨hyx,uy,hyok⟩
 refine WS.unpack ?_
 refine Wz 5 ?_
 refine Wd (Qc (Cs (Cs (Dr Jah 0 ?_))))
 refine Dk 3 (Bb 2) ?_
 refine Dk 0 (Bc 0) ?_
 refine Dk 0 (Cb rfl rfl J29 (fun u hu=>Jlr G u (hG.st hu) y (hu.ro (j:=1) rfl) (by rw [hyx]; exact Je8 hB))) ?_
 refine Dd (Qc (CS.cond rfl ?_ ?_))<;>intro hc2<;>try simp only [bq] at hc2
 ·
  have hd0:Jdu G.p (Jag G.p).2=true:=hyx ▸ hc2
  have he0:(Jaz G.p).en=0:=if_pos hd0
  have hkp:=Ji2 _ _ _ _ _ hR (by rw [he0]; decide)
  refine Nz 3 ?_
  exact Wd (Qc (Cr (Qr (out3 rfl rfl rfl rfl (Jab (by rw [Jtb hV (by rw [hkp.1,he0]; decide),hkp.1,hkp.2,he0]; rfl))))))
 have hd0:¬ Jdu G.p (Jag G.p).2=true:=by rw [← hyx]; first | exact hc2 | simpa using hc2
 have he0:(Jaz G.p).en = -1:=if_neg hd0
 refine Ck (Qc (Nz 3 ?_))
 refine Wd (Qc (Cs (Nz 1 ?_)))
 refine Wd (Qc (Ce ?_))
 refine CS.loopM (σ:=Int × Pos × Film × Int × Int × Int × Int) [4,5,6,35,36,37,38,39,40,41,42,43,44,45,46,47,48,49,50,51,52,53,54,55,56,57,58,59,60,61,62,63,64,65,66,67,68,69,70,71,72,73,74,75,76,77,78,79,80,81,82,83,84,85,86,87,88,89] (fun s=>[(14,.int .i64 s.1),(11,.int .i64 s.2.2.2.2.1),(12,.int .i64 s.2.2.2.2.2.1),(13,.int .i64 s.2.2.2.2.2.2)]) (fun s=>[blk rb [G.rm.pls.v,G.rm.ths.v,G.rm.prs.v,G.rm.wys.v,G.rm.acs.v,G.rm.aus.v,.int .i64 G.rm.ply,G.rm.gl.v,G.lks.v,G.cds.v,G.nts.v,.int .i64 G.tr,s.2.1.st.ths.v,s.2.1.st.prs.v,s.2.1.st.pls.v,s.2.1.rd.v,.bool s.2.2.1.st,.int .i64 s.2.2.2.1] 211,roS fun u=>PosOk u s.2.1,blk b2 [G.rm.pls.v,G.rm.ths.v,G.rm.prs.v,G.rm.wys.v,G.rm.acs.v,G.rm.aus.v,.int .i64 G.rm.ply,G.rm.gl.v,G.lks.v,G.cds.v,G.nts.v,.int .i64 G.tr] 36]) (fun s=>0≤s.1∧s.1≤l.l.length∧(∃ u0,PosOk u0 s.2.1)∧s.2.1.x=s.2.2.1.x∧posG G.p s.2.2.1.x=0∧Jcp G.p (l.l.drop s.1.toNat) s.1 s.2.2.2.1 s.2.2.1 = .ok F∧s.2.2.1.en = -1∧s.2.2.2.2.1=s.2.2.1.hi∧s.2.2.2.2.2.1=s.2.2.1.pa∧(s.2.2.1.st=true→s.2.2.2.2.2.2=s.2.2.1.si)∧FilmOk G s.2.2.1 s.2.2.2.1 s.1) (fun s=>(l.l.length - s.1).toNat) (0,y,Jaz G.p,0,0,0,0) (fun _ _=>rfl) rfl rfl ⟨by simp,by simp,⟨_,hyok⟩,hyx,Je8 hB,hR,he0,rfl,rfl,(fun q=>by cases q),Jgn hB⟩ ?_
 intro s t hs
 obtain ⟨hs1,hs2,⟨us,hsok⟩,hs4,hs5,hs6,hs7,hs8,hs9,hs10,hs11⟩:=hs
 have hpq:=hs11.pa0
 have hpr:=hs11.hi
 refine Cs (Nz 2 ?_)
 refine Wk 1 Nc ?_
 refine Wd (Qc (CS.cond rfl ?_ ?_))<;>intro hc3<;>try simp only [bq] at hc3
 ·
  rw [Jat hs1 (by omega)] at hs6
  obtain ⟨hT,f3,hf3,hr3⟩:=Jhl hs6
  refine Ck (Qc (Cs (Ce (Nz 3 ?_))))
  refine Wk 0 Xc ?_
  refine Wk 0 Ua ?_
  refine WS.callS rfl rfl J3k (fun u hu=>Jov [] [_] G hG hn rb s.2.1 s.2.2.1 hs4 (nth l.l s.1) s.2.2.2.1 hu) (fun _=>rfl) ?_; rintro ⟨y2,f2,t2⟩ ⟨hy2x,⟨uy2,hy2ok⟩,hf2⟩
  dsimp only at hf2 hy2x hy2ok
  obtain ⟨rfl,rfl⟩:=hf2 f3 hT hf3
  have hq2:=Jpi hs5 hf3
  have hy2n:y2.st.ths.l.length=G.rm.ths.l.length:=by have h9:=Jeu hq2; rw [← hy2x] at h9; exact h9
  have hnth:=hn.rm.ths
  have hts:=Jxd hf3 hs7
  obtain ⟨tb1,tb2⟩:=Jmr hT
  have hp0:=hs11.pa0
  have hp1:=hs11.pa1
  have hps:=hs11.si
  have hph:=hs11.hi
  have hF2:=hs11.next hT hf3
  refine Wd (Qc (Nz 2 ?_))
  refine Wk 1 Xc ?_
  refine Wk 0 (Uc 7 1) ?_
  refine Wd (Qc (Ce (Nz 2 ?_)))
  refine Wd (Qc (CS.cond rfl ?_ ?_))<;>intro hc4<;>try simp only [bq] at hc4
  ·
   refine Cs (Dr Jah 0 ?_)
   refine Dk 3 (Bb 2) ?_
   refine Dk 0 (Bc 0) ?_
   refine Dk 0 (Cb rfl rfl J29 (fun u hu=>Jlr G u (hG.st hu) y2 (hu.ro (j:=1) rfl) (by rw [hy2x]; exact hq2))) ?_
   refine Dd (Qc (CS.cond rfl ?_ ?_))<;>intro hc5<;>try simp only [bq] at hc5
   ·
    have hdn:Jdu G.p f2.x=true:=hy2x ▸ hc5
    obtain ⟨q1,q2⟩:=hts.1 hc4 hdn
    have hkp:=Ji2 _ _ _ _ _ hr3 (by rw [q1]; omega)
    refine Nz 2 ?_
    refine Wk 1 Xc ?_
    refine Wk 1 (Uc 7 0) ?_
    refine Wk 4 Zb ?_
    exact Wd (Qc (Cr (Qs (Qs (Qr (Qr (Qs (Qr (out3 rfl rfl rfl rfl (Jab (by rw [Jtb hV (by rw [hkp.1,q1]; omega),hkp.1,hkp.2,q1,q2,hs8,hs9])))))))))))
   have hdn:Jdu G.p f2.x=false:=by rw [← hy2x]; first | exact hc5 | simpa using hc5
   obtain ⟨q1,q2,q3,q4,q5⟩:=hts.2.1 hc4 hdn
   refine Ck (Qb (Qb (Qc (Ny 1 ?_))))
   refine Wk 1 Za ?_
   exact Wd (QS.head ((s.1+1,y2,f2,(nth l.l s.1).t,s.2.2.2.2.1,s.2.2.2.2.2.1,s.2.2.2.2.2.2)) rfl rfl ⟨⟨by simp; omega,by simp; omega,⟨_,hy2ok⟩,hy2x,hq2,hr3,q1,by rw [q2]; exact hs8,by rw [q3]; exact hs9,fun h=>by rw [q5]; exact hs10 (q4 ▸ h),hF2⟩,by simp; omega⟩)
  refine Nz 2 ?_
  refine Wd (Qc (CS.cond rfl ?_ ?_))<;>intro hc6<;>try simp only [bq] at hc6
  ·
   obtain ⟨q1,q2,q3,q4,q5⟩:=hts.2.2.1 hc6
   refine Ny 1 ?_
   refine Wk 1 Za ?_
   refine Wd (Qb (Qb (Qc (Ny 1 ?_))))
   refine Wk 1 Za ?_
   exact Wd (QS.head ((s.1+1,y2,f2,(nth l.l s.1).t,s.2.2.2.2.1+1,s.2.2.2.2.2.1,s.2.2.2.2.2.2)) rfl rfl ⟨⟨by simp; omega,by simp; omega,⟨_,hy2ok⟩,hy2x,hq2,hr3,q1,by show s.2.2.2.2.1+1=_; rw [q2,hs8],by rw [q3]; exact hs9,fun h=>by rw [q5]; exact hs10 (q4 ▸ h),hF2⟩,by simp; omega⟩)
  refine Nz 2 ?_
  refine Wd (Qc (CS.cond rfl ?_ ?_))<;>intro hc7<;>try simp only [bq] at hc7
  ·
   obtain ⟨q1,q2,q3,q4⟩:=hts.2.2.2.1 hc7
   refine Ny 2 ?_
   refine Wk 1 Xc ?_
   refine Wk 1 (Uc 7 0) ?_
   refine Wd (Qb (Qb (Qc (Ny 1 ?_))))
   refine Wk 1 Za ?_
   exact Wd (QS.head ((s.1+1,y2,f2,(nth l.l s.1).t,s.2.2.2.2.1,s.2.2.2.2.2.1,(nth l.l s.1).t)) rfl rfl ⟨⟨by simp; omega,by simp; omega,⟨_,hy2ok⟩,hy2x,hq2,hr3,q1,by rw [q2]; exact hs8,by rw [q3]; exact hs9,fun _=>q4.symm,hF2⟩,by simp; omega⟩)
  refine Nz 2 ?_
  refine Wd (Qc (CS.cond rfl ?_ ?_))<;>intro hc8<;>try simp only [bq] at hc8
  ·
   obtain ⟨q0,q1,q2,q3,q4⟩:=hts.2.2.2.2.1 hc8
   have hpss:=hps q0
   have hsis:=hs10 q0
   refine Ny 3 ?_
   refine Wk 1 Xc ?_
   refine Wk 0 (Uc 7 0) ?_
   refine Wk 1 Za ?_
   refine Wk 1 Zb ?_
   refine Wd (Qb (Qb (Qc (Ny 1 ?_))))
   refine Wk 1 Za ?_
   exact Wd (QS.head ((s.1+1,y2,f2,(nth l.l s.1).t,s.2.2.2.2.1,s.2.2.2.2.2.1+(nth l.l s.1).t - s.2.2.2.2.2.2,s.2.2.2.2.2.2)) rfl rfl ⟨⟨by simp; omega,by simp; omega,⟨_,hy2ok⟩,hy2x,hq2,hr3,q1,by rw [q2]; exact hs8,by show s.2.2.2.2.2.1+(nth l.l s.1).t - s.2.2.2.2.2.2=f2.pa; omega,fun h=>absurd (q4.symm.trans h) (by decide),hF2⟩,by simp; omega⟩)
  have q1:=hts.2.2.2.2.2 hc4 hc6 hc7 hc8
  refine Ck (Qb (Qb (Qc (Ny 1 ?_))))
  refine Wk 1 Za ?_
  exact Wd (QS.head ((s.1+1,y2,f2,(nth l.l s.1).t,s.2.2.2.2.1,s.2.2.2.2.2.1,s.2.2.2.2.2.2)) rfl rfl ⟨⟨by simp; omega,by simp; omega,⟨_,hy2ok⟩,hy2x,hq2,hr3,by rw [q1]; exact hs7,by rw [q1]; exact hs8,by rw [q1]; exact hs9,fun h=>by rw [q1] at h ⊢; exact hs10 h,hF2⟩,by simp; omega⟩)
 refine Cv (Qe (Qe (Qx (Qc (Nz 3 ?_)))))
 refine Wd (Qc (Cr ?_))
 exact out3 rfl rfl rfl rfl (Jab (by
    rw [List.drop_of_length_le (by omega),Jcp] at hs6
    cases hs6
    rw [Jwn hV hs7]))
theorem Jp1 (G:Game) (w:World) (hG:GameOk w G) (hn:NearG G) (l:Sl Entr) (hk:SlT cEntry w l) (pen:Int) :
  Calls Tryz.prog 83 #[.agg #[G.rm.pls.v,G.rm.ths.v,G.rm.prs.v,G.rm.wys.v,G.rm.acs.v,G.rm.aus.v,.int .i64 G.rm.ply,G.rm.gl.v,G.lks.v,G.cds.v,G.nts.v,.int .i64 G.tr],l.v,.int .i64 pen] w (RetB w (.tuple #[.int .i64 (Jbw G.p l.l pen).2,.int .i64 (Jbw G.p l.l pen).1])):=by
 refine enter Tryz.func83 rfl rfl (Nat.le_of_ble_eq_true rfl) ?_
 refine Nz 0 ?_
 refine Wb 2 rfl rfl (fun _=>rfl) (fun _=>rfl) fun b3 hb3=>?_
 refine Wd (Qc (Nz 0 ?_))
 refine Wk 1 (Bb 0) ?_
 refine Wk 5 (Cb rfl rfl J1w (fun u hu=>Jfo G u (hG.st hu) hn l (hk.st hu))) ?_
 refine Wd (Qc (Cs (Nz 2 ?_)))
 refine Wd (Qc (CS.cond rfl ?_ ?_))<;>intro hc1<;>try simp only [bq] at hc1
 ·
  refine Nz 3 ?_
  exact Wd (Qc (Cr (Qr (out2 rfl rfl rfl (Jab (by rw [Jtd hc1]))))))
 have hE:(Jae G.p l.l).1=0:=hc1
 refine Ck (Qc (Cs (Nz 1 ?_)))
 refine Wk 1 (Cb rfl rfl Jv7 (fun u hu=>Jk2 _ _ _ u)) ?_
 refine Wd (Qc (CS.cond rfl ?_ ?_))<;>intro hc2<;>try simp only [bq] at hc2
 ·
  have hpn:¬ (0≤pen∧pen≤10000):=by have h9:=hc2; first | omega | (simp at h9; omega)
  refine Nz 2 ?_
  exact Wd (Qc (Cr (Qr (out2 rfl rfl rfl (Jab (by rw [Jog hE hpn]))))))
 have hpy:0≤pen∧pen≤10000:=by have h9:=hc2; first | omega | (simp at h9; omega)
 refine Ck (Qc (Nz 0 ?_))
 refine Wk 1 (Bb 0) ?_
 refine Wk 7 (Cb rfl rfl J88 (fun u hu=>Jui G u (hG.st hu) hn l (hk.st hu))) ?_
 refine Wd (Qc (Cs (Nz 2 ?_)))
 refine Wd (Qc (CS.cond rfl ?_ ?_))<;>intro hc3<;>try simp only [bq] at hc3
 ·
  have hen:(Jae G.p l.l).2.2.en < 0:=by
     rcases Decidable.em ((Jae G.p l.l).2.2.en < 0) with h | h
     ·
      exact h
     rw [Jof hE h] at hc3; exact absurd rfl hc3
  refine Nz 3 ?_
  exact Wd (Qc (Cr (Qr (out2 rfl rfl rfl (Jab (by rw [Jii hE hpy hen,Jlf hE hen]))))))
 have hen:¬ (Jae G.p l.l).2.2.en < 0:=fun h=>by rw [Jlf hE h] at hc3; cases hc3
 obtain ⟨b1,b2,b3,b4⟩:=Jto hE hen
 have hpm:=Jvt hpy.1 hpy.2 b3 b4
 have htt:=Jof hE hen
 have ht1:(Jfw G.p l.l).2.1=(Jae G.p l.l).2.2.en:=by rw [htt]
 have ht2:(Jfw G.p l.l).2.2=(Jae G.p l.l).2.2.hi:=by rw [htt]
 rw [ht1,ht2]
 refine Ck (Qc (Nz 3 ?_))
 refine Wk 0 Zc ?_
 refine Wk 2 Za ?_
 exact Wd (Qc (Cr (out2 rfl rfl rfl (Jab (by rw [Jkc hE hpy hen])))))
theorem Jmg {G:Game} {l:List Entr} (h0:(Jae G.p l).1=0):((Jae G.p l).2.2.en = -1∨(0≤(Jae G.p l).2.2.en∧(Jae G.p l).2.2.en≤1000000))∧0≤(Jae G.p l).2.2.hi∧(Jae G.p l).2.2.hi≤500:=by
 obtain ⟨hb,hl,f,hr,hv⟩:=Jhg h0
 obtain ⟨last',h1,h2,h3⟩:=Jmi l 0 0 _ _ (Jgn hb) hr
 have h5:=h1.hi
 have h6:=h1.en
 have e:(Jae G.p l).2.2=f:=by rw [hv]
 rw [e]
 refine ⟨?_,by omega⟩
 rcases h6 with h6 | h6
 ·
  exact .inl h6
 have h7:=Jto h0 (by rw [e]; omega)
 rw [e] at h7
 exact .inr ⟨h6.1,h7.2.1⟩
theorem J4r (G:Game) (y:Pos) (f:Film) (fb:Nat) (e:TypeId) (w:World) (hb:BlkAt w fb [G.rm.pls.v,G.rm.ths.v,G.rm.prs.v,G.rm.wys.v,G.rm.acs.v,G.rm.aus.v,.int .i64 G.rm.ply,G.rm.gl.v,G.lks.v,G.cds.v,G.nts.v,.int .i64 G.tr,y.st.ths.v,y.st.prs.v,y.st.pls.v,y.rd.v,.bool f.st,.int .i64 f.si,.int .i64 f.pa,.int .i64 f.en,.int .i64 f.hi] e) (pen:Int) (hp:0≤pen∧pen≤10000) (he:f.en = -1∨(0≤f.en∧f.en≤1000000)) (hh:0≤f.hi∧f.hi≤500) :
  Calls Tryz.prog 76 #[.pointer (some ⟨fb,0,none⟩),.int .i64 pen] w (RetB w (.tuple #[.int .i64 (f.en+pen * f.hi),.bool (decide (0≤f.en))])):=by
 have hpm:=Jvt hp.1 hp.2 hh.1 hh.2
 refine enter Tryz.func76 rfl rfl (Nat.le_of_ble_eq_true rfl) ?_
 refine Nz 2 ?_
 refine Wd (Qc (Cs (Dr Jah 3 ?_)))
 refine Dk 4 Ga ?_
 refine Dk 0 Ga ?_
 refine Dk 0 Zc ?_
 refine Dk 3 Za ?_
 refine Dk 3 Ga ?_
 exact Dd (Qc (Cr (out2 rfl rfl rfl (Jab rfl))))
theorem Jou (G:Game) (w:World) (hG:GameOk w G) (hn:NearG G) (g:Sl ByteArray) (hW:GOk w g) (l:Sl Entr) (hk:SlT cEntry w l) (pen:Int) (hE:(Jae G.p l.l).1=0) :
  Calls Tryz.prog 32 #[.agg #[G.rm.pls.v,G.rm.ths.v,G.rm.prs.v,G.rm.wys.v,G.rm.acs.v,G.rm.aus.v,.int .i64 G.rm.ply,G.rm.gl.v,G.lks.v,G.cds.v,G.nts.v,.int .i64 G.tr],l.v,.int .i64 pen] w (RetB w (.tuple #[.int .i64 (Jbw G.p l.l pen).2,.int .i64 (Jbw G.p l.l pen).1])):=by
 refine enter Tryz.func32 rfl rfl (Nat.le_of_ble_eq_true rfl) ?_
 refine Nz 0 ?_
 refine Wb 2 rfl rfl (fun _=>rfl) (fun _=>rfl) fun b3 hb3=>?_
 refine Wd (Qc (Nz 0 ?_))
 refine Wk 1 (Bb 0) ?_
 refine WS.weak (fun u hu=>hu.osl0 (e:=0) (size:=1)) ?_
 refine WS.callS rfl rfl Jqz (fun u hu=>Jmf _ G hG hn g hW l hk hE hu) (fun _=>rfl) ?_; rintro ⟨fb,y⟩ ⟨hyx,uy,hyok⟩
 dsimp only at hyx hyok
 refine Wz 5 ?_
 refine Wd (Qc (Cs (Nz 2 ?_)))
 refine Wd (Qc (CS.cond rfl ?_ ?_))<;>intro hc1<;>try simp only [bq] at hc1
 ·
  exact absurd trivial hc1
 refine Ck (Qc (Cs (Nz 1 ?_)))
 refine Wk 1 (Cb rfl rfl Jk7 (fun u hu=>Jc3 _ _ _ u)) ?_
 refine Wd (Qc (CS.cond rfl ?_ ?_))<;>intro hc2<;>try simp only [bq] at hc2
 ·
  have hpn:¬ (0≤pen∧pen≤10000):=by have h9:=hc2; first | omega | (simp at h9; omega)
  refine Nz 2 ?_
  exact Wd (Qc (Cr (Qr (out2 rfl rfl rfl (Jab (by rw [Jog hE hpn]))))))
 have hpy:0≤pen∧pen≤10000:=by have h9:=hc2; first | omega | (simp at h9; omega)
 refine Ck (Qc (Nz 2 ?_))
 refine Wk 5 (Cb rfl rfl Kbh (fun u hu=>J4r G y (Jae G.p l.l).2.2 fb _ u (Ja0 hu (j:=0) rfl) pen hpy (Jmg hE).1 (Jmg hE).2)) ?_
 refine Wd (Qc (Cs (Nz 2 ?_)))
 refine Wd (Qc (CS.cond rfl ?_ ?_))<;>intro hc3<;>try simp only [bq] at hc3
 ·
  have hen:(Jae G.p l.l).2.2.en < 0:=by first | omega | (simp at hc3; omega)
  refine Nz 2 ?_
  exact Wd (Qc (Cr (Qr (out2 rfl rfl rfl (Jab (by rw [Jii hE hpy hen]))))))
 have hen:¬ (Jae G.p l.l).2.2.en < 0:=by first | omega | (simp at hc3; omega)
 refine Ck (Qc (Nz 3 ?_))
 exact Wd (Qc (Cr (out2 rfl rfl rfl (Jab (by rw [Jkc hE hpy hen])))))
theorem Jn1 (G:Game) (w:World) (hG:GameOk w G) (hn:NearG G) (g:Sl ByteArray) (hW:GOk w g) (l:Sl Entr) (hk:SlT cEntry w l) (pen:Int) (hE:¬ (Jae G.p l.l).1=0) :
  Calls Tryz.prog 32 #[.agg #[G.rm.pls.v,G.rm.ths.v,G.rm.prs.v,G.rm.wys.v,G.rm.acs.v,G.rm.aus.v,.int .i64 G.rm.ply,G.rm.gl.v,G.lks.v,G.cds.v,G.nts.v,.int .i64 G.tr],l.v,.int .i64 pen] w (RetB w (.tuple #[.int .i64 (Jbw G.p l.l pen).2,.int .i64 (Jbw G.p l.l pen).1])):=by
 refine enter Tryz.func32 rfl rfl (Nat.le_of_ble_eq_true rfl) ?_
 refine Nz 0 ?_
 refine Wb 2 rfl rfl (fun _=>rfl) (fun _=>rfl) fun b3 hb3=>?_
 refine Wd (Qc (Nz 0 ?_))
 refine Wk 1 (Bb 0) ?_
 refine WS.weak (fun u hu=>hu.osl0 (e:=0) (size:=1)) ?_
 refine WS.callS rfl rfl Jqz (fun u hu=>Jm8 _ G hG hn g hW l hk hE hu) (fun _=>rfl) ?_; rintro acc -
 refine Wz 5 ?_
 refine Wd (Qc (Cs (Nz 2 ?_)))
 refine Wd (Qc (CS.cond rfl ?_ ?_))<;>intro hc1<;>try simp only [bq] at hc1
 ·
  refine Nz 3 ?_
  exact Wd (Qc (Cr (Qr (out2 rfl rfl rfl (Jab (by rw [Jtd hE]))))))
 exact absurd hc1 hE
theorem Jjt (G:Game) (w:World) (hG:GameOk w G) (hn:NearG G) (g:Sl ByteArray) (hW:GOk w g) (l:Sl Entr) (hk:SlT cEntry w l) (pen:Int) :
  Calls Tryz.prog 32 #[.agg #[G.rm.pls.v,G.rm.ths.v,G.rm.prs.v,G.rm.wys.v,G.rm.acs.v,G.rm.aus.v,.int .i64 G.rm.ply,G.rm.gl.v,G.lks.v,G.cds.v,G.nts.v,.int .i64 G.tr],l.v,.int .i64 pen] w (RetB w (.tuple #[.int .i64 (Jbw G.p l.l pen).2,.int .i64 (Jbw G.p l.l pen).1])):=by
 by_cases hE:(Jae G.p l.l).1=0
 ·
  exact Jou G w hG hn g hW l hk pen hE
 exact Jn1 G w hG hn g hW l hk pen hE
theorem Jno {w u:World} (p:World→Prop) (R:SA)  (fn:FuncId) (cap:List Value) (v:Value) (A U M V B:List Int) (a b n:Int) (ha:a=A.length) (hn:n=U.length) (hl:U.length=V.length) (hb:b=a+U.length+M.length) (hm:(A.length:Int)+U.length+M.length+V.length+B.length≤1000000) (hu:St w.heap.size w [oT cInt 3 v (A++(U++(M++(V++B)))),roS p,R] u) :
  Calls Tryz.prog 250 #[v,.int .i64 a,.int .i64 b,.int .i64 n,.func (.func fn) #[] cap.toArray] u (fun e u'=>e = .returned (.tuple #[])∧St w.heap.size w [oT cInt 3 v (A++(V++(M++(U++B)))),roS p,R] u'):=by
 refine Jb0 hu Tryz.func250 rfl rfl (Nat.le_of_ble_eq_true rfl) ?_
 refine Nz 1 ?_
 refine Wd (Qc (Ce ?_))
 refine CS.loopM (σ:=Int) [11,12,13,14,15,16,17,18,19,20,21,22,23,24,25,26,27,28,29,30,31,32,33,34,35,36,37] (fun s=>[(10,.int .i64 s)]) (fun s=>[oT cInt 3 v (swr A U M V B s),roS p,R]) (fun s=>0≤s∧s≤n) (fun s=>(n - s).toNat) 0 (fun _ _=>rfl) rfl (congrArg (fun l=>[oT cInt 3 v (l),roS p,R]) (J94)) ⟨by omega,by omega⟩ ?_
 intro s t hs
 obtain ⟨hs1,hs2⟩:=hs
 have hlen:=Jv5 (A:=A) (M:=M) (B:=B) (i:=s) hl
 refine Cs (Nz 3 ?_)
 refine Wd (Qc (CS.cond rfl ?_ ?_))<;>intro hc1<;>try simp only [bq] at hc1
 ·
  refine Ck (Qc (Cs (Ce ?_)))
  refine CS.drawnTill 21 (k:=24) Jah rfl rfl ?_
  refine Tr 24 [0,1,2] ?_
  refine Tk 24 3 [8,9,10] rfl Za ?_
  refine Tk 24 11 [] rfl Za ?_
  refine Tk 24 12 [] rfl (Jaf (j:=0) sl42 rfl rfl rfl rfl (by first | omega | (rw [List.length_set]; omega)) (by first | omega | (rw [List.length_set]; omega))) ?_
  refine Tk 24 13 [14,15,16] rfl (Jbt (j:=0) rfl rfl rfl ⟨(by first | omega | (rw [List.length_set]; omega)),(by first | omega | (rw [List.length_set]; omega))⟩ rfl tk3) ?_
  refine Tk 24 17 [] rfl Za ?_
  refine Tk 24 18 [] rfl (Jaf (j:=0) sl42 rfl rfl rfl rfl (by first | omega | (rw [List.length_set]; omega)) (by first | omega | (rw [List.length_set]; omega))) ?_
  refine Tk 24 19 [] rfl (Jbt (j:=0) rfl rfl rfl ⟨(by first | omega | (rw [List.length_set]; omega)),(by first | omega | (rw [List.length_set]; omega))⟩ rfl tk3) ?_
  refine Tk 24 20 [] rfl (Jaf (j:=0) sl42 rfl rfl rfl rfl (by first | omega | (rw [List.length_set]; omega)) (by first | omega | (rw [List.length_set]; omega))) ?_
  refine AT.takeP 4 rfl (by kernel_rfl) rfl (by kernel_rfl) (by kernel_rfl) rfl rfl (Jaw rfl) rfl rfl ?_
  refine AT.takeP 5 rfl (by kernel_rfl) rfl (by kernel_rfl) (by kernel_rfl) rfl rfl (Jaw rfl) rfl rfl ?_
  refine AT.takeP 6 rfl (by kernel_rfl) rfl (by kernel_rfl) (by kernel_rfl) rfl rfl (Jaw rfl) rfl rfl ?_
  refine AT.takeP 7 rfl (by kernel_rfl) rfl (by kernel_rfl) (by kernel_rfl) rfl rfl (Jj8 rfl rfl (by omega)) rfl rfl ?_
  refine To 21 rfl ?_
  refine WS.storeT1 (C:=cInt) (nth (swr A U M V B s) (b+s)) (j:=0) rfl rfl rfl ⟨(by first | omega | (rw [List.length_set]; omega)),(by first | omega | (rw [List.length_set]; omega))⟩ rfl rfl tk3 rfl rfl ?_
  refine Wd (Qt ?_)
  refine To 22 rfl ?_
  refine Wk 0 (Jaf (j:=0) sl42 rfl rfl rfl rfl (by first | omega | (rw [List.length_set]; omega)) (by first | omega | (rw [List.length_set]; omega))) ?_
  refine Wd (Qt ?_)
  refine To 23 rfl ?_
  refine WS.storeT1 (C:=cInt) (nth (swr A U M V B s) (a+s)) (j:=0) rfl rfl rfl ⟨(by first | omega | (rw [List.length_set]; omega)),(by first | omega | (rw [List.length_set]; omega))⟩ rfl rfl tk3 rfl rfl ?_
  refine Wd (Qt ?_)
  refine Te ?_
  refine Qb (Qc (Ny 1 ?_))
  refine Wk 1 Za ?_
  exact Wd (QS.head (s+1) rfl (congrArg (fun l=>[oT cInt 3 v (l),roS p,R]) ((Jsc hs1 (by omega) hl ha hb).symm)) ⟨⟨by omega,by omega⟩,by omega⟩)
 exact Cv (Qe (Qe (Qx (out0 (Or.inr rfl) rfl (fun u hu=>⟨rfl,by rw [Jvv (by omega) (by omega)] at hu; exact hu⟩)))))
theorem Kak {w u:World} (p:World→Prop) (R:SA)  (fn:FuncId) (cap:List Value) (v:Value) (A U V B:List Int) (a m b:Int) (ha:a=A.length) (hm1:m=a+U.length) (hb:b=m+V.length) (h1:0 < U.length) (h2:0 < V.length) (hm:(A.length:Int)+U.length+V.length+B.length≤1000000) (hu:St w.heap.size w [oT cInt 3 v (A++(U++(V++B))),roS p,R] u) :
  Calls Tryz.prog 220 #[v,.int .i64 a,.int .i64 m,.int .i64 b,.func (.func fn) #[] cap.toArray] u (fun e u'=>e = .returned (.tuple #[])∧St w.heap.size w [oT cInt 3 v (A++(V++(U++B))),roS p,R] u'):=by
 refine Jb0 hu Tryz.func220 rfl rfl (Nat.le_of_ble_eq_true rfl) ?_
 refine Nz 2 ?_
 refine Wk 1 Zb ?_
 refine Wd (Qc (Nz 2 ?_))
 refine Wk 1 Zb ?_
 refine Wd (Qc (Cs (Ce ?_)))
 refine CS.loopM (σ:=Int × Int × List Int × List Int × List Int × List Int) [18,19,20,21,22,23,24,25,26,27,28,29,30,31,32,33,34,35,36,37,38,39,40,41,42,43,44,45,46,47,48,49] (fun s=>[(10,.int .i64 s.1),(11,.int .i64 s.2.1)]) (fun s=>[oT cInt 3 v (A++(s.2.2.1++(s.2.2.2.1++(s.2.2.2.2.1++(s.2.2.2.2.2++B))))),roS p,R]) (fun s=>s.1=s.2.2.2.1.length∧s.2.1=s.2.2.2.2.1.length∧0 < s.2.2.2.1.length∧0 < s.2.2.2.2.1.length∧m=A.length+s.2.2.1.length+s.2.2.2.1.length∧V++U=s.2.2.1++(s.2.2.2.2.1++(s.2.2.2.1++s.2.2.2.2.2))) (fun s=>(s.1+s.2.1).toNat) (m - a,b - m,[],U,V,[]) (fun _ _=>rfl) rfl (congrArg (fun l=>[oT cInt 3 v (l),roS p,R]) (by simp)) ⟨by show m - a=U.length; omega,by show b - m=V.length; omega,h1,h2,by simp; omega,by simp⟩ ?_
 intro s t hs
 obtain ⟨hs1,hs2,hs3,hs4,hs5,hs6⟩:=hs
 have hsl:=congrArg List.length hs6
 simp only [List.length_append] at hsl
 refine Cs (Nz 3 ?_)
 refine Wd (Qc (CS.cond rfl ?_ ?_))<;>intro hc1<;>try simp only [bq] at hc1
 ·
  refine Ck (Qc (Ce (Nz 3 ?_)))
  refine Wd (Qc (CS.cond rfl ?_ ?_))<;>intro hc2<;>try simp only [bq] at hc2
  ·
   obtain ⟨U1,U2,hU,hU1⟩:∃ U1 U2:List Int,s.2.2.2.1=U1++U2∧U1.length=s.2.2.2.2.1.length:=⟨_,_,(List.take_append_drop s.2.2.2.2.1.length _).symm,by rw [List.length_take]; omega⟩
   have hUl:=congrArg List.length hU
   simp only [List.length_append] at hUl
   rw [hU]
   refine Nz 3 ?_
   refine Wk 3 Zb ?_
   refine WS.weak (L':=[oT cInt 3 v ((A++s.2.2.1)++((U1)++((U2)++((s.2.2.2.2.1)++(s.2.2.2.2.2++B))))),roS p,R]) (fun u hu=>hu.oTe (by simp)) ?_
   refine WS.callS (β:=Unit) (p:=fun _=>True) (v:=fun _=>.tuple #[]) (L':=fun _=>[oT cInt 3 v ((A++s.2.2.1)++((s.2.2.2.2.1)++((U2)++((U1)++(s.2.2.2.2.2++B))))),roS p,R]) rfl rfl Jx2 (fun u hu=>Calls.mono (Jno p R fn cap v (A++s.2.2.1) (U1) (U2) (s.2.2.2.2.1) (s.2.2.2.2.2++B) _ _ _ (by first | omega | (simp; omega)) (by first | omega | (simp; omega)) (by first | omega | (simp; omega)) (by first | omega | (simp; omega)) (by first | omega | (simp; omega)) hu) fun e u2 h=>⟨(),trivial,h.1,h.2⟩) (fun _=>rfl) ?_; rintro ⟨⟩ -
   refine Wd (Qc (Ny 2 ?_))
   refine Wk 1 Zb ?_
   exact Wd (Qb (QS.head ((s.1 - s.2.1,s.2.1,s.2.2.1++s.2.2.2.2.1,U2,U1,s.2.2.2.2.2)) rfl (congrArg (fun l=>[oT cInt 3 v (l),roS p,R]) (by simp)) ⟨⟨by simp; omega,by simp; omega,by simp; omega,by simp; omega,by simp; omega,by rw [hs6,hU]; simp⟩,by simp; omega⟩))
  obtain ⟨V1,V2,hV,hV2⟩:∃ V1 V2:List Int,s.2.2.2.2.1=V1++V2∧V2.length=s.2.2.2.1.length:=⟨_,_,(List.take_append_drop (s.2.2.2.2.1.length - s.2.2.2.1.length) _).symm,by rw [List.length_drop]; omega⟩
  have hVl:=congrArg List.length hV
  simp only [List.length_append] at hVl
  rw [hV]
  refine Nz 3 ?_
  refine Wk 2 Zb ?_
  refine Wk 1 Za ?_
  refine Wk 2 Zb ?_
  refine WS.weak (L':=[oT cInt 3 v ((A++s.2.2.1)++((s.2.2.2.1)++((V1)++((V2)++(s.2.2.2.2.2++B))))),roS p,R]) (fun u hu=>hu.oTe (by simp)) ?_
  refine WS.callS (β:=Unit) (p:=fun _=>True) (v:=fun _=>.tuple #[]) (L':=fun _=>[oT cInt 3 v ((A++s.2.2.1)++((V2)++((V1)++((s.2.2.2.1)++(s.2.2.2.2.2++B))))),roS p,R]) rfl rfl Jx2 (fun u hu=>Calls.mono (Jno p R fn cap v (A++s.2.2.1) (s.2.2.2.1) (V1) (V2) (s.2.2.2.2.2++B) _ _ _ (by first | omega | (simp; omega)) (by first | omega | (simp; omega)) (by first | omega | (simp; omega)) (by first | omega | (simp; omega)) (by first | omega | (simp; omega)) hu) fun e u2 h=>⟨(),trivial,h.1,h.2⟩) (fun _=>rfl) ?_; rintro ⟨⟩ -
  refine Wd (Qc (Ny 2 ?_))
  refine Wk 1 Zb ?_
  exact Wd (Qb (QS.head ((s.1,s.2.1 - s.1,s.2.2.1,V2,V1,s.2.2.2.1++s.2.2.2.2.2)) rfl (congrArg (fun l=>[oT cInt 3 v (l),roS p,R]) (by simp)) ⟨⟨by simp; omega,by simp; omega,by simp; omega,by simp; omega,by simp; omega,by rw [hs6,hV]; simp⟩,by simp; omega⟩))
 refine Cv (Qe (Qe (Qx (Qc (Ny 3 ?_)))))
 refine Wk 3 Zb ?_
 refine WS.weak (L':=[oT cInt 3 v ((A++s.2.2.1)++((s.2.2.2.1)++(([])++((s.2.2.2.2.1)++(s.2.2.2.2.2++B))))),roS p,R]) (fun u hu=>hu.oTe (by simp)) ?_
 refine WS.callS (β:=Unit) (p:=fun _=>True) (v:=fun _=>.tuple #[]) (L':=fun _=>[oT cInt 3 v ((A++s.2.2.1)++((s.2.2.2.2.1)++(([])++((s.2.2.2.1)++(s.2.2.2.2.2++B))))),roS p,R]) rfl rfl Jx2 (fun u hu=>Calls.mono (Jno p R fn cap v (A++s.2.2.1) (s.2.2.2.1) ([]) (s.2.2.2.2.1) (s.2.2.2.2.2++B) _ _ _ (by first | omega | (simp; omega)) (by first | omega | (simp; omega)) (by first | omega | (simp; omega)) (by first | omega | (simp; omega)) (by first | omega | (simp; omega)) hu) fun e u2 h=>⟨(),trivial,h.1,h.2⟩) (fun _=>rfl) ?_; rintro ⟨⟩ -
 exact Wd (out0 (Or.inr rfl) rfl (fun u hu=>⟨rfl,hu.oTe (by rw [show V++(U++B)=(V++U)++B by simp,hs6]; simp)⟩))
theorem Jy6 {w u:World} (p:World→Prop) (R:SA)  (fn:FuncId) (cap:List Value) (hent:Ent Tryz.prog fn) (key:Int→Int) (hcmp:∀ (x y:Int) (u:World),p u→Calls Tryz.prog fn ([.int .i64 x,.int .i64 y]++cap:List Value).toArray u (RetB u (.int .i64 (cmpK (key x) (key y))))) (v:Value) (A M B:List Int) (a b:Int) (ha:a=A.length) (hb:b=a+M.length) (hm:(A.length:Int)+M.length+B.length≤1000000) (hu:St w.heap.size w [oT cInt 3 v (A++(M++B)),roS p,R] u) :
  Calls Tryz.prog 178 #[v,.int .i64 a,.int .i64 b,.func (.func fn) #[] cap.toArray] u (fun e u'=>∃ M':List Int,(Srt key M'∧Eqv key M M')∧e = .returned (.tuple #[])∧St w.heap.size w [oT cInt 3 v (A++(M'++B)),roS p,R] u'):=by
 refine Jb0 hu Tryz.func178 rfl rfl (Nat.le_of_ble_eq_true rfl) ?_
 refine Nz 1 ?_
 refine Wk 1 Za ?_
 refine Wd (Qc (Ce ?_))
 refine CS.loopM (σ:=Int × List Int) [9,12,13,14,15,16,17,18,19,20,21,22,23,24,25,26,27,28,29,30,31,32,33,34,35,36,37,38,39,40,41,42,43,44,45,46,47,48,49,50,51,52] (fun s=>[(8,.int .i64 s.1)]) (fun s=>[oT cInt 3 v (A++(s.2++(M.drop (s.1 - a).toNat++B))),roS p,R]) (fun s=>a+1≤s.1∧(s.1≤b∨b≤a)∧Srt key s.2∧Eqv key (M.take (s.1 - a).toNat) s.2) (fun s=>(b - s.1).toNat) (a+1,M.take (a+1 - a).toNat) (fun _ _=>rfl) rfl (congrArg (fun l=>[oT cInt 3 v (A++l),roS p,R]) (by rw [← List.append_assoc (M.take _),List.take_append_drop])) ⟨Int.le_refl _,by show a+1≤b∨b≤a; omega,Srt.small (by rw [List.length_take]; omega),Eqv.refl _⟩ ?_
 intro o t hs
 obtain ⟨ho1,ho2,ho3,ho4⟩:=hs
 refine Cs (Nz 3 ?_)
 refine Wd (Qc (CS.cond rfl ?_ ?_))<;>intro hc1<;>try simp only [bq] at hc1
 ·
  refine Ck (Qc (Cs (Ce (Nz 2 ?_))))
  refine Wd (Qc (Ce ?_))
  refine CS.loopM (σ:=Int × List Int × List Int) [18,19,20,21,22,23,24,25,26,27,28,29,30,31,32,33,34,35,36,37,38,39,40,41,42,43,44,45,46,47,48,49,50,51,52] (fun s=>[(9,.int .i64 s.1)]) (fun s=>[oT cInt 3 v (A++(s.2.1++(nth M (o.1 - a))::(s.2.2++(M.drop (o.1+1 - a).toNat++B)))),roS p,R]) (fun s=>a≤s.1∧s.1≤o.1∧s.2.1++s.2.2=o.2∧(s.2.1.length:Int)=s.1 - a∧∀ y∈s.2.2,key (nth M (o.1 - a)) < key y) (fun s=>s.1.toNat) (o.1,o.2,[]) (fun _ _=>rfl) rfl (congrArg (fun l=>[oT cInt 3 v (A++(o.2++l)),roS p,R]) (by rw [show M.drop (o.1 - a).toNat=(nth M (o.1 - a))::M.drop (o.1+1 - a).toNat by rw [Jat (by omega) (by omega),show o.1 - a+1=o.1+1 - a by omega]]; rfl)) ⟨by show a≤o.1; omega,Int.le_refl _,by simp,by show (o.2.length:Int)=o.1 - a; rw [ho4.len,List.length_take]; omega,fun y hy=>by cases hy⟩ ?_
  intro q t hs
  obtain ⟨hq1,hq2,hq3,hq4,hq5⟩:=hs
  have hql:=congrArg List.length hq3
  rw [List.length_append,ho4.len,List.length_take] at hql
  have hlen:(((A++(q.2.1++(nth M (o.1 - a))::(q.2.2++(M.drop (o.1+1 - a).toNat++B)))).length:Nat):Int)=A.length+M.length+B.length:=by simp; omega
  have e1:nth (A++(q.2.1++(nth M (o.1 - a))::(q.2.2++(M.drop (o.1+1 - a).toNat++B)))) q.1=(nth M (o.1 - a)):=Jpy (by omega)
  have e2:a < q.1→nth (A++(q.2.1++(nth M (o.1 - a))::(q.2.2++(M.drop (o.1+1 - a).toNat++B)))) (q.1 - 1)=nth q.2.1 ((q.2.1.length:Int) - 1):=fun h=>by rw [Ji3 (by omega) (by omega)]; congr 1; omega
  refine Cs (Cs (Dr Jah 4 ?_))
  refine Dt 0 rfl rfl (fun hg=>Fm) ?_
  refine Dt 0 rfl rfl (fun hg=>Fm) ?_
  refine Dt 0 rfl rfl (fun hg=>Fm) ?_
  refine Dt 0 rfl rfl (fun hg=>Jaf (j:=0) sl42 (eg_ hg rfl) (eg_ hg rfl) rfl rfl (by (try simp only [bq] at hg); omega) (by (try simp only [bq] at hg); omega)) ?_
  refine Dt 0 rfl rfl (fun hg=>Jbt (j:=0) rfl (eg_ hg rfl) rfl ⟨(by (try simp only [bq] at hg); omega),(by (try simp only [bq] at hg); omega)⟩ rfl tk3) ?_
  refine Dt 0 rfl rfl (fun hg=>Fm) ?_
  refine Dt 0 rfl rfl (fun hg=>Fm) ?_
  refine Dt 0 rfl rfl (fun hg=>Zb) ?_
  refine Dt 0 rfl rfl (fun hg=>Jaf (j:=0) sl42 (eg_ hg rfl) (eg_ hg rfl) rfl rfl (by (try simp only [bq] at hg); omega) (by (try simp only [bq] at hg); omega)) ?_
  refine Dt 0 rfl rfl (fun hg=>Jbt (j:=0) rfl (eg_ hg rfl) rfl ⟨(by (try simp only [bq] at hg); omega),(by (try simp only [bq] at hg); omega)⟩ rfl tk3) ?_
  refine Dt 0 rfl rfl (fun hg=>Cb (eg_ hg rfl) (ec_ (eg_ hg rfl) (ec_ (eg_ hg rfl) en_)) hent (fun u hu=>hcmp _ _ u (hu.ro (j:=1) rfl))) ?_
  refine Dt 0 rfl rfl (fun hg=>Fl) ?_
  refine Dk 0 Pa ?_
  refine Dd (Qc (CS.cond rfl ?_ ?_))<;>intro hc2<;>try simp only [bq] at hc2
  ·
   obtain ⟨hlt,hcc⟩:a < q.1∧cmpK (key (nth (A++(q.2.1++(nth M (o.1 - a))::(q.2.2++(M.drop (o.1+1 - a).toNat++B)))) q.1)) (key (nth (A++(q.2.1++(nth M (o.1 - a))::(q.2.2++(M.drop (o.1+1 - a).toNat++B)))) (q.1 - 1))) < 0:=by first | exact hc2 | simpa using hc2
   rw [Jd1,e1,e2 hlt] at hcc
   have hne:q.2.1≠[]:=fun h=>by rw [h] at hq4; simp at hq4; omega
   have hPs:=Jgk hne
   refine Ck (Qc (Cs (Ce ?_)))
   refine CS.drawnTill 15 (k:=18) Jah rfl rfl ?_
   refine Tr 18 [0,1,5,6] ?_
   refine Tk 18 7 [] rfl Zb ?_
   refine Tk 18 8 [] rfl (Jaf (j:=0) sl42 rfl rfl rfl rfl (by first | omega | (rw [List.length_set]; omega)) (by first | omega | (rw [List.length_set]; omega))) ?_
   refine Tk 18 9 [10,11] rfl (Jbt (j:=0) rfl rfl rfl ⟨(by first | omega | (rw [List.length_set]; omega)),(by first | omega | (rw [List.length_set]; omega))⟩ rfl tk3) ?_
   refine Tk 18 12 [] rfl (Jaf (j:=0) sl42 rfl rfl rfl rfl (by first | omega | (rw [List.length_set]; omega)) (by first | omega | (rw [List.length_set]; omega))) ?_
   refine Tk 18 13 [] rfl (Jbt (j:=0) rfl rfl rfl ⟨(by first | omega | (rw [List.length_set]; omega)),(by first | omega | (rw [List.length_set]; omega))⟩ rfl tk3) ?_
   refine Tk 18 14 [] rfl (Jaf (j:=0) sl42 rfl rfl rfl rfl (by first | omega | (rw [List.length_set]; omega)) (by first | omega | (rw [List.length_set]; omega))) ?_
   refine AT.takeP 2 rfl (by kernel_rfl) rfl (by kernel_rfl) (by kernel_rfl) rfl rfl (Jaw rfl) rfl rfl ?_
   refine AT.takeP 3 rfl (by kernel_rfl) rfl (by kernel_rfl) (by kernel_rfl) rfl rfl (Jaw rfl) rfl rfl ?_
   refine AT.takeP 4 rfl (by kernel_rfl) rfl (by kernel_rfl) (by kernel_rfl) rfl rfl (Jhd rfl rfl (by omega)) rfl rfl ?_
   refine To 15 rfl ?_
   refine WS.storeT1 (C:=cInt) (nth (A++(q.2.1++(nth M (o.1 - a))::(q.2.2++(M.drop (o.1+1 - a).toNat++B)))) (q.1 - 1)) (j:=0) rfl rfl rfl ⟨(by first | omega | (rw [List.length_set]; omega)),(by first | omega | (rw [List.length_set]; omega))⟩ rfl rfl tk3 rfl rfl ?_
   refine Wd (Qt ?_)
   refine To 16 rfl ?_
   refine Wk 0 (Jaf (j:=0) sl42 rfl rfl rfl rfl (by first | omega | (rw [List.length_set]; omega)) (by first | omega | (rw [List.length_set]; omega))) ?_
   refine Wd (Qt ?_)
   refine To 17 rfl ?_
   refine WS.storeT1 (C:=cInt) (nth (A++(q.2.1++(nth M (o.1 - a))::(q.2.2++(M.drop (o.1+1 - a).toNat++B)))) (q.1)) (j:=0) rfl rfl rfl ⟨(by first | omega | (rw [List.length_set]; omega)),(by first | omega | (rw [List.length_set]; omega))⟩ rfl rfl tk3 rfl rfl ?_
   refine Wd (Qt ?_)
   refine Te ?_
   refine Qb (Qc (Ny 1 ?_))
   refine Wk 1 Zb ?_
   exact Wd (QS.head ((q.1 - 1,q.2.1.dropLast,nth q.2.1 ((q.2.1.length:Int) - 1)::q.2.2)) rfl (congrArg (fun l=>[oT cInt 3 v (l),roS p,R]) ((Jsj hne (by omega) rfl).symm)) ⟨⟨by show a≤q.1 - 1; omega,by show q.1 - 1≤o.1; omega,by show q.2.1.dropLast++(nth q.2.1 ((q.2.1.length:Int) - 1)::q.2.2)=o.2; rw [← hq3,List.append_cons, ← hPs],by show (q.2.1.dropLast.length:Int)=q.1 - 1 - a; rw [List.length_dropLast]; omega,fun y hy=>by rcases List.mem_cons.1 hy with rfl | hy; exact hcc; exact hq5 y hy⟩,by show (q.1 - 1).toNat < q.1.toNat; omega⟩)
  have hst:q.2.1=[]∨key (nth q.2.1 ((q.2.1.length:Int) - 1))≤key (nth M (o.1 - a)):=by
   by_cases hlt:a < q.1
   ·
    right
    have hcc:¬ cmpK (key (nth (A++(q.2.1++(nth M (o.1 - a))::(q.2.2++(M.drop (o.1+1 - a).toNat++B)))) q.1)) (key (nth (A++(q.2.1++(nth M (o.1 - a))::(q.2.2++(M.drop (o.1+1 - a).toNat++B)))) (q.1 - 1))) < 0:=by first | (simp [hlt] at hc2; omega) | grind
    rw [Jd1,e1,e2 hlt] at hcc
    omega
   left
   exact List.eq_nil_of_length_eq_zero (by omega)
  have hfin:=Jm4 (key:=key) (x:=(nth M (o.1 - a))) (M:=M.take (o.1 - a).toNat) (by rw [hq3]; exact ho3) (Jro (Srt.left (b:=q.2.2) (by rw [hq3]; exact ho3)) hst) hq5 (by rw [hq3]; exact ho4)
  rw [← Jby (xs:=M) (by omega) (by omega),show o.1 - a+1=o.1+1 - a by omega] at hfin
  refine Cv (Qe (Qe (Qx (Qb (Qc (Ny 1 ?_))))))
  refine Wk 1 Za ?_
  exact Wd (QS.head ((o.1+1,q.2.1++(nth M (o.1 - a))::q.2.2)) rfl (congrArg (fun l=>[oT cInt 3 v (l),roS p,R]) (by simp)) ⟨⟨by show a+1≤o.1+1; omega,by show o.1+1≤b∨b≤a; omega,hfin.1,hfin.2⟩,by show (b - (o.1+1)).toNat < (b - o.1).toNat; omega⟩)
 have hdr:M.drop (o.1 - a).toNat=[]:=List.drop_of_length_le (by omega)
 have htk:M.take (o.1 - a).toNat=M:=List.take_of_length_le (by omega)
 rw [htk] at ho4
 rw [hdr]
 exact Cv (Qe (Qe (Qx (out0 (Or.inr rfl) rfl (fun u hu=>⟨o.2,⟨ho3,ho4⟩,rfl,hu⟩)))))
theorem J6p {w u:World} (p:World→Prop) (R:SA)  (fn:FuncId) (cap:List Value) (hent:Ent Tryz.prog fn) (key:Int→Int) (hcmp:∀ (x y:Int) (u:World),p u→Calls Tryz.prog fn ([.int .i64 x,.int .i64 y]++cap:List Value).toArray u (RetB u (.int .i64 (cmpK (key x) (key y))))) (v:Value) (N:Nat) (ih:∀ (A X Y B:List Int) (a m b:Int) (u:World) (ha:a=A.length) (hm1:m=a+X.length) (hb:b=m+Y.length) (h1:0 < X.length) (h2:0 < Y.length) (hN:X.length+Y.length≤N) (hX:Srt key X) (hY:Srt key Y) (hm:(A.length:Int)+X.length+Y.length+B.length≤1000000) (hu:St w.heap.size w [oT cInt 3 v (A++(X++(Y++B))),roS p,R] u),Calls Tryz.prog 179 #[v,.int .i64 a,.int .i64 m,.int .i64 b,.func (.func fn) #[] cap.toArray] u (fun e u'=>∃ M':List Int,(Srt key M'∧Eqv key (X++Y) M')∧e = .returned (.tuple #[])∧St w.heap.size w [oT cInt 3 v (A++(M'++B)),roS p,R] u')) (A X Y B:List Int) (a m b:Int) (ha:a=A.length) (hm1:m=a+X.length) (hb:b=m+Y.length) (h1:0 < X.length) (h2:0 < Y.length) (hN:X.length+Y.length≤N+1) (hX:Srt key X) (hY:Srt key Y) (hm:(A.length:Int)+X.length+Y.length+B.length≤1000000) (hu:St w.heap.size w [oT cInt 3 v (A++(X++(Y++B))),roS p,R] u) :
  Calls Tryz.prog 179 #[v,.int .i64 a,.int .i64 m,.int .i64 b,.func (.func fn) #[] cap.toArray] u (fun e u'=>∃ M':List Int,(Srt key M'∧Eqv key (X++Y) M')∧e = .returned (.tuple #[])∧St w.heap.size w [oT cInt 3 v (A++(M'++B)),roS p,R] u'):=by
 have hXs:=Jss (A:=A) (Z:=Y++B) hX ha hm1
 have hYs:∀ i j:Int,m≤i→i≤j→j < b→key (nth (A++(X++(Y++B))) i)≤key (nth (A++(X++(Y++B))) j):=by
  have h:=Jss (A:=A++X) (Z:=B) hY (a:=m) (m:=b) (by simp; omega) (by omega)
  simpa only [List.append_assoc] using h
 obtain ⟨Q1,hQ1⟩:∃ Q:Int→Prop,∀ k,Q k ↔ key (nth (A++(X++(Y++B))) a)≤key (nth (A++(X++(Y++B))) k):=⟨_,fun _=>Iff.rfl⟩
 have hMQ1:Mono Q1 m b:=fun k l k0 k1 k2 q=>(hQ1 l).2 (Int.le_trans ((hQ1 k).1 q) (hYs k l k0 k1 k2))
 obtain ⟨Q2,hQ2⟩:∃ Q:Int→Prop,∀ k,Q k ↔ key (nth (A++(X++(Y++B))) m) < key (nth (A++(X++(Y++B))) k):=⟨_,fun _=>Iff.rfl⟩
 have hMQ2:Mono Q2 a m:=fun k l k0 k1 k2 q=>(hQ2 l).2 (Int.lt_of_lt_of_le ((hQ2 k).1 q) (hXs k l k0 k1 k2))
 have hlen:(((A++(X++(Y++B))).length:Nat):Int)=A.length+X.length+Y.length+B.length:=by simp; omega
 refine Jb0 hu Tryz.func179 rfl rfl (Nat.le_of_ble_eq_true rfl) ?_
 refine Cs (Nz 2 ?_)
 refine Wk 1 Zb ?_
 refine Wd (Qc (CS.cond rfl ?_ ?_))<;>intro hc1<;>try simp only [bq] at hc1
 ·
  obtain ⟨x,hX1⟩:=List.length_eq_one_iff.1 (show X.length=1 by omega)
  refine Nz 2 ?_
  refine Wd (Qc (Nz 2 ?_))
  refine Wd (Qc (Cs (Ce ?_)))
  refine CS.loopM (σ:=Int × Int) [12,31,32,33,34,35,36,37,38,39,40,41,42,43,44,45,46,47,48,49,50,51,52,53] (fun s=>[(10,.int .i64 s.1),(11,.int .i64 s.2)]) (fun _=>_) (fun s=>m≤s.1∧s.1≤s.2∧s.2≤b∧(∀ k:Int,m≤k→k < s.1→¬ Q1 k)∧∀ k:Int,s.2≤k→k < b→Q1 k) (fun s=>(s.2 - s.1).toNat) (m,b) (fun _ _=>rfl) rfl rfl ⟨Int.le_refl _,by show m≤b; omega,Int.le_refl _,fun k k0 k1=>absurd (show k < m from k1) (by omega),fun k k0 k1=>absurd (show b≤k from k0) (by omega)⟩ ?_
  intro f t hs
  obtain ⟨hf1,hf2,hf3,hf4,hf5⟩:=hs
  refine Cs (Nz 3 ?_)
  refine Wd (Qc (CS.cond rfl ?_ ?_))<;>intro hc2<;>try simp only [bq] at hc2
  ·
   refine Ck (Qc (Ce (Nz 2 ?_)))
   refine Wk 0 Za ?_
   refine Wk 0 (Jf2 Tryz.underlying3 Tryz.underlying274 rfl ⟨by omega,by omega⟩) ?_
   refine Wk 0 (Jej rfl rfl) ?_
   refine Wk 1 (Jdw Tryz.underlying274 Tryz.underlying3 rfl ⟨by omega,by omega⟩) ?_
   refine Wd (Qc (Cs (Dr Jah 3 ?_)))
   refine Dk 0 (Jaf (j:=0) sl42 rfl rfl rfl rfl (by first | omega | (rw [List.length_set]; omega)) (by first | omega | (rw [List.length_set]; omega))) ?_
   refine Dk 2 (Jbt (j:=0) rfl rfl rfl ⟨(by first | omega | (rw [List.length_set]; omega)),(by first | omega | (rw [List.length_set]; omega))⟩ rfl tk3) ?_
   refine Dk 0 (Jaf (j:=0) sl42 rfl rfl rfl rfl (by first | omega | (rw [List.length_set]; omega)) (by first | omega | (rw [List.length_set]; omega))) ?_
   refine Dk 0 (Jbt (j:=0) rfl rfl rfl ⟨(by first | omega | (rw [List.length_set]; omega)),(by first | omega | (rw [List.length_set]; omega))⟩ rfl tk3) ?_
   refine Dk 1 (Cb rfl rfl hent (fun u hu=>hcmp _ _ u (hu.ro (j:=1) rfl))) ?_
   refine Dd (Qc (CS.cond rfl ?_ ?_))<;>intro hc3<;>try simp only [bq] at hc3
   ·
    have hq:¬ Q1 ((f.1+f.2) / 2):=by rw [hQ1]; have h9:=Jd1.1 hc3; omega
    refine Ny 1 ?_
    refine Wk 1 Za ?_
    exact Wd (Qb (QS.head ((((f.1+f.2) / 2)+1,f.2)) rfl rfl ⟨⟨by show m≤((f.1+f.2) / 2)+1; omega,by show ((f.1+f.2) / 2)+1≤f.2; omega,hf3,Jiy hMQ1 (by omega) hq,hf5⟩,by show (f.2 - (((f.1+f.2) / 2)+1)).toNat < (f.2 - f.1).toNat; omega⟩))
   have hq:Q1 ((f.1+f.2) / 2):=by rw [hQ1]; exact Jg9.1 (by simpa using hc3)
   refine Ny 2 ?_
   exact Wd (Qb (QS.head ((f.1,((f.1+f.2) / 2))) rfl rfl ⟨⟨hf1,by show f.1≤((f.1+f.2) / 2); omega,by show ((f.1+f.2) / 2)≤b; omega,hf4,Jip hMQ1 (by omega) hq⟩,by show (((f.1+f.2) / 2) - f.1).toNat < (f.2 - f.1).toNat; omega⟩))
  refine Cv (Qe (Qe (Qx (Qc (Cs (Nz 2 ?_))))))
  refine Wd (Qc (Ce ?_))
  refine CS.loopM (σ:=Int) [55,56,57,58,59,60,61,62,63,64,65,66,67,68,69,70,71,72,73,74,75,76] (fun s=>[(13,.int .i64 s)]) (fun s=>[oT cInt 3 v (lk A x Y B (s - a)),roS p,R]) (fun s=>a≤s∧s≤f.1 - 1) (fun s=>(f.1 - 1 - s).toNat) a (fun _ _=>rfl) rfl (congrArg (fun l=>[oT cInt 3 v (l),roS p,R]) (by rw [Int.sub_self,hX1]; exact lk_0)) ⟨Int.le_refl _,by omega⟩ ?_
  intro k t hs
  obtain ⟨hk1,hk2⟩:=hs
  have hlk:(((lk A x Y B (k - a)).length:Nat):Int)=A.length+Y.length+B.length+1:=by rw [Jr3]; omega
  refine Cs (Nz 2 ?_)
  refine Wk 1 Zb ?_
  refine Wd (Qc (CS.cond rfl ?_ ?_))<;>intro hc4<;>try simp only [bq] at hc4
  ·
   refine Ck (Qc (Cs (Ce ?_)))
   refine CS.drawnTill 15 (k:=18) Jah rfl rfl ?_
   refine Tr 18 [0,1,5,6] ?_
   refine Tk 18 7 [] rfl Za ?_
   refine Tk 18 8 [] rfl (Jaf (j:=0) sl42 rfl rfl rfl rfl (by first | omega | (rw [List.length_set]; omega)) (by first | omega | (rw [List.length_set]; omega))) ?_
   refine Tk 18 9 [10,11] rfl (Jbt (j:=0) rfl rfl rfl ⟨(by first | omega | (rw [List.length_set]; omega)),(by first | omega | (rw [List.length_set]; omega))⟩ rfl tk3) ?_
   refine Tk 18 12 [] rfl (Jaf (j:=0) sl42 rfl rfl rfl rfl (by first | omega | (rw [List.length_set]; omega)) (by first | omega | (rw [List.length_set]; omega))) ?_
   refine Tk 18 13 [] rfl (Jbt (j:=0) rfl rfl rfl ⟨(by first | omega | (rw [List.length_set]; omega)),(by first | omega | (rw [List.length_set]; omega))⟩ rfl tk3) ?_
   refine Tk 18 14 [] rfl (Jaf (j:=0) sl42 rfl rfl rfl rfl (by first | omega | (rw [List.length_set]; omega)) (by first | omega | (rw [List.length_set]; omega))) ?_
   refine AT.takeP 2 rfl (by kernel_rfl) rfl (by kernel_rfl) (by kernel_rfl) rfl rfl (Jaw rfl) rfl rfl ?_
   refine AT.takeP 3 rfl (by kernel_rfl) rfl (by kernel_rfl) (by kernel_rfl) rfl rfl (Jaw rfl) rfl rfl ?_
   refine AT.takeP 4 rfl (by kernel_rfl) rfl (by kernel_rfl) (by kernel_rfl) rfl rfl (Jj8 rfl rfl (by omega)) rfl rfl ?_
   refine To 15 rfl ?_
   refine WS.storeT1 (C:=cInt) (nth (lk A x Y B (k - a)) (k+1)) (j:=0) rfl rfl rfl ⟨(by first | omega | (rw [List.length_set]; omega)),(by first | omega | (rw [List.length_set]; omega))⟩ rfl rfl tk3 rfl rfl ?_
   refine Wd (Qt ?_)
   refine To 16 rfl ?_
   refine Wk 0 (Jaf (j:=0) sl42 rfl rfl rfl rfl (by first | omega | (rw [List.length_set]; omega)) (by first | omega | (rw [List.length_set]; omega))) ?_
   refine Wd (Qt ?_)
   refine To 17 rfl ?_
   refine WS.storeT1 (C:=cInt) (nth (lk A x Y B (k - a)) (k)) (j:=0) rfl rfl rfl ⟨(by first | omega | (rw [List.length_set]; omega)),(by first | omega | (rw [List.length_set]; omega))⟩ rfl rfl tk3 rfl rfl ?_
   refine Wd (Qt ?_)
   refine Te ?_
   refine Qb (Qc (Ny 1 ?_))
   refine Wk 1 Za ?_
   exact Wd (QS.head (k+1) rfl (congrArg (fun l=>[oT cInt 3 v (l),roS p,R]) (J3x hk1 (by omega) ha)) ⟨⟨by omega,by omega⟩,by omega⟩)
  have hka:k - a=f.1 - m:=by omega
  have hres:=Jop (B:=B) hX1 hY ha (by omega) hb ⟨hf1,by omega⟩ (fun k k0 k1 q=>hf4 k k0 k1 ((hQ1 k).2 q)) (fun k k0 k1=>(hQ1 k).1 (hf5 k (by omega) k1))
  rw [← hka] at hres
  exact Cv (Qe (Qe (Qx (Qc (Cr (Qr (out0 (Or.inl rfl) rfl (fun u hu=>⟨_,hres,rfl,hu.oTe Jm2⟩))))))))
 refine Ck (Qc (Cs (Nz 2 ?_)))
 refine Wk 1 Zb ?_
 refine Wd (Qc (CS.cond rfl ?_ ?_))<;>intro hc5<;>try simp only [bq] at hc5
 ·
  obtain ⟨y,hY1⟩:=List.length_eq_one_iff.1 (show Y.length=1 by omega)
  refine Nz 2 ?_
  refine Wd (Qc (Nz 2 ?_))
  refine Wd (Qc (Cs (Ce ?_)))
  refine CS.loopM (σ:=Int × Int) [16,83,84,85,86,87,88,89,90,91,92,93,94,95,96,97,98,99,100,101,102,103,104,105,106] (fun s=>[(14,.int .i64 s.1),(15,.int .i64 s.2)]) (fun _=>_) (fun s=>a≤s.1∧s.1≤s.2∧s.2≤m∧(∀ k:Int,a≤k→k < s.1→¬ Q2 k)∧∀ k:Int,s.2≤k→k < m→Q2 k) (fun s=>(s.2 - s.1).toNat) (a,m) (fun _ _=>rfl) rfl rfl ⟨Int.le_refl _,by show a≤m; omega,Int.le_refl _,fun k k0 k1=>absurd (show k < a from k1) (by omega),fun k k0 k1=>absurd (show m≤k from k0) (by omega)⟩ ?_
  intro g t hs
  obtain ⟨hg1,hg2,hg3,hg4,hg5⟩:=hs
  refine Cs (Nz 3 ?_)
  refine Wd (Qc (CS.cond rfl ?_ ?_))<;>intro hc6<;>try simp only [bq] at hc6
  ·
   refine Ck (Qc (Ce (Nz 2 ?_)))
   refine Wk 0 Za ?_
   refine Wk 0 (Jf2 Tryz.underlying3 Tryz.underlying274 rfl ⟨by omega,by omega⟩) ?_
   refine Wk 0 (Jej rfl rfl) ?_
   refine Wk 1 (Jdw Tryz.underlying274 Tryz.underlying3 rfl ⟨by omega,by omega⟩) ?_
   refine Wd (Qc (Cs (Dr Jah 3 ?_)))
   refine Dk 0 (Jaf (j:=0) sl42 rfl rfl rfl rfl (by first | omega | (rw [List.length_set]; omega)) (by first | omega | (rw [List.length_set]; omega))) ?_
   refine Dk 2 (Jbt (j:=0) rfl rfl rfl ⟨(by first | omega | (rw [List.length_set]; omega)),(by first | omega | (rw [List.length_set]; omega))⟩ rfl tk3) ?_
   refine Dk 0 (Jaf (j:=0) sl42 rfl rfl rfl rfl (by first | omega | (rw [List.length_set]; omega)) (by first | omega | (rw [List.length_set]; omega))) ?_
   refine Dk 0 (Jbt (j:=0) rfl rfl rfl ⟨(by first | omega | (rw [List.length_set]; omega)),(by first | omega | (rw [List.length_set]; omega))⟩ rfl tk3) ?_
   refine Dk 2 (Cb rfl rfl hent (fun u hu=>hcmp _ _ u (hu.ro (j:=1) rfl))) ?_
   refine Dd (Qc (CS.cond rfl ?_ ?_))<;>intro hc7<;>try simp only [bq] at hc7
   ·
    have hq:¬ Q2 ((g.1+g.2) / 2):=by rw [hQ2]; have h9:=Jg9.1 (by simpa using hc7); omega
    refine Ny 1 ?_
    refine Wk 1 Za ?_
    exact Wd (Qb (QS.head ((((g.1+g.2) / 2)+1,g.2)) rfl rfl ⟨⟨by show a≤((g.1+g.2) / 2)+1; omega,by show ((g.1+g.2) / 2)+1≤g.2; omega,hg3,Jiy hMQ2 (by omega) hq,hg5⟩,by show (g.2 - (((g.1+g.2) / 2)+1)).toNat < (g.2 - g.1).toNat; omega⟩))
   have hq:Q2 ((g.1+g.2) / 2):=by rw [hQ2]; exact Jd1.1 (by simpa using hc7)
   refine Ny 2 ?_
   exact Wd (Qb (QS.head ((g.1,((g.1+g.2) / 2))) rfl rfl ⟨⟨hg1,by show g.1≤((g.1+g.2) / 2); omega,by show ((g.1+g.2) / 2)≤m; omega,hg4,Jip hMQ2 (by omega) hq⟩,by show (((g.1+g.2) / 2) - g.1).toNat < (g.2 - g.1).toNat; omega⟩))
  refine Cv (Qe (Qe (Qx (Qc (Cs (Nz 2 ?_))))))
  refine Wd (Qc (Ce ?_))
  refine CS.loopM (σ:=Int) [108,109,110,111,112,113,114,115,116,117,118,119,120,121,122,123,124,125,126,127,128] (fun s=>[(17,.int .i64 s)]) (fun s=>[oT cInt 3 v (lk A y X B (s - a)),roS p,R]) (fun s=>g.1≤s∧s≤m) (fun s=>(s - g.1).toNat) m (fun _ _=>rfl) rfl (congrArg (fun l=>[oT cInt 3 v (l),roS p,R]) (by rw [J3s (by omega),hY1]; rfl)) ⟨by omega,Int.le_refl _⟩ ?_
  intro k t hs
  obtain ⟨hk1,hk2⟩:=hs
  have hlk:(((lk A y X B (k - a)).length:Nat):Int)=A.length+X.length+B.length+1:=by rw [Jr3]; omega
  refine Cs (Nz 3 ?_)
  refine Wd (Qc (CS.cond rfl ?_ ?_))<;>intro hc8<;>try simp only [bq] at hc8
  ·
   refine Ck (Qc (Cs (Ce ?_)))
   refine CS.drawnTill 15 (k:=18) Jah rfl rfl ?_
   refine Tr 18 [0,1,5,6] ?_
   refine Tk 18 7 [] rfl Zb ?_
   refine Tk 18 8 [] rfl (Jaf (j:=0) sl42 rfl rfl rfl rfl (by first | omega | (rw [List.length_set]; omega)) (by first | omega | (rw [List.length_set]; omega))) ?_
   refine Tk 18 9 [10,11] rfl (Jbt (j:=0) rfl rfl rfl ⟨(by first | omega | (rw [List.length_set]; omega)),(by first | omega | (rw [List.length_set]; omega))⟩ rfl tk3) ?_
   refine Tk 18 12 [] rfl (Jaf (j:=0) sl42 rfl rfl rfl rfl (by first | omega | (rw [List.length_set]; omega)) (by first | omega | (rw [List.length_set]; omega))) ?_
   refine Tk 18 13 [] rfl (Jbt (j:=0) rfl rfl rfl ⟨(by first | omega | (rw [List.length_set]; omega)),(by first | omega | (rw [List.length_set]; omega))⟩ rfl tk3) ?_
   refine Tk 18 14 [] rfl (Jaf (j:=0) sl42 rfl rfl rfl rfl (by first | omega | (rw [List.length_set]; omega)) (by first | omega | (rw [List.length_set]; omega))) ?_
   refine AT.takeP 2 rfl (by kernel_rfl) rfl (by kernel_rfl) (by kernel_rfl) rfl rfl (Jaw rfl) rfl rfl ?_
   refine AT.takeP 3 rfl (by kernel_rfl) rfl (by kernel_rfl) (by kernel_rfl) rfl rfl (Jaw rfl) rfl rfl ?_
   refine AT.takeP 4 rfl (by kernel_rfl) rfl (by kernel_rfl) (by kernel_rfl) rfl rfl (Jhd rfl rfl (by omega)) rfl rfl ?_
   refine To 15 rfl ?_
   refine WS.storeT1 (C:=cInt) (nth (lk A y X B (k - a)) (k - 1)) (j:=0) rfl rfl rfl ⟨(by first | omega | (rw [List.length_set]; omega)),(by first | omega | (rw [List.length_set]; omega))⟩ rfl rfl tk3 rfl rfl ?_
   refine Wd (Qt ?_)
   refine To 16 rfl ?_
   refine Wk 0 (Jaf (j:=0) sl42 rfl rfl rfl rfl (by first | omega | (rw [List.length_set]; omega)) (by first | omega | (rw [List.length_set]; omega))) ?_
   refine Wd (Qt ?_)
   refine To 17 rfl ?_
   refine WS.storeT1 (C:=cInt) (nth (lk A y X B (k - a)) (k)) (j:=0) rfl rfl rfl ⟨(by first | omega | (rw [List.length_set]; omega)),(by first | omega | (rw [List.length_set]; omega))⟩ rfl rfl tk3 rfl rfl ?_
   refine Wd (Qt ?_)
   refine Te ?_
   refine Qb (Qc (Ny 1 ?_))
   refine Wk 1 Zb ?_
   exact Wd (QS.head (k - 1) rfl (congrArg (fun l=>[oT cInt 3 v (l),roS p,R]) (Jsh (by omega) (by omega) ha)) ⟨⟨by omega,by omega⟩,by omega⟩)
  have hka:k - a=g.1 - a:=by omega
  have hres:=Jl5 (B:=B) hX hY1 ha hm1 ⟨hg1,by omega⟩ (fun k k0 k1 q=>hg4 k k0 k1 ((hQ2 k).2 q)) (fun k k0 k1=>(hQ2 k).1 (hg5 k (by omega) k1))
  rw [← hka] at hres
  exact Cv (Qe (Qe (Qx (Qc (Cr (Qr (out0 (Or.inl rfl) rfl (fun u hu=>⟨_,hres,rfl,hu.oTe Jm2⟩))))))))
 refine Ck (Qc (Nz 2 ?_))
 refine Wk 0 Za ?_
 refine Wk 0 (Jf2 Tryz.underlying3 Tryz.underlying274 rfl ⟨by omega,by omega⟩) ?_
 refine Wk 0 (Jej rfl rfl) ?_
 refine Wk 1 (Jdw Tryz.underlying274 Tryz.underlying3 rfl ⟨by omega,by omega⟩) ?_
 refine Wd (Qc (Nz 2 ?_))
 refine Wk 1 Za ?_
 refine Wd (Qc (Nz 2 ?_))
 refine Wd (Qc ?_)
 refine CS.cut (σ:=Int × Int) [138,139,140,141,142,143,144,145,146] (fun s=>[(20,.int .i64 s.1),(21,.int .i64 s.2)]) (fun s=>[oT cInt 3 v (A++(X++(Y++B))),roS p,R]) (fun s=>(((a+b) / 2) < m∧s.1=((a+b) / 2)+m - b∧s.2=((a+b) / 2))∨(m≤((a+b) / 2)∧s.1=a∧s.2=m)) (fun _ _=>rfl) ?_ ?_
 ·
  refine Nz 3 ?_
  refine Wd (Qc (CS.cond rfl ?_ ?_))<;>intro hc9<;>try simp only [bq] at hc9
  ·
   refine Nz 2 ?_
   refine Wk 1 Zb ?_
   refine Wd (Qc (Ny 2 ?_))
   exact Wd (QS.head ((((a+b) / 2)+m - b,((a+b) / 2))) rfl rfl (.inl ⟨by omega,rfl,rfl⟩))
  refine Nz 2 ?_
  refine Wd (Qc (Ny 2 ?_))
  exact Wd (QS.head ((a,m)) rfl rfl (.inr ⟨by omega,rfl,rfl⟩))
 intro c t hs
 obtain ⟨Q3,hQ3⟩:∃ Q:Int→Prop,∀ k,Q k ↔ key (nth (A++(X++(Y++B))) (((a+b) / 2)+m - 1 - k)) < key (nth (A++(X++(Y++B))) k):=⟨_,fun _=>Iff.rfl⟩
 have hMQ3:Mono Q3 c.1 c.2:=fun k l k0 k1 k2 q=>(hQ3 l).2 (by
  have e1:=(hQ3 k).1 q
  have e2:=hYs (((a+b) / 2)+m - 1 - l) (((a+b) / 2)+m - 1 - k) (by omega) (by omega) (by omega)
  have e3:=hXs k l (by omega) (by omega) (by omega)
  omega)
 refine Nz 1 ?_
 refine Wk 1 Zb ?_
 refine Wd (Qc (Cs (Ce ?_)))
 refine CS.loopM (σ:=Int × Int) [23,149,150,151,152,153,154,155,156,157,158,159,160,161,162,163,164,165,166,167,168,169,170,171,172,173,174] (fun s=>[(20,.int .i64 s.1),(21,.int .i64 s.2)]) (fun _=>_) (fun s=>c.1≤s.1∧s.1≤s.2∧s.2≤c.2∧(∀ k:Int,c.1≤k→k < s.1→¬ Q3 k)∧∀ k:Int,s.2≤k→k < c.2→Q3 k) (fun s=>(s.2 - s.1).toNat) (c.1,c.2) (fun _ _=>rfl) rfl rfl ⟨Int.le_refl _,by show c.1≤c.2; omega,Int.le_refl _,fun k k0 k1=>absurd (show k < c.1 from k1) (by omega),fun k k0 k1=>absurd (show c.2≤k from k0) (by omega)⟩ ?_
 intro q t hs
 obtain ⟨hq1,hq2,hq3,hq4,hq5⟩:=hs
 refine Cs (Nz 3 ?_)
 refine Wd (Qc (CS.cond rfl ?_ ?_))<;>intro hc10<;>try simp only [bq] at hc10
 ·
  refine Ck (Qc (Ce (Nz 2 ?_)))
  refine Wk 0 Za ?_
  refine Wk 0 (Jf2 Tryz.underlying3 Tryz.underlying274 rfl ⟨by omega,by omega⟩) ?_
  refine Wk 0 (Jej rfl rfl) ?_
  refine Wk 1 (Jdw Tryz.underlying274 Tryz.underlying3 rfl ⟨by omega,by omega⟩) ?_
  refine Wd (Qc (Cs (Dr Jah 4 ?_)))
  refine Dk 0 Zb ?_
  refine Dk 0 (Jaf (j:=0) sl42 rfl rfl rfl rfl (by first | omega | (rw [List.length_set]; omega)) (by first | omega | (rw [List.length_set]; omega))) ?_
  refine Dk 2 (Jbt (j:=0) rfl rfl rfl ⟨(by first | omega | (rw [List.length_set]; omega)),(by first | omega | (rw [List.length_set]; omega))⟩ rfl tk3) ?_
  refine Dk 0 (Jaf (j:=0) sl42 rfl rfl rfl rfl (by first | omega | (rw [List.length_set]; omega)) (by first | omega | (rw [List.length_set]; omega))) ?_
  refine Dk 0 (Jbt (j:=0) rfl rfl rfl ⟨(by first | omega | (rw [List.length_set]; omega)),(by first | omega | (rw [List.length_set]; omega))⟩ rfl tk3) ?_
  refine Dk 2 (Cb rfl rfl hent (fun u hu=>hcmp _ _ u (hu.ro (j:=1) rfl))) ?_
  refine Dd (Qc (CS.cond rfl ?_ ?_))<;>intro hc11<;>try simp only [bq] at hc11
  ·
   have hq:¬ Q3 ((q.1+q.2) / 2):=by rw [hQ3]; have h9:=Jg9.1 (by simpa using hc11); omega
   refine Ny 1 ?_
   refine Wk 1 Za ?_
   exact Wd (Qb (QS.head ((((q.1+q.2) / 2)+1,q.2)) rfl rfl ⟨⟨by show c.1≤((q.1+q.2) / 2)+1; omega,by show ((q.1+q.2) / 2)+1≤q.2; omega,hq3,Jiy hMQ3 (by omega) hq,hq5⟩,by show (q.2 - (((q.1+q.2) / 2)+1)).toNat < (q.2 - q.1).toNat; omega⟩))
  have hq:Q3 ((q.1+q.2) / 2):=by rw [hQ3]; exact Jd1.1 (by simpa using hc11)
  refine Ny 2 ?_
  exact Wd (Qb (QS.head ((q.1,((q.1+q.2) / 2))) rfl rfl ⟨⟨hq1,by show q.1≤((q.1+q.2) / 2); omega,by show ((q.1+q.2) / 2)≤c.2; omega,hq4,Jip hMQ3 (by omega) hq⟩,by show (((q.1+q.2) / 2) - q.1).toNat < (q.2 - q.1).toNat; omega⟩))
 have hqe:q.1=q.2:=by omega
 obtain ⟨hr,g1,g2⟩:=Joq (B:=B) hX hY ha hm1 hb (mid:=((a+b) / 2)) (n:=((a+b) / 2)+m) (s0:=c.1) (r0:=c.2) (s:=q.1) ⟨by omega,by omega,by omega⟩ rfl hs ⟨hq1,by omega⟩ (fun k k0 k1=>by have h9:=hq4 k k0 k1; rw [hQ3] at h9; omega) (fun k k0 k1=>(hQ3 k).1 (hq5 k (by omega) k1))
 obtain ⟨X1,X2,Y1,Y2,hXX,hYY,l1,l2,g3,g4⟩:∃ X1 X2 Y1 Y2:List Int,X=X1++X2∧Y=Y1++Y2∧(X1.length:Int)=q.1 - a∧(Y1.length:Int)=((a+b) / 2) - q.1∧(∀ x∈X2,∀ y∈Y1,key y < key x)∧∀ x∈X1,∀ y∈Y2,key x≤key y:=⟨_,_,_,_,(List.take_append_drop _ _).symm,(List.take_append_drop _ _).symm,by rw [List.length_take]; omega,by rw [List.length_take]; omega,g1,g2⟩
 subst hXX; subst hYY
 rw [List.length_append] at h1 h2 hm1 hb hm hlen hN
 rw [List.length_append] at hm hlen hN
 refine Cv (Qe (Qe (Qx (Qc (Nz 2 ?_)))))
 refine Wk 1 Zb ?_
 refine Wd (Qc ?_)
 refine CS.cut (σ:=Unit) [178,179,180,181,182,183,184,185,186,187,188,189,190,191] (fun s=>[]) (fun s=>[oT cInt 3 v (A++(X1++(Y1++(X2++(Y2++B))))),roS p,R]) (fun s=>True) (fun _ _=>rfl) ?_ ?_
 ·
  refine Nz 4 ?_
  refine Wt 0 rfl rfl (fun hg=>Fm) ?_
  refine Wt 0 rfl rfl (fun hg=>Fm) ?_
  refine Wt 0 rfl rfl (fun hg=>Fl) ?_
  refine Wk 0 Pa ?_
  refine Wd (Qc (CS.cond rfl ?_ ?_))<;>intro hc12<;>try simp only [bq] at hc12
  ·
   refine Ny 5 ?_
   refine WS.weak (L':=[oT cInt 3 v ((A++X1)++(X2++(Y1++(Y2++B)))),roS p,R]) (fun u hu=>hu.oTe (by simp)) ?_
   refine WS.callS (β:=Unit) (p:=fun _=>True) (v:=fun _=>.tuple #[]) (L':=fun _=>[oT cInt 3 v ((A++X1)++(Y1++(X2++(Y2++B)))),roS p,R]) rfl rfl Ka5 (fun u hu=>Calls.mono (Kak p R fn cap v (A++X1) X2 Y1 (Y2++B) _ _ _ (by first | omega | (simp; omega)) (by first | omega | (simp; omega)) (by first | omega | (simp; omega)) (by first | omega | (simp; omega)) (by first | omega | (simp; omega)) (by first | omega | (simp; omega)) hu) fun e u2 h=>⟨(),trivial,h.1,h.2⟩) (fun _=>rfl) ?_; rintro ⟨⟩ -
   exact Wd (QS.head (()) rfl (congrArg (fun l=>[oT cInt 3 v (l),roS p,R]) (by simp)) trivial)
  have hor:X2=[]∨Y1=[]:=by
   by_cases h:q.1 < m
   ·
    right; exact List.eq_nil_of_length_eq_zero (by have h9:=hc12; simp [h] at h9; omega)
   left; exact List.eq_nil_of_length_eq_zero (by omega)
  exact Ck (QS.head (()) rfl (congrArg (fun l=>[oT cInt 3 v (l),roS p,R]) (by rcases hor with h | h <;> simp [h])) trivial)
 intro z t hs
 refine CS.cut (σ:=List Int) [192,193,194,195,196,197,198,199,200,201,202,203,204,205] (fun s=>[]) (fun s=>[oT cInt 3 v (A++(s++(X2++(Y2++B)))),roS p,R]) (fun s=>Srt key s∧Eqv key (X1++Y1) s) (fun _ _=>rfl) ?_ ?_
 ·
  refine Nz 4 ?_
  refine Wt 0 rfl rfl (fun hg=>Fm) ?_
  refine Wt 0 rfl rfl (fun hg=>Fm) ?_
  refine Wt 0 rfl rfl (fun hg=>Fl) ?_
  refine Wk 0 Pa ?_
  refine Wd (Qc (CS.cond rfl ?_ ?_))<;>intro hc13<;>try simp only [bq] at hc13
  ·
   refine Ny 5 ?_
   refine WS.weak (L':=[oT cInt 3 v ((A)++((X1)++((Y1)++(X2++(Y2++B))))),roS p,R]) (fun u hu=>hu.oTe (rfl)) ?_
   refine WS.callS (β:=List Int) (p:=fun M'=>Srt key M'∧Eqv key ((X1)++(Y1)) M') (v:=fun _=>.tuple #[]) (L':=fun M'=>[oT cInt 3 v ((A)++(M'++(X2++(Y2++B)))),roS p,R]) rfl rfl Jr5 (fun u hu=>ih (A) (X1) (Y1) (X2++(Y2++B)) _ _ _ u (by first | omega | (simp; omega)) (by first | omega | (simp; omega)) (by first | omega | (simp; omega)) (by first | omega | (simp; omega)) (by first | omega | (simp; omega)) (by first | omega | (simp; omega)) hX.left hY.left (by first | omega | (simp; omega)) hu) (fun _=>rfl) ?_; rintro Mc ⟨hMcs,hMce⟩
   exact Wd (QS.head (Mc) rfl rfl ⟨hMcs,hMce⟩)
  have hor2:X1=[]∨Y1=[]:=by
   by_cases h:a < q.1
   ·
    right; exact List.eq_nil_of_length_eq_zero (by have h9:=hc13; simp [h] at h9; omega)
   left; exact List.eq_nil_of_length_eq_zero (by omega)
  have hMas:Srt key (X1++Y1):=by
   rcases hor2 with h | h
   ·
    rw [h]; exact hY.left
   rw [h,List.append_nil]; exact hX.left
  exact Ck (QS.head (X1++Y1) rfl (congrArg (fun l=>[oT cInt 3 v (l),roS p,R]) (by simp)) ⟨hMas,Eqv.refl _⟩)
 intro Ma t hs
 obtain ⟨hMas,hMae⟩:=hs
 have hMal:=hMae.len
 rw [List.length_append] at hMal
 refine Nz 4 ?_
 refine Wt 0 rfl rfl (fun hg=>Fm) ?_
 refine Wt 0 rfl rfl (fun hg=>Fm) ?_
 refine Wt 0 rfl rfl (fun hg=>Fl) ?_
 refine Wk 0 Pa ?_
 refine Wd (Qc (CS.cond rfl ?_ ?_))<;>intro hc14<;>try simp only [bq] at hc14
 ·
  refine Ny 5 ?_
  refine WS.weak (L':=[oT cInt 3 v ((A++Ma)++((X2)++((Y2)++(B)))),roS p,R]) (fun u hu=>hu.oTe (by simp)) ?_
  refine WS.callS (β:=List Int) (p:=fun M'=>Srt key M'∧Eqv key ((X2)++(Y2)) M') (v:=fun _=>.tuple #[]) (L':=fun M'=>[oT cInt 3 v ((A++Ma)++(M'++(B))),roS p,R]) rfl rfl Jr5 (fun u hu=>ih (A++Ma) (X2) (Y2) (B) _ _ _ u (by first | omega | (simp; omega)) (by first | omega | (simp; omega)) (by first | omega | (simp; omega)) (by first | omega | (simp; omega)) (by first | omega | (simp; omega)) (by first | omega | (simp; omega)) hX.right hY.right (by first | omega | (simp; omega)) hu) (fun _=>rfl) ?_; rintro Mb ⟨hMbs,hMbe⟩
  exact Wd (out0 (Or.inr rfl) rfl (fun u hu=>⟨Ma++Mb,Jif hX hY g3 g4 hMas hMae hMbs hMbe,rfl,hu.oTe (by first | (simp; done) | (rw [hMbq]; simp))⟩))
 have hor3:X2=[]∨Y2=[]:=by
  by_cases h:((a+b) / 2) < ((a+b) / 2)+m - q.1
  ·
   right; exact List.eq_nil_of_length_eq_zero (by have h9:=hc14; simp [h] at h9; omega)
  left; exact List.eq_nil_of_length_eq_zero (by omega)
 obtain ⟨Mb,hMbs,hMbe,hMbq⟩:∃ Mb:List Int,Srt key Mb∧Eqv key (X2++Y2) Mb∧X2++(Y2++B)=Mb++B:=⟨X2++Y2,by
  rcases hor3 with h | h
  ·
   rw [h]; exact hY.right
  rw [h,List.append_nil]; exact hX.right,Eqv.refl _,by simp⟩
 exact Ck (out0 (Or.inr rfl) rfl (fun u hu=>⟨Ma++Mb,Jif hX hY g3 g4 hMas hMae hMbs hMbe,rfl,hu.oTe (by first | (simp; done) | (rw [hMbq]; simp))⟩))
theorem Jyn {w:World} (p:World→Prop) (R:SA) (fn:FuncId) (cap:List Value) (hent:Ent Tryz.prog fn) (key:Int→Int) (hcmp:∀ (x y:Int) (u:World),p u→Calls Tryz.prog fn ([.int .i64 x,.int .i64 y]++cap:List Value).toArray u (RetB u (.int .i64 (cmpK (key x) (key y))))) (v:Value):∀ N:Nat,∀ (A X Y B:List Int) (a m b:Int) (u:World) (ha:a=A.length) (hm1:m=a+X.length) (hb:b=m+Y.length) (h1:0 < X.length) (h2:0 < Y.length) (hN:X.length+Y.length≤N) (hX:Srt key X) (hY:Srt key Y) (hm:(A.length:Int)+X.length+Y.length+B.length≤1000000) (hu:St w.heap.size w [oT cInt 3 v (A++(X++(Y++B))),roS p,R] u),Calls Tryz.prog 179 #[v,.int .i64 a,.int .i64 m,.int .i64 b,.func (.func fn) #[] cap.toArray] u (fun e u'=>∃ M':List Int,(Srt key M'∧Eqv key (X++Y) M')∧e = .returned (.tuple #[])∧St w.heap.size w [oT cInt 3 v (A++(M'++B)),roS p,R] u')
 | 0,A,X,Y,B,a,m,b,u,_,_,_,h1,h2,hN,_,_,_,_=>absurd hN (by omega)
 | N+1,A,X,Y,B,a,m,b,u,ha,hm1,hb,h1,h2,hN,hX,hY,hm,hu=>J6p p R fn cap hent key hcmp v N (Jyn p R fn cap hent key hcmp v N) A X Y B a m b ha hm1 hb h1 h2 hN hX hY hm hu
theorem J5n {w u:World} (p:World→Prop) (R:SA)  (fn:FuncId) (cap:List Value) (hent:Ent Tryz.prog fn) (key:Int→Int) (hcmp:∀ (x y:Int) (u:World),p u→Calls Tryz.prog fn ([.int .i64 x,.int .i64 y]++cap:List Value).toArray u (RetB u (.int .i64 (cmpK (key x) (key y))))) (v:Value) (xs:List Int) (n:Int) (hn:n=xs.length) (hm:(xs.length:Int)≤1000000) (hu:St w.heap.size w [oT cInt 3 v (xs),roS p,R] u) :
  Calls Tryz.prog 136 #[v,.int .i64 n,.func (.func fn) #[] cap.toArray] u (fun e u'=>∃ ys:List Int,(Srt key ys∧Eqv key xs ys)∧e = .returned (.tuple #[])∧St w.heap.size w [oT cInt 3 v (ys),roS p,R] u'):=by
 refine Jb0 hu Tryz.func136 rfl rfl (Nat.le_of_ble_eq_true rfl) ?_
 refine Nz 1 ?_
 refine Wd (Qc (Nz 3 ?_))
 refine Wd (Qc (Cs (Ce ?_)))
 refine CS.loopM (σ:=Int × Int × List Int × List Int) [11,12,13,14,15,16,17,18,19,20,21,22] (fun s=>[(7,.int .i64 s.1),(8,.int .i64 s.2.1)]) (fun s=>[oT cInt 3 v (s.2.2.1++s.2.2.2),roS p,R]) (fun s=>s.2.1=s.1+20∧s.1=s.2.2.1.length∧Full key 20 s.2.2.1∧Eqv key xs (s.2.2.1++s.2.2.2)) (fun s=>(n - s.1).toNat) (0,20,[],xs) (fun _ _=>rfl) rfl rfl ⟨rfl,rfl,Full.nil,Eqv.refl _⟩ ?_
 intro o t hs
 obtain ⟨ho1,ho2,ho3,ho4⟩:=hs
 have hol:=ho4.len
 rw [List.length_append] at hol
 refine Cs (Nz 3 ?_)
 refine Wd (Qc (CS.cond rfl ?_ ?_))<;>intro hc1<;>try simp only [bq] at hc1
 ·
  have htl:(o.2.2.2.take 20).length=20:=by rw [List.length_take]; omega
  refine Ck (Qc (Ce (Nz 4 ?_)))
  refine WS.weak (L':=[oT cInt 3 v ((o.2.2.1)++((o.2.2.2.take 20)++(o.2.2.2.drop 20))),roS p,R]) (fun u hu=>hu.oTe (by rw [List.take_append_drop])) ?_
  refine WS.callS (β:=List Int) (p:=fun M'=>Srt key M'∧Eqv key (o.2.2.2.take 20) M') (v:=fun _=>.tuple #[]) (L':=fun M'=>[oT cInt 3 v ((o.2.2.1)++(M'++(o.2.2.2.drop 20))),roS p,R]) rfl rfl J3w (fun u hu=>Jy6 p R fn cap hent key hcmp v (o.2.2.1) (o.2.2.2.take 20) (o.2.2.2.drop 20) _ _ (by first | omega | (simp; omega)) (by first | omega | (simp; omega)) (by first | omega | (simp; omega)) hu) (fun _=>rfl) ?_; rintro Ma ⟨hMas,hMae⟩
  refine Wd (Qc (Nz 2 ?_))
  refine Wd (Qc (Ny 2 ?_))
  refine Wk 1 Za ?_
  exact Wd (Qb (QS.head ((o.2.1,o.2.1+20,o.2.2.1++Ma,o.2.2.2.drop 20)) rfl (congrArg (fun l=>[oT cInt 3 v (l),roS p,R]) (by simp)) ⟨⟨rfl,by simp only [List.length_append]; rw [hMae.len,htl]; omega,ho3.snoc (by rw [hMae.len,htl]) hMas,ho4.trans (by have h:=(Eqv.refl (key:=key) o.2.2.1).app (hMae.app (Eqv.refl (o.2.2.2.drop 20))); rw [List.take_append_drop] at h; simpa using h)⟩,by show (n - o.2.1).toNat < (n - o.1).toNat; omega⟩))
 refine Cv (Qe (Qe (Qx (Qc (Nz 4 ?_)))))
 refine WS.weak (L':=[oT cInt 3 v ((o.2.2.1)++((o.2.2.2)++([]))),roS p,R]) (fun u hu=>hu.oTe (by rw [List.append_nil])) ?_
 refine WS.callS (β:=List Int) (p:=fun M'=>Srt key M'∧Eqv key (o.2.2.2) M') (v:=fun _=>.tuple #[]) (L':=fun M'=>[oT cInt 3 v ((o.2.2.1)++(M'++([]))),roS p,R]) rfl rfl J3w (fun u hu=>Jy6 p R fn cap hent key hcmp v (o.2.2.1) (o.2.2.2) ([]) _ _ (by first | omega | (simp; omega)) (by first | omega | (simp; omega)) (by first | omega | (simp; omega)) hu) (fun _=>rfl) ?_; rintro Mb ⟨hMbs,hMbe⟩
 refine Wd (Qc (Ce ?_))
 refine CS.loopM (σ:=Int × List Int) [7,8,9,28,29,30,31,32,33,34,35,36,37,38,39,40,41,42,43,44,45,46,47,48,49,50,51,52,53,54,55,56,57,58,59,60,61,62] (fun s=>[(6,.int .i64 s.1)]) (fun s=>[oT cInt 3 v (s.2),roS p,R]) (fun s=>20≤s.1∧s.1≤2000000∧Blk key s.1.toNat s.2∧Eqv key xs s.2) (fun s=>(n - s.1).toNat) (20,o.2.2.1++Mb) (fun _ _=>rfl) rfl (congrArg (fun l=>[oT cInt 3 v (l),roS p,R]) (by simp)) ⟨Int.le_refl _,by show (20:Int)≤2000000; omega,ho3.blk (.last (by show Mb.length≤20; rw [hMbe.len]; omega) hMbs),ho4.trans ((Eqv.refl _).app hMbe)⟩ ?_
 intro x t hs
 obtain ⟨hx1,hx2,hx3,hx4⟩:=hs
 have hxl:=hx4.len
 refine Cs (Nz 3 ?_)
 refine Wd (Qc (CS.cond rfl ?_ ?_))<;>intro hc2<;>try simp only [bq] at hc2
 ·
  refine Ck (Qc (Ce (Nz 1 ?_)))
  refine Wk 2 Zc ?_
  refine Wd (Qc (Cs (Ce ?_)))
  refine CS.loopM (σ:=Int × Int × List Int × List Int) [33,34,35,36,37,38,39,40,41,42,43,44,45,46,47,48] (fun s=>[(7,.int .i64 s.1),(8,.int .i64 s.2.1)]) (fun s=>[oT cInt 3 v (s.2.2.1++s.2.2.2),roS p,R]) (fun s=>s.2.1=s.1+2 * x.1∧s.1=s.2.2.1.length∧Full key (2 * x.1).toNat s.2.2.1∧Blk key x.1.toNat s.2.2.2∧Eqv key xs (s.2.2.1++s.2.2.2)) (fun s=>(n - s.1).toNat) (0,2 * x.1,[],x.2) (fun _ _=>rfl) rfl rfl ⟨by show 2 * x.1=0+2 * x.1; omega,rfl,Full.nil,hx3,hx4⟩ ?_
  intro y t hs
  obtain ⟨hy1,hy2,hy3,hy4,hy5⟩:=hs
  have hyl:=hy5.len
  rw [List.length_append] at hyl
  refine Cs (Nz 3 ?_)
  refine Wd (Qc (CS.cond rfl ?_ ?_))<;>intro hc3<;>try simp only [bq] at hc3
  ·
   obtain ⟨b1,c1,r1,hT,l1,l2,k1,k2,k3⟩:=hy4.split2 (by omega) (by omega)
   have hTl:=congrArg List.length hT
   simp only [List.length_append] at hTl
   refine Ck (Qc (Ce (Nz 4 ?_)))
   refine Wk 2 Za ?_
   refine WS.weak (L':=[oT cInt 3 v ((y.2.2.1)++((b1)++((c1)++(r1)))),roS p,R]) (fun u hu=>hu.oTe (by rw [hT])) ?_
   refine WS.callS (β:=List Int) (p:=fun M'=>Srt key M'∧Eqv key ((b1)++(c1)) M') (v:=fun _=>.tuple #[]) (L':=fun M'=>[oT cInt 3 v ((y.2.2.1)++(M'++(r1))),roS p,R]) rfl rfl Jr5 (fun u hu=>Jyn p R fn cap hent key hcmp v (b1.length+c1.length) (y.2.2.1) b1 c1 (r1) _ _ _ u (by first | omega | (simp; omega)) (by first | omega | (simp; omega)) (by first | omega | (simp; omega)) (by first | omega | (simp; omega)) (by first | omega | (simp; omega)) (Nat.le_refl _) k1 k2 (by first | omega | (simp; omega)) hu) (fun _=>rfl) ?_; rintro Mc ⟨hMcs,hMce⟩
   refine Wd (Qc (Nz 2 ?_))
   refine Wd (Qc (Ny 2 ?_))
   refine Wk 0 Zc ?_
   refine Wk 1 Za ?_
   exact Wd (Qb (QS.head ((y.2.1,y.2.1+2 * x.1,y.2.2.1++Mc,r1)) rfl (congrArg (fun l=>[oT cInt 3 v (l),roS p,R]) (by simp)) ⟨⟨rfl,by simp only [List.length_append]; rw [hMce.len,List.length_append]; omega,hy3.snoc (by rw [hMce.len,List.length_append]; omega) hMcs,k3,hy5.trans (by rw [hT]; have h:=(Eqv.refl (key:=key) y.2.2.1).app (hMce.app (Eqv.refl r1)); simpa using h)⟩,by show (n - y.2.1).toNat < (n - y.1).toNat; omega⟩))
  refine Cv (Qe (Qe (Qx (Qc (Cs (Nz 2 ?_))))))
  refine Wk 1 Za ?_
  refine Wd (Qc (Nz 3 ?_))
  refine Wd (Qc (CS.cond rfl ?_ ?_))<;>intro hc4<;>try simp only [bq] at hc4
  ·
   obtain ⟨b1,r1,hT,l1,k1,k2⟩:=hy4.split (by omega)
   have hTl:=congrArg List.length hT
   simp only [List.length_append] at hTl
   have k3:=k2.srt (by omega)
   refine Ny 5 ?_
   refine WS.weak (L':=[oT cInt 3 v ((y.2.2.1)++((b1)++((r1)++([])))),roS p,R]) (fun u hu=>hu.oTe (by rw [hT,List.append_nil])) ?_
   refine WS.callS (β:=List Int) (p:=fun M'=>Srt key M'∧Eqv key ((b1)++(r1)) M') (v:=fun _=>.tuple #[]) (L':=fun M'=>[oT cInt 3 v ((y.2.2.1)++(M'++([]))),roS p,R]) rfl rfl Jr5 (fun u hu=>Jyn p R fn cap hent key hcmp v (b1.length+r1.length) (y.2.2.1) b1 r1 ([]) _ _ _ u (by first | omega | (simp; omega)) (by first | omega | (simp; omega)) (by first | omega | (simp; omega)) (by first | omega | (simp; omega)) (by first | omega | (simp; omega)) (Nat.le_refl _) k1 k3 (by first | omega | (simp; omega)) hu) (fun _=>rfl) ?_; rintro Md ⟨hMds,hMde⟩
   refine Wd (Qc (Ny 1 ?_))
   refine Wk 1 Zc ?_
   exact Wd (Qb (QS.head ((x.1 * 2,y.2.2.1++Md)) rfl (congrArg (fun l=>[oT cInt 3 v (l),roS p,R]) (by simp)) ⟨⟨by show 20≤x.1 * 2; omega,by show x.1 * 2≤2000000; omega,by show Blk key (x.1 * 2).toNat _; rw [show x.1 * 2=2 * x.1 by omega]; exact hy3.blk (.last (by rw [hMde.len,List.length_append]; omega) hMds),hy5.trans (by rw [hT]; exact (Eqv.refl _).app hMde)⟩,by show (n - x.1 * 2).toNat < (n - x.1).toNat; omega⟩))
  have k3:=hy4.srt (by omega)
  refine Ck (Qc (Ny 1 ?_))
  refine Wk 1 Zc ?_
  exact Wd (Qb (QS.head ((x.1 * 2,y.2.2.1++y.2.2.2)) rfl rfl ⟨⟨by show 20≤x.1 * 2; omega,by show x.1 * 2≤2000000; omega,by show Blk key (x.1 * 2).toNat _; rw [show x.1 * 2=2 * x.1 by omega]; exact hy3.blk (.last (by omega) k3),hy5⟩,by show (n - x.1 * 2).toNat < (n - x.1).toNat; omega⟩))
 have hfin:=hx3.srt (by omega)
 exact Cv (Qe (Qe (Qx (out0 (Or.inr rfl) rfl (fun u hu=>⟨x.2,⟨hfin,hx4⟩,rfl,hu⟩)))))
theorem J40 {w u:World} (p:World→Prop) (R:SA)  (fn:FuncId) (cap:List Value) (hent:Ent Tryz.prog fn) (key:Int→Int) (hcmp:∀ (x y:Int) (u:World),p u→Calls Tryz.prog fn ([.int .i64 x,.int .i64 y]++cap:List Value).toArray u (RetB u (.int .i64 (cmpK (key x) (key y))))) (v:Value) (xs:List Int) (hm:(xs.length:Int)≤1000000) (hu:St w.heap.size w [oT cInt 3 v (xs),roS p,R] u) :
  Calls Tryz.prog 78 #[v,.func (.func fn) #[] cap.toArray] u (fun e u'=>∃ ys:List Int,(Srt key ys∧Eqv key xs ys)∧e = .returned (.tuple #[])∧St w.heap.size w [oT cInt 3 v (ys),roS p,R] u'):=by
 refine Jb0 hu Tryz.func78 rfl rfl (Nat.le_of_ble_eq_true rfl) ?_
 refine Ny 2 ?_
 refine Wk 1 (Jds (j:=0) sl42 rfl rfl) ?_
 refine WS.callS (β:=List Int) (p:=fun ys=>Srt key ys∧Eqv key xs ys) (v:=fun _=>.tuple #[]) (L':=fun ys=>[oT cInt 3 v (ys),roS p,R]) rfl rfl Kb2 (fun u hu=>J5n p R fn cap hent key hcmp v xs _ rfl hm hu) (fun _=>rfl) ?_; rintro ys ⟨h1,h2⟩
 exact Wd (out0 (Or.inr rfl) rfl (fun u hu=>⟨ys,⟨h1,h2⟩,rfl,hu⟩))
theorem Kcz:zv Tryz.prog 105=some [.map none]:=by kernel_rfl
theorem J0k:tk Tryz.prog 105=some (false,1):=by kernel_rfl
theorem J1h {w u:World} (L:List SA) (G:Game) (hG:GameOk w G) (hn:NearG G) (g:Sl ByteArray) (hW:GOk w g) (l:Sl Entr) (hk:SlT cEntry w l) (hu:St w.heap.size w (Go.Proofs.YtbboikncaihafaaGreatDoor.osl 0 1 (.slice none 0 0) 0 []::L) u):Calls Tryz.prog 74 #[.agg #[G.rm.pls.v,G.rm.ths.v,G.rm.prs.v,G.rm.wys.v,G.rm.acs.v,G.rm.aus.v,.int .i64 G.rm.ply,G.rm.gl.v,G.lks.v,G.cds.v,G.nts.v,.int .i64 G.tr],l.v,.func (.func 75) #[] #[]] u (fun e u'=>∃ x:Nat × Pos × Value,((Jae G.p l.l).1=0→x.2.2 = .pointer (some ⟨x.1,0,none⟩)∧x.2.1.x=(Jae G.p l.l).2.2.x∧∃ u0,PosOk u0 x.2.1)∧e = .returned (.tuple #[x.2.2,.int .i64 (Jae G.p l.l).1])∧St w.heap.size w (J2s ((Jae G.p l.l).1=0) (Go.Proofs.YtbboikncaihafaaGreatDoor.star [blk x.1 [G.rm.pls.v,G.rm.ths.v,G.rm.prs.v,G.rm.wys.v,G.rm.acs.v,G.rm.aus.v,.int .i64 G.rm.ply,G.rm.gl.v,G.lks.v,G.cds.v,G.nts.v,.int .i64 G.tr,x.2.1.st.ths.v,x.2.1.st.prs.v,x.2.1.st.pls.v,x.2.1.rd.v,.bool (Jae G.p l.l).2.2.st,.int .i64 (Jae G.p l.l).2.2.si,.int .i64 (Jae G.p l.l).2.2.pa,.int .i64 (Jae G.p l.l).2.2.en,.int .i64 (Jae G.p l.l).2.2.hi] 166,roS fun u=>PosOk u x.2.1])::L) u'):=by
 by_cases hE:(Jae G.p l.l).1=0
 ·
  refine Calls.mono (Jmf L G hG hn g hW l hk hE hu) ?_
  rintro e u' ⟨x,h1,h2,h3⟩
  exact ⟨(x.1,x.2,.pointer (some ⟨x.1,0,none⟩)),fun _=>⟨rfl,h1⟩,by rw [hE]; exact h2,h3.toCond hE⟩
 refine Calls.mono (Jm8 L G hG hn g hW l hk hE hu) ?_
 rintro e u' ⟨acc,_,h2,h3⟩
 exact ⟨(0,⟨⟨⟨.slice none 0 0,[]⟩,⟨.slice none 0 0,[]⟩,⟨.slice none 0 0,[]⟩⟩,⟨.slice none 0 0,[]⟩⟩,.pointer none),fun h=>absurd h hE,h2,h3.toCondN hE⟩
theorem J0i (y:Pos) (f:Film) (G:Game) (fb:Nat) (e:TypeId) (w:World) (hb:BlkAt w fb [G.rm.pls.v,G.rm.ths.v,G.rm.prs.v,G.rm.wys.v,G.rm.acs.v,G.rm.aus.v,.int .i64 G.rm.ply,G.rm.gl.v,G.lks.v,G.cds.v,G.nts.v,.int .i64 G.tr,y.st.ths.v,y.st.prs.v,y.st.pls.v,y.rd.v,.bool f.st,.int .i64 f.si,.int .i64 f.pa,.int .i64 f.en,.int .i64 f.hi] e) (pen:Int) :
  Calls Tryz.prog 76 #[.pointer (some ⟨fb,0,none⟩),.int .i64 pen] w (RetB w (.tuple #[.int .i64 (scW pen f),.bool (decide (0≤f.en))])):=by
 refine enter Tryz.func76 rfl rfl (Nat.le_of_ble_eq_true rfl) ?_
 refine Nz 2 ?_
 refine Wd (Qc (Cs (Dr Jah 3 ?_)))
 refine Dk 4 Ga ?_
 refine Dk 0 Ga ?_
 refine Dk 0 (J2a rfl rfl) ?_
 refine Dk 3 (J0p rfl rfl) ?_
 refine Dk 3 Ga ?_
 exact Dd (Qc (Cr (out2 rfl rfl rfl (Jab rfl))))
theorem J42 (b m:Nat) (f:Int→Int) (x y:Int) (w:World) (hb:BlkAt w b [.map (some m)] 105) (hmp:MapAt w m f) :
  Calls Tryz.prog 79 #[.int .i64 x,.int .i64 y,.pointer (some ⟨b,0,none⟩)] w (RetB w (.int .i64 (cmpK (f x) (f y)))):=by
 refine enter Tryz.func79 rfl rfl (Nat.le_of_ble_eq_true rfl) ?_
 refine Nz 1 ?_
 refine Wd (Qc (Nz 0 ?_))
 refine Wk 1 (Jax rfl hb rfl J0k) ?_
 refine Wk 0 (Jk1 mapT mapK mapZ rfl hmp rfl) ?_
 refine Wk 1 (Jax rfl hb rfl J0k) ?_
 refine Wk 0 (Jk1 mapT mapK mapZ rfl hmp rfl) ?_
 refine Wk 1 (Cb rfl rfl J73 (fun u hu=>Jpg _ _ u)) ?_
 exact Wd (Qc (Cr (out1 rfl rfl retB)))
section
variable {n0:Nat} {w0:World} {u:World}
theorem J4v {e:TypeId} {v:Value} {xs:List Int} {b m:Nat} {c:List Value} {T:TypeId} {f:Int→Int} (h:St n0 w0 [oints e v xs,blk b c T,mapI m f] u):St n0 w0 [oT cInt e v xs,roS (fun u=>BlkAt u b c T∧MapAt u m f),roS fun _=>True] u:=by
 rw [Jse] at h
 have h1:St n0 w0 [blk b c T,mapI m f,oT cInt e v xs] u:=h.sel [1,1,0] rfl
 have h2:=St.pack (L1:=[blk b c T,mapI m f]) h1
 have h3:=St.toRo (p:=fun u=>BlkAt u b c T∧MapAt u m f) (fun S u h=>by
  obtain ⟨_,_,hA⟩:=Star.get (j:=0) rfl h.1
  obtain ⟨_,_,hB⟩:=Star.get (j:=1) rfl h.1
  exact ⟨hA.2,hB.2⟩) h2
 exact ((h3.roTrue (fun _=>trivial)).sel [2,1,0] rfl)
end
theorem J15 (G:Game) (w:World) (hG:GameOk w G) (hn:NearG G) (g:Sl ByteArray) (hW:GOk w g) (x:Sl (Sl Entr)) (hx:SlT (cSl cEntry) w x) (hxl:∀ j:Int,0≤j→j < x.l.length→(nth x.l j).l.length≤1000) (pen:Int) (hB:(Jag G.p).1=0) :
  Calls Tryz.prog 28 #[.agg #[G.rm.pls.v,G.rm.ths.v,G.rm.prs.v,G.rm.wys.v,G.rm.acs.v,G.rm.aus.v,.int .i64 G.rm.ply,G.rm.gl.v,G.lks.v,G.cds.v,G.nts.v,.int .i64 G.tr],x.v,.int .i64 pen] w (RetT cInt w (Jbb G.p (x.l.map Sl.l) pen).2 fun v=>.tuple #[v,.int .i64 (Jbb G.p (x.l.map Sl.l) pen).1]):=by
 have lx:=hx.le
 have hml:((x.l.map Sl.l).length:Int)=x.l.length:=by rw [List.length_map]
 refine enter Tryz.func28 rfl rfl (Nat.le_of_ble_eq_true rfl) ?_
 refine Nz 0 ?_
 refine Wb 2 rfl rfl (fun _=>rfl) (fun _=>rfl) fun b3 hb3=>?_
 refine Wd (Qc (Cs (Nz 0 ?_)))
 refine Wk 0 (Bb 0) ?_
 refine Wc rfl rfl Jmb (fun u hu=>Jgi G u (hG.st hu) hn g (hW.st hu) hB) (fun _=>rfl) ?_; rintro ⟨fb,y⟩ ⟨hyx,uy,hyok⟩
 refine WS.unpack ?_
 refine Wz 5 ?_
 refine Wd (Qc (Nz 2 ?_))
 refine Wd (Qc (CS.cond rfl ?_ ?_))<;>intro hc1<;>try simp only [bq] at hc1
 ·
  exact absurd trivial hc1
 refine Ck (Qc (Cs (Nz 1 ?_)))
 refine Wk 1 Nc ?_
 refine Wd (Qc (CS.cond rfl ?_ ?_))<;>intro hc2<;>try simp only [bq] at hc2
 ·
  refine Nz 2 ?_
  refine Wd (Qc (Cr (Qr ?_)))
  exact out2 rfl rfl rfl (by
    have hv:(Jbb G.p (x.l.map Sl.l) pen)=(2,[]):=Jz7 hB (by omega)
    rw [hv]
    exact fun u hu=>Jgv (C:=cInt) (f:=fun v=>.tuple #[v,.int .i64 2]) hu)
 refine Ck (Qc (Nz 0 ?_))
 refine WS.makeMap (fun _=>rfl) fun m28 hm28=>?_
 refine WS.alloc Kcz (fun _=>rfl) ?_; intro b10 hb10
 refine WS.store (j:=0) rfl rfl (by decide) rfl rfl J0k rfl rfl ?_
 refine Wd (Qc (Cs (Nz 1 ?_)))
 refine Wk 1 Nc ?_
 refine Wd (Qc (Ce ?_))
 refine CS.weak (fun _ hu=>hu.osl0 (e:=3) (size:=1)) ?_
 refine CS.sel [0,1,0,2] rfl ?_
 refine CS.loopM (σ:=Int × Value × List Int) [7,11,12,13,14,15,16,32,33,34,35,36,37,38,39,40,41,42,43,44,45,46,47,48,49,50,51,52,53,54,55,56,57,58,59] (fun s=>[(31,.int .i64 s.1),(6,s.2.1)]) (fun s=>[oints 3 s.2.1 s.2.2,mapI m28 (scF G.p (x.l.map Sl.l) pen s.1),blk b10 [.map (some m28)] 105,blk b3 [G.rm.pls.v,G.rm.ths.v,G.rm.prs.v,G.rm.wys.v,G.rm.acs.v,G.rm.aus.v,.int .i64 G.rm.ply,G.rm.gl.v,G.lks.v,G.cds.v,G.nts.v,.int .i64 G.tr] 36]) (fun s=>0≤s.1∧s.1≤x.l.length∧s.2.2=filI s.1 (finR G.p (x.l.map Sl.l))∧∀ j:Int,0≤j→j < s.1→(Jae G.p (nth (x.l.map Sl.l) j)).1=0) (fun s=>(x.l.length - s.1).toNat) (0,.slice none 0 0,[]) (fun _ _=>rfl) rfl (by show [_,_,_,_]=[_,_,_,_]; rw [Kcj]; rfl) ⟨by simp,by simp,rfl,fun j j0 j1=>by have h9:j < 0:=j1; omega⟩ ?_
 intro s t hs
 obtain ⟨hs0,hs2,hs3,hs4⟩:=hs
 have hfl:=Jrg (G:=G.p) (L:=(x.l.map Sl.l)) hs0
 rw [← hs3] at hfl
 refine Nz 1 ?_
 refine Wd (Qc (Cs (CS.cond rfl ?_ ?_)))<;>intro hc3<;>try simp only [bq] at hc3
 ·
  have hs1:s.1 < x.l.length:=by omega
  have hxs:SlT cEntry w (nth x.l s.1):=hx.at hs0 (by omega)
  refine Ck (Qc (Cs (Ce (Nz 1 ?_))))
  refine Wk 0 Xc ?_
  refine Wk 2 Ub ?_
  refine Wd (Qc (Nz 0 ?_))
  refine Wk 1 (Bb 3) ?_
  refine WS.weak (fun u hu=>hu.osl0 (e:=0) (size:=1)) ?_
  refine WS.callS rfl rfl Jqz (fun u hu=>J1h _ G hG hn g hW (nth x.l s.1) hxs hu) (fun _=>rfl) ?_; rintro ⟨fb,y2,pv⟩ hj
  dsimp only at hj
  refine Wz 5 ?_
  refine Wd (Qc (Cs (Nz 2 ?_)))
  refine Wd (Qc (CS.cond rfl ?_ ?_))<;>intro hc4<;>try simp only [bq] at hc4
  ·
   have hE:¬ (Jae G.p (nth (x.l.map Sl.l) s.1)).1=0:=by rw [Jcl]; first | exact hc4 | simpa using hc4
   refine Nz 3 ?_
   refine Wd (Qc (Cr (Qr (Qs (Qr (Qr (Qs (Qr ?_))))))))
   exact out2 rfl rfl rfl (by
     have hel:=Jiv hs0 (by omega) hs4 hE
     rw [Jcl] at hel
     have hv:(Jbb G.p (x.l.map Sl.l) pen)=((Jae G.p (nth x.l s.1).l).1,[]):=(Jv9 hB (by omega) (by rw [hel]; simpa using hc4)).trans (by rw [hel])
     rw [hv]
     exact fun u hu=>Jgv (C:=cInt) (f:=fun v=>.tuple #[v,.int .i64 (Jae G.p (nth x.l s.1).l).1]) hu)
  have hE:(Jae G.p (nth x.l s.1).l).1=0:=by first | exact hc4 | simpa using hc4
  have hE2:(Jae G.p (nth (x.l.map Sl.l) s.1)).1=0:=by rw [Jcl]; exact hE
  refine Ck (Qc (Nz 0 ?_))
  obtain ⟨rfl,hyx2,uy2,hyok2⟩:=hj hE
  refine WS.weak (fun u hu=>St.unpack (St.condT hE hu)) ?_
  refine WS.det rfl rfl rfl (Jaw rfl) rfl ?_
  refine Wz 1 ?_
  refine Wk 5 (Cb rfl rfl Kbh (fun u hu=>J0i y2 (Jae G.p (nth x.l s.1).l).2.2 G fb _ u (Ja0 hu (j:=0) rfl) pen)) ?_
  refine Wd (Qc (Nz 1 ?_))
  refine Wd (Qc (CS.cond rfl ?_ ?_))<;>intro hc5<;>try simp only [bq] at hc5
  ·
   have hfi:finR G.p (x.l.map Sl.l) s.1=true:=by unfold finR; rw [Jcl]; simp; first | exact hc5 | omega
   refine Nz 0 ?_
   refine Wk 2 (Jas (j:=4) rfl rfl rfl J0k) ?_
   refine WS.mapUpdate mapT mapK rfl (j:=3) rfl rfl rfl rfl ?_
   refine Wd (Qc (Ny 2 ?_))
   refine WS.buildI1 sl42 zv3 rfl (fun _=>rfl) ?_; intro v57
   refine WS.appendI (j:=3) sl42 zv3 rfl rfl rfl (fun u hu=>Jad hu (j:=0) rfl) (by first | omega | (simp; omega) | (simp only [List.length_append,List.length_singleton,List.length_map,List.length_cons,List.length_nil] at *; omega)) (by first | omega | (simp; omega) | (simp only [List.length_append,List.length_singleton,List.length_map,List.length_cons,List.length_nil] at *; omega)) (fun _=>rfl) (fun _=>rfl) ?_; intro v58; refine WS.oc (j:=3) rfl (fun hv58=>?_)
   refine Wz 1 ?_
   refine Wd (Qb (Qc (Ny 0 ?_)))
   refine Wk 1 Za ?_
   refine Wd ?_
   refine QS.sel [3,3,3,3] rfl ?_
   exact QS.head ((s.1+1,v58,s.2.2++[s.1])) rfl (by show [_,_,_,_]=[_,_,_,_]; rw [← J5l hs0 hfi,Jcl]) ⟨⟨by simp; omega,by simp; omega,by rw [Jdm hs0 hfi,hs3],fun j j0 j1=>by
      rcases (show j < s.1∨j=s.1 by have h9:j < s.1+1:=j1; omega) with h | h
      ·
       exact hs4 j j0 h
      rw [h]; exact hE2⟩,by simp; omega⟩
  have hfi:¬ finR G.p (x.l.map Sl.l) s.1=true:=by unfold finR; rw [Jcl]; simp; first | exact hc5 | omega
  refine Ck (Qb (Qc (Ny 0 ?_)))
  refine Wk 1 Za ?_
  refine Wd ?_
  refine QS.sel [2,2,2,2] rfl ?_
  exact QS.head ((s.1+1,s.2.1,s.2.2)) rfl (by show [_,_,_,_]=[_,_,_,_]; rw [← J8q hfi]) ⟨⟨by simp; omega,by simp; omega,by rw [Jys hs0 hfi,hs3],fun j j0 j1=>by
     rcases (show j < s.1∨j=s.1 by have h9:j < s.1+1:=j1; omega) with h | h
     ·
      exact hs4 j j0 h
     rw [h]; exact hE2⟩,by simp; omega⟩
 have hse:s.1=x.l.length:=by omega
 have hall:errL G.p (x.l.map Sl.l)=0:=Jhs.2 fun j j0 j1=>hs4 j j0 (by omega)
 refine Cv (Qe (Qe (Qx (Qc (Cs (Nz 1 ?_))))))
 refine Wk 1 (Cb rfl rfl Jk7 (fun u hu=>Jc3 _ _ _ u)) ?_
 refine Wd (Qc (CS.cond rfl ?_ ?_))<;>intro hc6<;>try simp only [bq] at hc6
 ·
  have hpn:¬ (0≤pen∧pen≤10000):=by have h9:=hc6; first | omega | (simp at h9; omega)
  refine Nz 2 ?_
  refine Wd (Qc (Cr (Qr ?_)))
  exact out2 rfl rfl rfl (by
    have hv:(Jbb G.p (x.l.map Sl.l) pen)=(1,[]):=Jyw hB (by omega) hall hpn
    rw [hv]
    exact fun u hu=>Jgv (C:=cInt) (f:=fun v=>.tuple #[v,.int .i64 1]) hu)
 have hpy:0≤pen∧pen≤10000:=by have h9:=hc6; first | omega | (simp at h9; omega)
 refine Ck (Qc (Nz 1 ?_))
 refine Wk 0 (Jal rfl) ?_
 refine WS.sel [0,1,0] rfl ?_
 refine WS.weak (fun u hu=>J4v hu) ?_
 refine WS.callS (β:=List Int) (p:=fun ys=>Srt (scF G.p (x.l.map Sl.l) pen s.1) ys∧Eqv (scF G.p (x.l.map Sl.l) pen s.1) s.2.2 ys) (v:=fun _=>.tuple #[]) (L':=fun ys=>[oT cInt 3 s.2.1 ys,roS (fun u=>BlkAt u b10 [.map (some m28)] 105∧MapAt u m28 (scF G.p (x.l.map Sl.l) pen s.1)),roS fun _=>True]) rfl rfl Kb3 (fun u hu=>J40 (fun u=>BlkAt u b10 [.map (some m28)] 105∧MapAt u m28 (scF G.p (x.l.map Sl.l) pen s.1)) _ 79 [.pointer (some ⟨b10,0,none⟩)] Kda (scF G.p (x.l.map Sl.l) pen s.1) (fun x y u hb=>J42 b10 m28 _ x y u hb.1 hb.2) s.2.1 s.2.2 (by omega) hu) (fun _=>rfl) ?_; rintro ys ⟨hys1,hys2⟩
 refine Wd (Qc (Nz 3 ?_))
 refine Wd (Qc (Cr ?_))
 exact out2 rfl rfl rfl (by
   have hv:(Jbb G.p (x.l.map Sl.l) pen)=(0,ys):=(Jy3 hB (by omega) hall hpy).trans (by rw [hml, ← hse, ← hs3, ← Jv8 hys1 hys2])
   rw [hv]
   exact fun u hu=>retT (C:=cInt) (f:=fun v=>.tuple #[v,.int .i64 0]) (j:=0) (fun _ _ _=>trivial) rfl hu)
theorem J14 (G:Game) (w:World) (hG:GameOk w G) (hn:NearG G) (g:Sl ByteArray) (hW:GOk w g) (x:Sl (Sl Entr)) (hx:SlT (cSl cEntry) w x) (hxl:∀ j:Int,0≤j→j < x.l.length→(nth x.l j).l.length≤1000) (pen:Int) (hB:¬ (Jag G.p).1=0) :
  Calls Tryz.prog 28 #[.agg #[G.rm.pls.v,G.rm.ths.v,G.rm.prs.v,G.rm.wys.v,G.rm.acs.v,G.rm.aus.v,.int .i64 G.rm.ply,G.rm.gl.v,G.lks.v,G.cds.v,G.nts.v,.int .i64 G.tr],x.v,.int .i64 pen] w (RetT cInt w (Jbb G.p (x.l.map Sl.l) pen).2 fun v=>.tuple #[v,.int .i64 (Jbb G.p (x.l.map Sl.l) pen).1]):=by
 refine enter Tryz.func28 rfl rfl (Nat.le_of_ble_eq_true rfl) ?_
 refine Nz 0 ?_
 refine Wb 2 rfl rfl (fun _=>rfl) (fun _=>rfl) fun b3 hb3=>?_
 refine Wd (Qc (Cs (Nz 0 ?_)))
 refine Wk 0 (Bb 0) ?_
 refine Wk 5 (Cb rfl rfl Jmb (fun u hu=>Jhu G u (hG.st hu) hn g (hW.st hu) hB)) ?_
 refine Wd (Qc (Nz 2 ?_))
 refine Wd (Qc (CS.cond rfl ?_ ?_))<;>intro hc1<;>try simp only [bq] at hc1
 ·
  refine Nz 3 ?_
  refine Wd (Qc (Cr (Qr ?_)))
  exact out2 rfl rfl rfl (by
    have hv:(Jbb G.p (x.l.map Sl.l) pen)=((Jag G.p).1,[]):=Jxv hB
    rw [hv]
    exact fun u hu=>Jgv (C:=cInt) (f:=fun v=>.tuple #[v,.int .i64 (Jag G.p).1]) hu)
 exact absurd hc1 hB
theorem J5z (G:Game) (w:World) (hG:GameOk w G) (hn:NearG G) (g:Sl ByteArray) (hW:GOk w g) (x:Sl (Sl Entr)) (hx:SlT (cSl cEntry) w x) (hxl:∀ j:Int,0≤j→j < x.l.length→(nth x.l j).l.length≤1000) (pen:Int) :
  Calls Tryz.prog 28 #[.agg #[G.rm.pls.v,G.rm.ths.v,G.rm.prs.v,G.rm.wys.v,G.rm.acs.v,G.rm.aus.v,.int .i64 G.rm.ply,G.rm.gl.v,G.lks.v,G.cds.v,G.nts.v,.int .i64 G.tr],x.v,.int .i64 pen] w (RetT cInt w (Jbb G.p (x.l.map Sl.l) pen).2 fun v=>.tuple #[v,.int .i64 (Jbb G.p (x.l.map Sl.l) pen).1]):=by
 by_cases hB:(Jag G.p).1=0
 ·
  exact J15 G w hG hn g hW x hx hxl pen hB
 exact J14 G w hG hn g hW x hx hxl pen hB
section
variable {α:Type} [Inhabited α] {p:α→Bool} {xs:List α} {j:Int}
theorem Jrp {β:Type} [Inhabited β] {f:α→β} (h0:0≤j) (h1:j < xs.length):nth (xs.map f) j=f (nth xs j):=by
 unfold nth
 rw [List.getD_eq_getElem?_getD,List.getD_eq_getElem?_getD,List.getElem?_map,List.getElem?_eq_getElem (by omega)]; rfl
end
theorem Jn8 {G:GP} {L:List (List Entr)} {pen n i:Int} (hE:(Jae G (nth L i)).1=0) (hp:0≤pen∧pen≤10000) (h0:0≤i) (h1:i < n) (hb:(Jae G (nth L i)).2.2.en = -1∨(0≤(Jae G (nth L i)).2.2.en∧(Jae G (nth L i)).2.2.en≤1000000)) (hh:0≤(Jae G (nth L i)).2.2.hi∧(Jae G (nth L i)).2.2.hi≤500) :
  ((Jbw G (nth L i) pen).1=0 ↔ finR G L i=true)∧((Jbw G (nth L i) pen).1=0→(Jbw G (nth L i) pen).2=scF G L pen n i):=by
 by_cases he:(Jae G (nth L i)).2.2.en < 0
 ·
  rw [Jii hE hp he]
  unfold finR
  simp [he]
 rw [Jkc hE hp he]
 have hf:finR G L i=true:=by unfold finR; simp [he]
 refine ⟨by simp [hf],fun _=>?_⟩
 unfold scF
 rw [if_pos ⟨h0,h1,hf⟩,Kaf hp hb hh]
theorem J6n (G:Game) (w:World) (hG:GameOk w G) (hn:NearG G) (x:Sl (Sl Entr)) (hx:SlT (cSl cEntry) w x) (pen:Int) :
  Calls Tryz.prog 30 #[.agg #[G.rm.pls.v,G.rm.ths.v,G.rm.prs.v,G.rm.wys.v,G.rm.acs.v,G.rm.aus.v,.int .i64 G.rm.ply,G.rm.gl.v,G.lks.v,G.cds.v,G.nts.v,.int .i64 G.tr],x.v,.int .i64 pen] w (RetT cInt w (Jbb G.p (x.l.map Sl.l) pen).2 fun v=>.tuple #[v,.int .i64 (Jbb G.p (x.l.map Sl.l) pen).1]):=by
 have lx:=hx.le
 have hml:((x.l.map Sl.l).length:Int)=x.l.length:=by rw [List.length_map]
 refine enter Tryz.func30 rfl rfl (Nat.le_of_ble_eq_true rfl) ?_
 refine Nz 0 ?_
 refine Wb 2 rfl rfl (fun _=>rfl) (fun _=>rfl) fun b3 hb3=>?_
 refine Wd (Qc (Nz 0 ?_))
 refine Wk 0 (Bb 0) ?_
 refine Wc rfl rfl J6g (fun u hu=>Jni G u (hG.st hu) hn) (fun _=>rfl) ?_; rintro ⟨rb,y⟩ ⟨hyx,uy,hyok⟩
 refine WS.unpack ?_
 refine Wz 5 ?_
 refine Wd (Qc (Cs (Nz 2 ?_)))
 refine Wd (Qc (CS.cond rfl ?_ ?_))<;>intro hc1<;>try simp only [bq] at hc1
 ·
  refine Nz 3 ?_
  refine Wd (Qc (Cr (Qr ?_)))
  exact out2 rfl rfl rfl (by
    have hv:(Jbb G.p (x.l.map Sl.l) pen)=((Jag G.p).1,[]):=Jxv hc1
    rw [hv]
    exact fun u hu=>Jgv (C:=cInt) (f:=fun v=>.tuple #[v,.int .i64 (Jag G.p).1]) hu)
 have hB:(Jag G.p).1=0:=hc1
 refine Ck (Qc (Cs (Nz 1 ?_)))
 refine Wk 1 Nc ?_
 refine Wd (Qc (CS.cond rfl ?_ ?_))<;>intro hc2<;>try simp only [bq] at hc2
 ·
  refine Nz 2 ?_
  refine Wd (Qc (Cr (Qr ?_)))
  exact out2 rfl rfl rfl (by
    have hv:(Jbb G.p (x.l.map Sl.l) pen)=(2,[]):=Jz7 hB (by omega)
    rw [hv]
    exact fun u hu=>Jgv (C:=cInt) (f:=fun v=>.tuple #[v,.int .i64 2]) hu)
 refine Ck (Qc (Cs (Nz 1 ?_)))
 refine Wd (Qc (Ce ?_))
 refine CS.sel [2] rfl ?_
 refine CS.loopM (σ:=Int) [6,7,11,12,30,31,32,33,34,35,36,37,38,39,40,41,42,43,44,45,46,47] (fun s=>[(10,.int .i64 s)]) (fun s=>[blk b3 [G.rm.pls.v,G.rm.ths.v,G.rm.prs.v,G.rm.wys.v,G.rm.acs.v,G.rm.aus.v,.int .i64 G.rm.ply,G.rm.gl.v,G.lks.v,G.cds.v,G.nts.v,.int .i64 G.tr] 36]) (fun s=>0≤s∧s≤x.l.length∧∀ j:Int,0≤j→j < s→(Jae G.p (nth (x.l.map Sl.l) j)).1=0) (fun s=>(x.l.length - s).toNat) 0 (fun _ _=>rfl) rfl rfl ⟨by omega,by omega,fun j j0 j1=>by omega⟩ ?_
 intro a t hs
 obtain ⟨ha1,ha2,ha3⟩:=hs
 refine Cs (Nz 2 ?_)
 refine Wk 1 Nc ?_
 refine Wd (Qc (CS.cond rfl ?_ ?_))<;>intro hc3<;>try simp only [bq] at hc3
 ·
  have hxs:SlT cEntry w (nth x.l a):=hx.at ha1 (by omega)
  refine Ck (Qc (Cs (Ce (Cs (Dr Jah 0 ?_)))))
  refine Dk 2 (Bb 0) ?_
  refine Dk 0 Xc ?_
  refine Dk 0 Ub ?_
  refine Dk 5 (Cb rfl rfl J1w (fun u hu=>Jfo G u (hG.st hu) hn (nth x.l a) (hxs.st hu))) ?_
  refine Dd (Qc (Nz 2 ?_))
  refine Wd (Qc (CS.cond rfl ?_ ?_))<;>intro hc4<;>try simp only [bq] at hc4
  ·
   have hE:¬ (Jae G.p (nth (x.l.map Sl.l) a)).1=0:=by rw [Jcl]; first | exact hc4 | simpa using hc4
   refine Nz 3 ?_
   refine Wd (Qc (Cr (Qs (Qr (Qr (Qs (Qr ?_)))))))
   exact out2 rfl rfl rfl (by
     have hel:=Jiv ha1 (by omega) ha3 hE
     rw [Jcl] at hel
     have hv:(Jbb G.p (x.l.map Sl.l) pen)=((Jae G.p (nth x.l a).l).1,[]):=(Jv9 hB (by omega) (by rw [hel]; simpa using hc4)).trans (by rw [hel])
     rw [hv]
     exact fun u hu=>Jgv (C:=cInt) (f:=fun v=>.tuple #[v,.int .i64 (Jae G.p (nth x.l a).l).1]) hu)
  have hE2:(Jae G.p (nth (x.l.map Sl.l) a)).1=0:=by rw [Jcl]; first | exact hc4 | simpa using hc4
  refine Ck (Qb (Qc (Ny 1 ?_)))
  refine Wk 1 Za ?_
  refine Wd ?_
  exact QS.head (a+1) rfl rfl ⟨⟨by omega,by omega,fun j j0 j1=>by
     rcases (show j < a∨j=a by omega) with h | h
     ·
      exact ha3 j j0 h
     rw [h]; exact hE2⟩,by omega⟩
 have hall:=Jhs.2 fun j j0 j1=>ha3 j j0 (by omega)
 refine Cv (Qe (Qe (Qx (Qc (Cs (Nz 1 ?_))))))
 refine Wk 1 (Cb rfl rfl Jv7 (fun u hu=>Jk2 _ _ _ u)) ?_
 refine Wd (Qc (CS.cond rfl ?_ ?_))<;>intro hc5<;>try simp only [bq] at hc5
 ·
  have hpn:¬ (0≤pen∧pen≤10000):=by have h9:=hc5; first | omega | (simp at h9; omega)
  refine Nz 2 ?_
  refine Wd (Qc (Cr (Qr ?_)))
  exact out2 rfl rfl rfl (by
    have hv:(Jbb G.p (x.l.map Sl.l) pen)=(1,[]):=Jyw hB (by omega) hall hpn
    rw [hv]
    exact fun u hu=>Jgv (C:=cInt) (f:=fun v=>.tuple #[v,.int .i64 1]) hu)
 have hpy:0≤pen∧pen≤10000:=by have h9:=hc5; first | omega | (simp at h9; omega)
 refine Ck (Qc (Nz 2 ?_))
 refine Wd (Qc (Cs (Nz 1 ?_)))
 refine Wd (Qc (Ce ?_))
 refine CS.weak (fun _ hu=>hu.osl0 (e:=3) (size:=1)) ?_
 refine CS.weak (fun _ hu=>hu.osl0 (e:=3) (size:=1)) ?_
 refine CS.loopM (σ:=Int × Value × Value × List Int) [16,17,18,51,52,53,54,55,56,57,58,59,60,61,62,63,64,65,66,67,68,69,70,71,72,73,74,75,76,77,78,79,80,81,82,83,84,85,86,87,88,89,90,91,92,93,94,95,96,97,98,99,100,101,102,103,104,105,106,107] (fun s=>[(15,.int .i64 s.1),(13,s.2.1),(14,s.2.2.1)]) (fun s=>[oints 3 s.2.1 s.2.2.2,oints 3 s.2.2.1 (List.map (scF G.p (x.l.map Sl.l) pen x.l.length) s.2.2.2),blk b3 [G.rm.pls.v,G.rm.ths.v,G.rm.prs.v,G.rm.wys.v,G.rm.acs.v,G.rm.aus.v,.int .i64 G.rm.ply,G.rm.gl.v,G.lks.v,G.cds.v,G.nts.v,.int .i64 G.tr] 36]) (fun s=>0≤s.1∧s.1≤x.l.length∧s.2.2.2=Jhj (scF G.p (x.l.map Sl.l) pen x.l.length) (filI s.1 (finR G.p (x.l.map Sl.l)))) (fun s=>(x.l.length - s.1).toNat) (0,.slice none 0 0,.slice none 0 0,[]) (fun _ _=>rfl) rfl rfl ⟨by simp,by simp,rfl⟩ ?_
 intro q t hs
 obtain ⟨hq0,hq2,hq3⟩:=hs
 have hfl:=Jrg (G:=G.p) (L:=(x.l.map Sl.l)) hq0
 have hrl:=(Jhn (key:=scF G.p (x.l.map Sl.l) pen x.l.length) (filI q.1 (finR G.p (x.l.map Sl.l)))).2.len
 rw [← hq3] at hrl
 have hml2:(List.map (scF G.p (x.l.map Sl.l) pen x.l.length) q.2.2.2).length=q.2.2.2.length:=List.length_map ..
 refine Cs (Nz 2 ?_)
 refine Wk 1 Nc ?_
 refine Wd (Qc (CS.cond rfl ?_ ?_))<;>intro hc6<;>try simp only [bq] at hc6
 ·
  have hq1:q.1 < x.l.length:=by omega
  have hxs:SlT cEntry w (nth x.l q.1):=hx.at hq0 (by omega)
  have hE2:=Jhs.1 hall q.1 hq0 (by omega)
  have hb2:=Jmg (G:=G) hE2
  obtain ⟨hsf1,hsf2⟩:=Jn8 (pen:=pen) (n:=x.l.length) hE2 hpy hq0 hq1 hb2.1 hb2.2
  rw [Jcl] at hsf1 hsf2
  refine Ck (Qc (Cs (Ce (Cs (Dr Jah 0 ?_)))))
  refine Dk 2 (Bb 2) ?_
  refine Dk 0 Xc ?_
  refine Dk 1 Ub ?_
  refine Dk 5 (Cb rfl rfl Kco (fun u hu=>Jp1 G u (hG.st hu) hn (nth x.l q.1) (hxs.st hu) pen)) ?_
  refine Dd (Qc (Cs (Nz 2 ?_)))
  refine Wd (Qc (CS.cond rfl ?_ ?_))<;>intro hc7<;>try simp only [bq] at hc7
  ·
   have hfi:¬ finR G.p (x.l.map Sl.l) q.1=true:=fun h9=>by have h8:=hsf1.2 h9; first | exact hc7 h8 | simp [h8] at hc7
   refine Cv (Qe (Qx (Qc (Ny 1 ?_))))
   refine Wk 1 Za ?_
   exact Wd (QS.head ((q.1+1,q.2.1,q.2.2.1,q.2.2.2)) rfl rfl ⟨⟨by simp; omega,by simp; omega,by rw [Jys hq0 hfi,hq3]⟩,by simp; omega⟩)
  have hS0:(Jbw G.p (nth x.l q.1).l pen).1=0:=by first | exact hc7 | simpa using hc7
  have hfi:=hsf1.1 hS0
  have hsc:=hsf2 hS0
  rw [hsc]
  refine Ck (Qc (Nz 1 ?_))
  refine Wk 1 (Nb 0) ?_
  refine Wd (Qc (Cs (Ce ?_)))
  refine CS.loopM (σ:=Int) [71,72,73,74,75,76,77,78,79,80,81,82,83] (fun s=>[(18,.int .i64 s)]) (fun _=>_) (fun s=>0≤s∧s≤q.2.2.2.length∧∀ j:Int,s≤j→j < q.2.2.2.length→(scF G.p (x.l.map Sl.l) pen x.l.length) q.1 < (scF G.p (x.l.map Sl.l) pen x.l.length) (nth q.2.2.2 j)) (fun s=>s.toNat) (q.2.2.2.length:Int) (fun _ _=>rfl) rfl rfl ⟨by omega,by omega,fun j j0 j1=>by omega⟩ ?_
  intro k t hs
  obtain ⟨hk1,hk2,hk2b⟩:=hs
  refine Cs (Nz 3 ?_)
  refine Wt 0 rfl rfl (fun hg=>Fm) ?_
  refine Wt 0 rfl rfl (fun hg=>Fm) ?_
  refine Wt 0 rfl rfl (fun hg=>Zb) ?_
  refine Wt 0 rfl rfl (fun hg=>Xb 1 (eg_ hg rfl)) ?_
  refine Wt 0 rfl rfl (fun hg=>Ib 1) ?_
  refine Wt 0 rfl rfl (fun hg=>Fm) ?_
  refine Wt 0 rfl rfl (fun hg=>Fg) ?_
  refine Wk 0 Pa ?_
  refine Wd (Qc (CS.cond rfl ?_ ?_))<;>intro hc8<;>try simp only [bq] at hc8
  ·
   have hk3:0 < k∧(scF G.p (x.l.map Sl.l) pen x.l.length) q.1 < nth (List.map (scF G.p (x.l.map Sl.l) pen x.l.length) q.2.2.2) (k - 1):=by first | exact hc8 | (simp at hc8; exact hc8)
   rw [Jrp (by omega) (by omega)] at hk3
   refine Ck (Qc (Ce (Ny 1 ?_)))
   refine Wk 1 Zb ?_
   refine Wd (Qb ?_)
   exact QS.head (k - 1) rfl rfl ⟨⟨by omega,by omega,fun j j0 j1=>by
      rcases (show j=k - 1∨k≤j by omega) with h | h
      ·
       rw [h]; exact hk3.2
      exact hk2b j h j1⟩,by omega⟩
  have hk3:k=0∨(scF G.p (x.l.map Sl.l) pen x.l.length) (nth q.2.2.2 (k - 1))≤(scF G.p (x.l.map Sl.l) pen x.l.length) q.1:=by
   by_cases hk0:k=0
   ·
    exact .inl hk0
   right
   have hk9:¬ (scF G.p (x.l.map Sl.l) pen x.l.length) q.1 < nth (List.map (scF G.p (x.l.map Sl.l) pen x.l.length) q.2.2.2) (k - 1):=by first | (simp [show 0 < k by omega] at hc8; omega) | grind
   rw [Jrp (by omega) (by omega)] at hk9; omega
  have hins:=J5t (key:=scF G.p (x.l.map Sl.l) pen x.l.length) (l:=q.2.2.2) (x:=q.1) hk1 (by omega) (by rw [hq3]; exact (Jhn _).1) hk2b hk3
  have htk:(q.2.2.2.drop k.toNat).take (q.2.2.2.length - k.toNat)=q.2.2.2.drop k.toNat:=List.take_of_length_le (by simp)
  refine Cv (Qe (Qe (Qx (Qc (Cs ?_)))))
  refine CS.drawnAll (k:=13) Jah rfl rfl ?_
  refine Ar [1,2] ?_
  refine Ak 3 [5,8,9] rfl (Jgg (j:=0) sl42 rfl rfl rfl (by omega) (by omega)) ?_
  refine Ak 10 [] rfl (Jec (j:=0) sl42 rfl rfl rfl (by omega) (by omega)) ?_
  refine AS.two (i:=0) (j:=6) (by kernel_rfl) rfl rfl (by first | exact fun _ h=>h | exact fun _ h=>h.sub (by repeat first | exact List.Sublist.refl _ | apply List.Sublist.cons_cons | apply List.Sublist.cons)) rfl rfl ?_ ?_
  ·
   refine WS.build0 sl42 zv3 (fun _=>rfl) ?_; intro v84
   refine Wd (Qa ?_)
   refine AS.two (i:=4) (j:=6) (by kernel_rfl) rfl rfl (by first | exact fun _ h=>h | exact fun _ h=>h.sub (by repeat first | exact List.Sublist.refl _ | apply List.Sublist.cons_cons | apply List.Sublist.cons)) rfl rfl ?_ ?_
   ·
    refine WS.append0 (j:=0) (news:=ints (q.2.2.2.take k.toNat)) (m:=(q.2.2.2.take k.toNat).length) sl42 zv3 rfl (by decide) rfl rfl rfl (fun u hu=>(show SlI u _ (q.2.2.2.take k.toNat) from (Jad hu (j:=1) rfl).sub2 (Nat.zero_le _) (by omega))) (fun a h=>by obtain ⟨z,_,rfl⟩:=List.mem_map.1 h; rfl) (by rw [List.length_take]; omega) (by rw [List.length_take]; omega) (fun _=>rfl) (fun _=>rfl) ?_; intro v88; refine WS.oc (j:=0) rfl (fun hv88=>?_)
    refine Wd (Qa ?_)
    refine Ao 6 rfl ?_
    refine WS.buildI1 sl42 zv3 rfl (fun _=>rfl) ?_; intro v90
    refine Wd (Qa ?_)
    refine Ao 7 rfl ?_
    refine WS.appendI (j:=1) (xs:=q.2.2.2.take k.toNat) (ys:=[q.1]) sl42 zv3 rfl rfl rfl (fun u hu=>Jad hu (j:=0) rfl) (by simp; omega) (by simp; omega) (fun _=>rfl) (fun _=>rfl) ?_; intro v91; refine WS.oc (j:=1) rfl (fun hv91=>?_)
    refine Wd (Qa ?_)
    refine Ao 11 rfl ?_
    refine WS.appendI (j:=1) (xs:=q.2.2.2.take k.toNat++[q.1]) (ys:=(q.2.2.2.drop k.toNat).take (q.2.2.2.length - k.toNat)) sl42 zv3 rfl rfl rfl (fun u hu=>(Jad hu (j:=2) rfl).sub2 (by omega) (by omega)) (by simp; omega) (by simp; omega) (fun _=>rfl) (fun _=>rfl) ?_; intro v95; refine WS.oc (j:=1) rfl (fun hv95=>?_)
    refine Wd (Qa ?_)
    refine Ar [12] ?_
    refine Ae ?_
    refine Qc ?_
    refine CS.drawnAll (k:=13) Jah rfl rfl ?_
    refine Ar [1,2] ?_
    refine Ak 3 [5,8,9] rfl (Jgg (j:=3) sl42 rfl rfl rfl (by omega) (by omega)) ?_
    refine Ak 10 [] rfl (Jec (j:=3) sl42 rfl rfl rfl (by omega) (by omega)) ?_
    refine AS.two (i:=0) (j:=6) (by kernel_rfl) rfl rfl (by first | exact fun _ h=>h | exact fun _ h=>h.sub (by repeat first | exact List.Sublist.refl _ | apply List.Sublist.cons_cons | apply List.Sublist.cons)) rfl rfl ?_ ?_
    ·
     refine WS.build0 sl42 zv3 (fun _=>rfl) ?_; intro v96
     refine Wd (Qa ?_)
     refine AS.two (i:=4) (j:=6) (by kernel_rfl) rfl rfl (by first | exact fun _ h=>h | exact fun _ h=>h.sub (by repeat first | exact List.Sublist.refl _ | apply List.Sublist.cons_cons | apply List.Sublist.cons)) rfl rfl ?_ ?_
     ·
      refine WS.append0 (j:=0) (news:=ints ((List.map (scF G.p (x.l.map Sl.l) pen x.l.length) q.2.2.2).take k.toNat)) (m:=((List.map (scF G.p (x.l.map Sl.l) pen x.l.length) q.2.2.2).take k.toNat).length) sl42 zv3 rfl (by decide) rfl rfl rfl (fun u hu=>(show SlI u _ ((List.map (scF G.p (x.l.map Sl.l) pen x.l.length) q.2.2.2).take k.toNat) from (Jad hu (j:=4) rfl).sub2 (Nat.zero_le _) (by omega))) (fun a h=>by obtain ⟨z,_,rfl⟩:=List.mem_map.1 h; rfl) (by rw [List.length_take]; omega) (by rw [List.length_take]; omega) (fun _=>rfl) (fun _=>rfl) ?_; intro v100; refine WS.oc (j:=0) rfl (fun hv100=>?_)
      refine Wd (Qa ?_)
      refine Ao 6 rfl ?_
      refine WS.buildI1 sl42 zv3 rfl (fun _=>rfl) ?_; intro v102
      refine Wd (Qa ?_)
      refine Ao 7 rfl ?_
      refine WS.appendI (j:=1) (xs:=(List.map (scF G.p (x.l.map Sl.l) pen x.l.length) q.2.2.2).take k.toNat) (ys:=[(scF G.p (x.l.map Sl.l) pen x.l.length) q.1]) sl42 zv3 rfl rfl rfl (fun u hu=>Jad hu (j:=0) rfl) (by simp; omega) (by simp; omega) (fun _=>rfl) (fun _=>rfl) ?_; intro v103; refine WS.oc (j:=1) rfl (fun hv103=>?_)
      refine Wd (Qa ?_)
      refine Ao 11 rfl ?_
      refine WS.appendI (j:=1) (xs:=(List.map (scF G.p (x.l.map Sl.l) pen x.l.length) q.2.2.2).take k.toNat++[(scF G.p (x.l.map Sl.l) pen x.l.length) q.1]) (ys:=((List.map (scF G.p (x.l.map Sl.l) pen x.l.length) q.2.2.2).drop k.toNat).take ((List.map (scF G.p (x.l.map Sl.l) pen x.l.length) q.2.2.2).length - k.toNat)) sl42 zv3 rfl rfl rfl (fun u hu=>(Jad hu (j:=5) rfl).sub2 (by omega) (by omega)) (by simp; omega) (by simp; omega) (fun _=>rfl) (fun _=>rfl) ?_; intro v107; refine WS.oc (j:=1) rfl (fun hv107=>?_)
      refine Wd (Qa ?_)
      refine Ar [12] ?_
      refine Ae ?_
      refine Qb (Qc (Ny 1 ?_))
      refine Wk 1 Za ?_
      refine Wd ?_
      refine QS.sel [3,1,4] rfl ?_
      refine QS.weak (fun _ hu=>hu) ?_
      exact QS.head ((q.1+1,v95,v107,q.2.2.2.take k.toNat++[q.1]++(q.2.2.2.drop k.toNat).take (q.2.2.2.length - k.toNat))) rfl (by show [_,_,_]=[_,_,_]; simp [List.map_take,List.map_drop]) ⟨⟨by simp; omega,by simp; omega,by rw [Jdm hq0 hfi,Jch, ← hq3,hins]; simp only [htk,List.append_assoc]; rfl⟩,by simp; omega⟩
     refine WS.buildI1 sl42 zv3 rfl (fun _=>rfl) ?_; intro v102
     refine Wd (Qa ?_)
     refine Ao 4 rfl ?_
     refine WS.append0 (j:=1) (news:=ints ((List.map (scF G.p (x.l.map Sl.l) pen x.l.length) q.2.2.2).take k.toNat)) (m:=((List.map (scF G.p (x.l.map Sl.l) pen x.l.length) q.2.2.2).take k.toNat).length) sl42 zv3 rfl (by decide) rfl rfl rfl (fun u hu=>(show SlI u _ ((List.map (scF G.p (x.l.map Sl.l) pen x.l.length) q.2.2.2).take k.toNat) from (Jad hu (j:=5) rfl).sub2 (Nat.zero_le _) (by omega))) (fun a h=>by obtain ⟨z,_,rfl⟩:=List.mem_map.1 h; rfl) (by rw [List.length_take]; omega) (by rw [List.length_take]; omega) (fun _=>rfl) (fun _=>rfl) ?_; intro v100; refine WS.oc (j:=1) rfl (fun hv100=>?_)
     refine Wd (Qa ?_)
     refine Ao 7 rfl ?_
     refine WS.appendI (j:=1) (xs:=(List.map (scF G.p (x.l.map Sl.l) pen x.l.length) q.2.2.2).take k.toNat) (ys:=[(scF G.p (x.l.map Sl.l) pen x.l.length) q.1]) sl42 zv3 rfl rfl rfl (fun u hu=>Jad hu (j:=0) rfl) (by simp; omega) (by simp; omega) (fun _=>rfl) (fun _=>rfl) ?_; intro v103; refine WS.oc (j:=1) rfl (fun hv103=>?_)
     refine Wd (Qa ?_)
     refine Ao 11 rfl ?_
     refine WS.appendI (j:=1) (xs:=(List.map (scF G.p (x.l.map Sl.l) pen x.l.length) q.2.2.2).take k.toNat++[(scF G.p (x.l.map Sl.l) pen x.l.length) q.1]) (ys:=((List.map (scF G.p (x.l.map Sl.l) pen x.l.length) q.2.2.2).drop k.toNat).take ((List.map (scF G.p (x.l.map Sl.l) pen x.l.length) q.2.2.2).length - k.toNat)) sl42 zv3 rfl rfl rfl (fun u hu=>(Jad hu (j:=5) rfl).sub2 (by omega) (by omega)) (by simp; omega) (by simp; omega) (fun _=>rfl) (fun _=>rfl) ?_; intro v107; refine WS.oc (j:=1) rfl (fun hv107=>?_)
     refine Wd (Qa ?_)
     refine Ar [12] ?_
     refine Ae ?_
     refine Qb (Qc (Ny 1 ?_))
     refine Wk 1 Za ?_
     refine Wd ?_
     refine QS.sel [3,1,4] rfl ?_
     refine QS.weak (fun _ hu=>hu) ?_
     exact QS.head ((q.1+1,v95,v107,q.2.2.2.take k.toNat++[q.1]++(q.2.2.2.drop k.toNat).take (q.2.2.2.length - k.toNat))) rfl (by show [_,_,_]=[_,_,_]; simp [List.map_take,List.map_drop]) ⟨⟨by simp; omega,by simp; omega,by rw [Jdm hq0 hfi,Jch, ← hq3,hins]; simp only [htk,List.append_assoc]; rfl⟩,by simp; omega⟩
    refine WS.buildI1 sl42 zv3 rfl (fun _=>rfl) ?_; intro v102
    refine Wd (Qa ?_)
    refine Ao 0 rfl ?_
    refine WS.build0 sl42 zv3 (fun _=>rfl) ?_; intro v96
    refine Wd (Qa ?_)
    refine Ao 4 rfl ?_
    refine WS.append0 (j:=0) (news:=ints ((List.map (scF G.p (x.l.map Sl.l) pen x.l.length) q.2.2.2).take k.toNat)) (m:=((List.map (scF G.p (x.l.map Sl.l) pen x.l.length) q.2.2.2).take k.toNat).length) sl42 zv3 rfl (by decide) rfl rfl rfl (fun u hu=>(show SlI u _ ((List.map (scF G.p (x.l.map Sl.l) pen x.l.length) q.2.2.2).take k.toNat) from (Jad hu (j:=5) rfl).sub2 (Nat.zero_le _) (by omega))) (fun a h=>by obtain ⟨z,_,rfl⟩:=List.mem_map.1 h; rfl) (by rw [List.length_take]; omega) (by rw [List.length_take]; omega) (fun _=>rfl) (fun _=>rfl) ?_; intro v100; refine WS.oc (j:=0) rfl (fun hv100=>?_)
    refine Wd (Qa ?_)
    refine Ao 7 rfl ?_
    refine WS.appendI (j:=0) (xs:=(List.map (scF G.p (x.l.map Sl.l) pen x.l.length) q.2.2.2).take k.toNat) (ys:=[(scF G.p (x.l.map Sl.l) pen x.l.length) q.1]) sl42 zv3 rfl rfl rfl (fun u hu=>Jad hu (j:=1) rfl) (by simp; omega) (by simp; omega) (fun _=>rfl) (fun _=>rfl) ?_; intro v103; refine WS.oc (j:=0) rfl (fun hv103=>?_)
    refine Wd (Qa ?_)
    refine Ao 11 rfl ?_
    refine WS.appendI (j:=0) (xs:=(List.map (scF G.p (x.l.map Sl.l) pen x.l.length) q.2.2.2).take k.toNat++[(scF G.p (x.l.map Sl.l) pen x.l.length) q.1]) (ys:=((List.map (scF G.p (x.l.map Sl.l) pen x.l.length) q.2.2.2).drop k.toNat).take ((List.map (scF G.p (x.l.map Sl.l) pen x.l.length) q.2.2.2).length - k.toNat)) sl42 zv3 rfl rfl rfl (fun u hu=>(Jad hu (j:=5) rfl).sub2 (by omega) (by omega)) (by simp; omega) (by simp; omega) (fun _=>rfl) (fun _=>rfl) ?_; intro v107; refine WS.oc (j:=0) rfl (fun hv107=>?_)
    refine Wd (Qa ?_)
    refine Ar [12] ?_
    refine Ae ?_
    refine Qb (Qc (Ny 1 ?_))
    refine Wk 1 Za ?_
    refine Wd ?_
    refine QS.sel [3,0,4] rfl ?_
    refine QS.weak (fun _ hu=>hu) ?_
    exact QS.head ((q.1+1,v95,v107,q.2.2.2.take k.toNat++[q.1]++(q.2.2.2.drop k.toNat).take (q.2.2.2.length - k.toNat))) rfl (by show [_,_,_]=[_,_,_]; simp [List.map_take,List.map_drop]) ⟨⟨by simp; omega,by simp; omega,by rw [Jdm hq0 hfi,Jch, ← hq3,hins]; simp only [htk,List.append_assoc]; rfl⟩,by simp; omega⟩
   refine WS.buildI1 sl42 zv3 rfl (fun _=>rfl) ?_; intro v90
   refine Wd (Qa ?_)
   refine Ao 4 rfl ?_
   refine WS.append0 (j:=1) (news:=ints (q.2.2.2.take k.toNat)) (m:=(q.2.2.2.take k.toNat).length) sl42 zv3 rfl (by decide) rfl rfl rfl (fun u hu=>(show SlI u _ (q.2.2.2.take k.toNat) from (Jad hu (j:=2) rfl).sub2 (Nat.zero_le _) (by omega))) (fun a h=>by obtain ⟨z,_,rfl⟩:=List.mem_map.1 h; rfl) (by rw [List.length_take]; omega) (by rw [List.length_take]; omega) (fun _=>rfl) (fun _=>rfl) ?_; intro v88; refine WS.oc (j:=1) rfl (fun hv88=>?_)
   refine Wd (Qa ?_)
   refine Ao 7 rfl ?_
   refine WS.appendI (j:=1) (xs:=q.2.2.2.take k.toNat) (ys:=[q.1]) sl42 zv3 rfl rfl rfl (fun u hu=>Jad hu (j:=0) rfl) (by simp; omega) (by simp; omega) (fun _=>rfl) (fun _=>rfl) ?_; intro v91; refine WS.oc (j:=1) rfl (fun hv91=>?_)
   refine Wd (Qa ?_)
   refine Ao 11 rfl ?_
   refine WS.appendI (j:=1) (xs:=q.2.2.2.take k.toNat++[q.1]) (ys:=(q.2.2.2.drop k.toNat).take (q.2.2.2.length - k.toNat)) sl42 zv3 rfl rfl rfl (fun u hu=>(Jad hu (j:=2) rfl).sub2 (by omega) (by omega)) (by simp; omega) (by simp; omega) (fun _=>rfl) (fun _=>rfl) ?_; intro v95; refine WS.oc (j:=1) rfl (fun hv95=>?_)
   refine Wd (Qa ?_)
   refine Ar [12] ?_
   refine Ae ?_
   refine Qc ?_
   refine CS.drawnAll (k:=13) Jah rfl rfl ?_
   refine Ar [1,2] ?_
   refine Ak 3 [5,8,9] rfl (Jgg (j:=3) sl42 rfl rfl rfl (by omega) (by omega)) ?_
   refine Ak 10 [] rfl (Jec (j:=3) sl42 rfl rfl rfl (by omega) (by omega)) ?_
   refine AS.two (i:=0) (j:=6) (by kernel_rfl) rfl rfl (by first | exact fun _ h=>h | exact fun _ h=>h.sub (by repeat first | exact List.Sublist.refl _ | apply List.Sublist.cons_cons | apply List.Sublist.cons)) rfl rfl ?_ ?_
   ·
    refine WS.build0 sl42 zv3 (fun _=>rfl) ?_; intro v96
    refine Wd (Qa ?_)
    refine AS.two (i:=4) (j:=6) (by kernel_rfl) rfl rfl (by first | exact fun _ h=>h | exact fun _ h=>h.sub (by repeat first | exact List.Sublist.refl _ | apply List.Sublist.cons_cons | apply List.Sublist.cons)) rfl rfl ?_ ?_
    ·
     refine WS.append0 (j:=0) (news:=ints ((List.map (scF G.p (x.l.map Sl.l) pen x.l.length) q.2.2.2).take k.toNat)) (m:=((List.map (scF G.p (x.l.map Sl.l) pen x.l.length) q.2.2.2).take k.toNat).length) sl42 zv3 rfl (by decide) rfl rfl rfl (fun u hu=>(show SlI u _ ((List.map (scF G.p (x.l.map Sl.l) pen x.l.length) q.2.2.2).take k.toNat) from (Jad hu (j:=4) rfl).sub2 (Nat.zero_le _) (by omega))) (fun a h=>by obtain ⟨z,_,rfl⟩:=List.mem_map.1 h; rfl) (by rw [List.length_take]; omega) (by rw [List.length_take]; omega) (fun _=>rfl) (fun _=>rfl) ?_; intro v100; refine WS.oc (j:=0) rfl (fun hv100=>?_)
     refine Wd (Qa ?_)
     refine Ao 6 rfl ?_
     refine WS.buildI1 sl42 zv3 rfl (fun _=>rfl) ?_; intro v102
     refine Wd (Qa ?_)
     refine Ao 7 rfl ?_
     refine WS.appendI (j:=1) (xs:=(List.map (scF G.p (x.l.map Sl.l) pen x.l.length) q.2.2.2).take k.toNat) (ys:=[(scF G.p (x.l.map Sl.l) pen x.l.length) q.1]) sl42 zv3 rfl rfl rfl (fun u hu=>Jad hu (j:=0) rfl) (by simp; omega) (by simp; omega) (fun _=>rfl) (fun _=>rfl) ?_; intro v103; refine WS.oc (j:=1) rfl (fun hv103=>?_)
     refine Wd (Qa ?_)
     refine Ao 11 rfl ?_
     refine WS.appendI (j:=1) (xs:=(List.map (scF G.p (x.l.map Sl.l) pen x.l.length) q.2.2.2).take k.toNat++[(scF G.p (x.l.map Sl.l) pen x.l.length) q.1]) (ys:=((List.map (scF G.p (x.l.map Sl.l) pen x.l.length) q.2.2.2).drop k.toNat).take ((List.map (scF G.p (x.l.map Sl.l) pen x.l.length) q.2.2.2).length - k.toNat)) sl42 zv3 rfl rfl rfl (fun u hu=>(Jad hu (j:=5) rfl).sub2 (by omega) (by omega)) (by simp; omega) (by simp; omega) (fun _=>rfl) (fun _=>rfl) ?_; intro v107; refine WS.oc (j:=1) rfl (fun hv107=>?_)
     refine Wd (Qa ?_)
     refine Ar [12] ?_
     refine Ae ?_
     refine Qb (Qc (Ny 1 ?_))
     refine Wk 1 Za ?_
     refine Wd ?_
     refine QS.sel [3,1,4] rfl ?_
     refine QS.weak (fun _ hu=>hu) ?_
     exact QS.head ((q.1+1,v95,v107,q.2.2.2.take k.toNat++[q.1]++(q.2.2.2.drop k.toNat).take (q.2.2.2.length - k.toNat))) rfl (by show [_,_,_]=[_,_,_]; simp [List.map_take,List.map_drop]) ⟨⟨by simp; omega,by simp; omega,by rw [Jdm hq0 hfi,Jch, ← hq3,hins]; simp only [htk,List.append_assoc]; rfl⟩,by simp; omega⟩
    refine WS.buildI1 sl42 zv3 rfl (fun _=>rfl) ?_; intro v102
    refine Wd (Qa ?_)
    refine Ao 4 rfl ?_
    refine WS.append0 (j:=1) (news:=ints ((List.map (scF G.p (x.l.map Sl.l) pen x.l.length) q.2.2.2).take k.toNat)) (m:=((List.map (scF G.p (x.l.map Sl.l) pen x.l.length) q.2.2.2).take k.toNat).length) sl42 zv3 rfl (by decide) rfl rfl rfl (fun u hu=>(show SlI u _ ((List.map (scF G.p (x.l.map Sl.l) pen x.l.length) q.2.2.2).take k.toNat) from (Jad hu (j:=5) rfl).sub2 (Nat.zero_le _) (by omega))) (fun a h=>by obtain ⟨z,_,rfl⟩:=List.mem_map.1 h; rfl) (by rw [List.length_take]; omega) (by rw [List.length_take]; omega) (fun _=>rfl) (fun _=>rfl) ?_; intro v100; refine WS.oc (j:=1) rfl (fun hv100=>?_)
    refine Wd (Qa ?_)
    refine Ao 7 rfl ?_
    refine WS.appendI (j:=1) (xs:=(List.map (scF G.p (x.l.map Sl.l) pen x.l.length) q.2.2.2).take k.toNat) (ys:=[(scF G.p (x.l.map Sl.l) pen x.l.length) q.1]) sl42 zv3 rfl rfl rfl (fun u hu=>Jad hu (j:=0) rfl) (by simp; omega) (by simp; omega) (fun _=>rfl) (fun _=>rfl) ?_; intro v103; refine WS.oc (j:=1) rfl (fun hv103=>?_)
    refine Wd (Qa ?_)
    refine Ao 11 rfl ?_
    refine WS.appendI (j:=1) (xs:=(List.map (scF G.p (x.l.map Sl.l) pen x.l.length) q.2.2.2).take k.toNat++[(scF G.p (x.l.map Sl.l) pen x.l.length) q.1]) (ys:=((List.map (scF G.p (x.l.map Sl.l) pen x.l.length) q.2.2.2).drop k.toNat).take ((List.map (scF G.p (x.l.map Sl.l) pen x.l.length) q.2.2.2).length - k.toNat)) sl42 zv3 rfl rfl rfl (fun u hu=>(Jad hu (j:=5) rfl).sub2 (by omega) (by omega)) (by simp; omega) (by simp; omega) (fun _=>rfl) (fun _=>rfl) ?_; intro v107; refine WS.oc (j:=1) rfl (fun hv107=>?_)
    refine Wd (Qa ?_)
    refine Ar [12] ?_
    refine Ae ?_
    refine Qb (Qc (Ny 1 ?_))
    refine Wk 1 Za ?_
    refine Wd ?_
    refine QS.sel [3,1,4] rfl ?_
    refine QS.weak (fun _ hu=>hu) ?_
    exact QS.head ((q.1+1,v95,v107,q.2.2.2.take k.toNat++[q.1]++(q.2.2.2.drop k.toNat).take (q.2.2.2.length - k.toNat))) rfl (by show [_,_,_]=[_,_,_]; simp [List.map_take,List.map_drop]) ⟨⟨by simp; omega,by simp; omega,by rw [Jdm hq0 hfi,Jch, ← hq3,hins]; simp only [htk,List.append_assoc]; rfl⟩,by simp; omega⟩
   refine WS.buildI1 sl42 zv3 rfl (fun _=>rfl) ?_; intro v102
   refine Wd (Qa ?_)
   refine Ao 0 rfl ?_
   refine WS.build0 sl42 zv3 (fun _=>rfl) ?_; intro v96
   refine Wd (Qa ?_)
   refine Ao 4 rfl ?_
   refine WS.append0 (j:=0) (news:=ints ((List.map (scF G.p (x.l.map Sl.l) pen x.l.length) q.2.2.2).take k.toNat)) (m:=((List.map (scF G.p (x.l.map Sl.l) pen x.l.length) q.2.2.2).take k.toNat).length) sl42 zv3 rfl (by decide) rfl rfl rfl (fun u hu=>(show SlI u _ ((List.map (scF G.p (x.l.map Sl.l) pen x.l.length) q.2.2.2).take k.toNat) from (Jad hu (j:=5) rfl).sub2 (Nat.zero_le _) (by omega))) (fun a h=>by obtain ⟨z,_,rfl⟩:=List.mem_map.1 h; rfl) (by rw [List.length_take]; omega) (by rw [List.length_take]; omega) (fun _=>rfl) (fun _=>rfl) ?_; intro v100; refine WS.oc (j:=0) rfl (fun hv100=>?_)
   refine Wd (Qa ?_)
   refine Ao 7 rfl ?_
   refine WS.appendI (j:=0) (xs:=(List.map (scF G.p (x.l.map Sl.l) pen x.l.length) q.2.2.2).take k.toNat) (ys:=[(scF G.p (x.l.map Sl.l) pen x.l.length) q.1]) sl42 zv3 rfl rfl rfl (fun u hu=>Jad hu (j:=1) rfl) (by simp; omega) (by simp; omega) (fun _=>rfl) (fun _=>rfl) ?_; intro v103; refine WS.oc (j:=0) rfl (fun hv103=>?_)
   refine Wd (Qa ?_)
   refine Ao 11 rfl ?_
   refine WS.appendI (j:=0) (xs:=(List.map (scF G.p (x.l.map Sl.l) pen x.l.length) q.2.2.2).take k.toNat++[(scF G.p (x.l.map Sl.l) pen x.l.length) q.1]) (ys:=((List.map (scF G.p (x.l.map Sl.l) pen x.l.length) q.2.2.2).drop k.toNat).take ((List.map (scF G.p (x.l.map Sl.l) pen x.l.length) q.2.2.2).length - k.toNat)) sl42 zv3 rfl rfl rfl (fun u hu=>(Jad hu (j:=5) rfl).sub2 (by omega) (by omega)) (by simp; omega) (by simp; omega) (fun _=>rfl) (fun _=>rfl) ?_; intro v107; refine WS.oc (j:=0) rfl (fun hv107=>?_)
   refine Wd (Qa ?_)
   refine Ar [12] ?_
   refine Ae ?_
   refine Qb (Qc (Ny 1 ?_))
   refine Wk 1 Za ?_
   refine Wd ?_
   refine QS.sel [3,0,4] rfl ?_
   refine QS.weak (fun _ hu=>hu) ?_
   exact QS.head ((q.1+1,v95,v107,q.2.2.2.take k.toNat++[q.1]++(q.2.2.2.drop k.toNat).take (q.2.2.2.length - k.toNat))) rfl (by show [_,_,_]=[_,_,_]; simp [List.map_take,List.map_drop]) ⟨⟨by simp; omega,by simp; omega,by rw [Jdm hq0 hfi,Jch, ← hq3,hins]; simp only [htk,List.append_assoc]; rfl⟩,by simp; omega⟩
  refine WS.buildI1 sl42 zv3 rfl (fun _=>rfl) ?_; intro v90
  refine Wd (Qa ?_)
  refine Ao 0 rfl ?_
  refine WS.build0 sl42 zv3 (fun _=>rfl) ?_; intro v84
  refine Wd (Qa ?_)
  refine Ao 4 rfl ?_
  refine WS.append0 (j:=0) (news:=ints (q.2.2.2.take k.toNat)) (m:=(q.2.2.2.take k.toNat).length) sl42 zv3 rfl (by decide) rfl rfl rfl (fun u hu=>(show SlI u _ (q.2.2.2.take k.toNat) from (Jad hu (j:=2) rfl).sub2 (Nat.zero_le _) (by omega))) (fun a h=>by obtain ⟨z,_,rfl⟩:=List.mem_map.1 h; rfl) (by rw [List.length_take]; omega) (by rw [List.length_take]; omega) (fun _=>rfl) (fun _=>rfl) ?_; intro v88; refine WS.oc (j:=0) rfl (fun hv88=>?_)
  refine Wd (Qa ?_)
  refine Ao 7 rfl ?_
  refine WS.appendI (j:=0) (xs:=q.2.2.2.take k.toNat) (ys:=[q.1]) sl42 zv3 rfl rfl rfl (fun u hu=>Jad hu (j:=1) rfl) (by simp; omega) (by simp; omega) (fun _=>rfl) (fun _=>rfl) ?_; intro v91; refine WS.oc (j:=0) rfl (fun hv91=>?_)
  refine Wd (Qa ?_)
  refine Ao 11 rfl ?_
  refine WS.appendI (j:=0) (xs:=q.2.2.2.take k.toNat++[q.1]) (ys:=(q.2.2.2.drop k.toNat).take (q.2.2.2.length - k.toNat)) sl42 zv3 rfl rfl rfl (fun u hu=>(Jad hu (j:=2) rfl).sub2 (by omega) (by omega)) (by simp; omega) (by simp; omega) (fun _=>rfl) (fun _=>rfl) ?_; intro v95; refine WS.oc (j:=0) rfl (fun hv95=>?_)
  refine Wd (Qa ?_)
  refine Ar [12] ?_
  refine Ae ?_
  refine Qc ?_
  refine CS.drawnAll (k:=13) Jah rfl rfl ?_
  refine Ar [1,2] ?_
  refine Ak 3 [5,8,9] rfl (Jgg (j:=3) sl42 rfl rfl rfl (by omega) (by omega)) ?_
  refine Ak 10 [] rfl (Jec (j:=3) sl42 rfl rfl rfl (by omega) (by omega)) ?_
  refine AS.two (i:=0) (j:=6) (by kernel_rfl) rfl rfl (by first | exact fun _ h=>h | exact fun _ h=>h.sub (by repeat first | exact List.Sublist.refl _ | apply List.Sublist.cons_cons | apply List.Sublist.cons)) rfl rfl ?_ ?_
  ·
   refine WS.build0 sl42 zv3 (fun _=>rfl) ?_; intro v96
   refine Wd (Qa ?_)
   refine AS.two (i:=4) (j:=6) (by kernel_rfl) rfl rfl (by first | exact fun _ h=>h | exact fun _ h=>h.sub (by repeat first | exact List.Sublist.refl _ | apply List.Sublist.cons_cons | apply List.Sublist.cons)) rfl rfl ?_ ?_
   ·
    refine WS.append0 (j:=0) (news:=ints ((List.map (scF G.p (x.l.map Sl.l) pen x.l.length) q.2.2.2).take k.toNat)) (m:=((List.map (scF G.p (x.l.map Sl.l) pen x.l.length) q.2.2.2).take k.toNat).length) sl42 zv3 rfl (by decide) rfl rfl rfl (fun u hu=>(show SlI u _ ((List.map (scF G.p (x.l.map Sl.l) pen x.l.length) q.2.2.2).take k.toNat) from (Jad hu (j:=4) rfl).sub2 (Nat.zero_le _) (by omega))) (fun a h=>by obtain ⟨z,_,rfl⟩:=List.mem_map.1 h; rfl) (by rw [List.length_take]; omega) (by rw [List.length_take]; omega) (fun _=>rfl) (fun _=>rfl) ?_; intro v100; refine WS.oc (j:=0) rfl (fun hv100=>?_)
    refine Wd (Qa ?_)
    refine Ao 6 rfl ?_
    refine WS.buildI1 sl42 zv3 rfl (fun _=>rfl) ?_; intro v102
    refine Wd (Qa ?_)
    refine Ao 7 rfl ?_
    refine WS.appendI (j:=1) (xs:=(List.map (scF G.p (x.l.map Sl.l) pen x.l.length) q.2.2.2).take k.toNat) (ys:=[(scF G.p (x.l.map Sl.l) pen x.l.length) q.1]) sl42 zv3 rfl rfl rfl (fun u hu=>Jad hu (j:=0) rfl) (by simp; omega) (by simp; omega) (fun _=>rfl) (fun _=>rfl) ?_; intro v103; refine WS.oc (j:=1) rfl (fun hv103=>?_)
    refine Wd (Qa ?_)
    refine Ao 11 rfl ?_
    refine WS.appendI (j:=1) (xs:=(List.map (scF G.p (x.l.map Sl.l) pen x.l.length) q.2.2.2).take k.toNat++[(scF G.p (x.l.map Sl.l) pen x.l.length) q.1]) (ys:=((List.map (scF G.p (x.l.map Sl.l) pen x.l.length) q.2.2.2).drop k.toNat).take ((List.map (scF G.p (x.l.map Sl.l) pen x.l.length) q.2.2.2).length - k.toNat)) sl42 zv3 rfl rfl rfl (fun u hu=>(Jad hu (j:=5) rfl).sub2 (by omega) (by omega)) (by simp; omega) (by simp; omega) (fun _=>rfl) (fun _=>rfl) ?_; intro v107; refine WS.oc (j:=1) rfl (fun hv107=>?_)
    refine Wd (Qa ?_)
    refine Ar [12] ?_
    refine Ae ?_
    refine Qb (Qc (Ny 1 ?_))
    refine Wk 1 Za ?_
    refine Wd ?_
    refine QS.sel [2,1,4] rfl ?_
    refine QS.weak (fun _ hu=>hu) ?_
    exact QS.head ((q.1+1,v95,v107,q.2.2.2.take k.toNat++[q.1]++(q.2.2.2.drop k.toNat).take (q.2.2.2.length - k.toNat))) rfl (by show [_,_,_]=[_,_,_]; simp [List.map_take,List.map_drop]) ⟨⟨by simp; omega,by simp; omega,by rw [Jdm hq0 hfi,Jch, ← hq3,hins]; simp only [htk,List.append_assoc]; rfl⟩,by simp; omega⟩
   refine WS.buildI1 sl42 zv3 rfl (fun _=>rfl) ?_; intro v102
   refine Wd (Qa ?_)
   refine Ao 4 rfl ?_
   refine WS.append0 (j:=1) (news:=ints ((List.map (scF G.p (x.l.map Sl.l) pen x.l.length) q.2.2.2).take k.toNat)) (m:=((List.map (scF G.p (x.l.map Sl.l) pen x.l.length) q.2.2.2).take k.toNat).length) sl42 zv3 rfl (by decide) rfl rfl rfl (fun u hu=>(show SlI u _ ((List.map (scF G.p (x.l.map Sl.l) pen x.l.length) q.2.2.2).take k.toNat) from (Jad hu (j:=5) rfl).sub2 (Nat.zero_le _) (by omega))) (fun a h=>by obtain ⟨z,_,rfl⟩:=List.mem_map.1 h; rfl) (by rw [List.length_take]; omega) (by rw [List.length_take]; omega) (fun _=>rfl) (fun _=>rfl) ?_; intro v100; refine WS.oc (j:=1) rfl (fun hv100=>?_)
   refine Wd (Qa ?_)
   refine Ao 7 rfl ?_
   refine WS.appendI (j:=1) (xs:=(List.map (scF G.p (x.l.map Sl.l) pen x.l.length) q.2.2.2).take k.toNat) (ys:=[(scF G.p (x.l.map Sl.l) pen x.l.length) q.1]) sl42 zv3 rfl rfl rfl (fun u hu=>Jad hu (j:=0) rfl) (by simp; omega) (by simp; omega) (fun _=>rfl) (fun _=>rfl) ?_; intro v103; refine WS.oc (j:=1) rfl (fun hv103=>?_)
   refine Wd (Qa ?_)
   refine Ao 11 rfl ?_
   refine WS.appendI (j:=1) (xs:=(List.map (scF G.p (x.l.map Sl.l) pen x.l.length) q.2.2.2).take k.toNat++[(scF G.p (x.l.map Sl.l) pen x.l.length) q.1]) (ys:=((List.map (scF G.p (x.l.map Sl.l) pen x.l.length) q.2.2.2).drop k.toNat).take ((List.map (scF G.p (x.l.map Sl.l) pen x.l.length) q.2.2.2).length - k.toNat)) sl42 zv3 rfl rfl rfl (fun u hu=>(Jad hu (j:=5) rfl).sub2 (by omega) (by omega)) (by simp; omega) (by simp; omega) (fun _=>rfl) (fun _=>rfl) ?_; intro v107; refine WS.oc (j:=1) rfl (fun hv107=>?_)
   refine Wd (Qa ?_)
   refine Ar [12] ?_
   refine Ae ?_
   refine Qb (Qc (Ny 1 ?_))
   refine Wk 1 Za ?_
   refine Wd ?_
   refine QS.sel [2,1,4] rfl ?_
   refine QS.weak (fun _ hu=>hu) ?_
   exact QS.head ((q.1+1,v95,v107,q.2.2.2.take k.toNat++[q.1]++(q.2.2.2.drop k.toNat).take (q.2.2.2.length - k.toNat))) rfl (by show [_,_,_]=[_,_,_]; simp [List.map_take,List.map_drop]) ⟨⟨by simp; omega,by simp; omega,by rw [Jdm hq0 hfi,Jch, ← hq3,hins]; simp only [htk,List.append_assoc]; rfl⟩,by simp; omega⟩
  refine WS.buildI1 sl42 zv3 rfl (fun _=>rfl) ?_; intro v102
  refine Wd (Qa ?_)
  refine Ao 0 rfl ?_
  refine WS.build0 sl42 zv3 (fun _=>rfl) ?_; intro v96
  refine Wd (Qa ?_)
  refine Ao 4 rfl ?_
  refine WS.append0 (j:=0) (news:=ints ((List.map (scF G.p (x.l.map Sl.l) pen x.l.length) q.2.2.2).take k.toNat)) (m:=((List.map (scF G.p (x.l.map Sl.l) pen x.l.length) q.2.2.2).take k.toNat).length) sl42 zv3 rfl (by decide) rfl rfl rfl (fun u hu=>(show SlI u _ ((List.map (scF G.p (x.l.map Sl.l) pen x.l.length) q.2.2.2).take k.toNat) from (Jad hu (j:=5) rfl).sub2 (Nat.zero_le _) (by omega))) (fun a h=>by obtain ⟨z,_,rfl⟩:=List.mem_map.1 h; rfl) (by rw [List.length_take]; omega) (by rw [List.length_take]; omega) (fun _=>rfl) (fun _=>rfl) ?_; intro v100; refine WS.oc (j:=0) rfl (fun hv100=>?_)
  refine Wd (Qa ?_)
  refine Ao 7 rfl ?_
  refine WS.appendI (j:=0) (xs:=(List.map (scF G.p (x.l.map Sl.l) pen x.l.length) q.2.2.2).take k.toNat) (ys:=[(scF G.p (x.l.map Sl.l) pen x.l.length) q.1]) sl42 zv3 rfl rfl rfl (fun u hu=>Jad hu (j:=1) rfl) (by simp; omega) (by simp; omega) (fun _=>rfl) (fun _=>rfl) ?_; intro v103; refine WS.oc (j:=0) rfl (fun hv103=>?_)
  refine Wd (Qa ?_)
  refine Ao 11 rfl ?_
  refine WS.appendI (j:=0) (xs:=(List.map (scF G.p (x.l.map Sl.l) pen x.l.length) q.2.2.2).take k.toNat++[(scF G.p (x.l.map Sl.l) pen x.l.length) q.1]) (ys:=((List.map (scF G.p (x.l.map Sl.l) pen x.l.length) q.2.2.2).drop k.toNat).take ((List.map (scF G.p (x.l.map Sl.l) pen x.l.length) q.2.2.2).length - k.toNat)) sl42 zv3 rfl rfl rfl (fun u hu=>(Jad hu (j:=5) rfl).sub2 (by omega) (by omega)) (by simp; omega) (by simp; omega) (fun _=>rfl) (fun _=>rfl) ?_; intro v107; refine WS.oc (j:=0) rfl (fun hv107=>?_)
  refine Wd (Qa ?_)
  refine Ar [12] ?_
  refine Ae ?_
  refine Qb (Qc (Ny 1 ?_))
  refine Wk 1 Za ?_
  refine Wd ?_
  refine QS.sel [2,0,4] rfl ?_
  refine QS.weak (fun _ hu=>hu) ?_
  exact QS.head ((q.1+1,v95,v107,q.2.2.2.take k.toNat++[q.1]++(q.2.2.2.drop k.toNat).take (q.2.2.2.length - k.toNat))) rfl (by show [_,_,_]=[_,_,_]; simp [List.map_take,List.map_drop]) ⟨⟨by simp; omega,by simp; omega,by rw [Jdm hq0 hfi,Jch, ← hq3,hins]; simp only [htk,List.append_assoc]; rfl⟩,by simp; omega⟩
 have hse:q.1=x.l.length:=by omega
 refine Cv (Qe (Qe (Qx (Qc (Nz 3 ?_)))))
 refine Wd (Qc (Cr ?_))
 exact out2 rfl rfl rfl (by
   have hv:(Jbb G.p (x.l.map Sl.l) pen)=(0,q.2.2.2):=(Jy3 hB (by omega) hall hpy).trans (by rw [hml,hq3,hse])
   rw [hv]
   exact fun u hu=>retT (C:=cInt) (f:=fun v=>.tuple #[v,.int .i64 0]) (e:=3) (j:=0) (fun _ _ _=>trivial) (congrArg some (Jse _ _ _)) hu)
theorem J6l (x:Sl (Sl Entr)) (w:World) (hx:SlT (cSl cEntry) w x) (hm:(x.l.length:Int)≤1000000) (hml:∀ j:Int,0≤j→j < x.l.length→((nth x.l j).l.length:Int)≤1000000) :
  Calls Tryz.prog 29 #[x.v] w (fun e w'=>∃ y:Sl (Sl Entr),(y.l.map Sl.l=x.l.map Sl.l∧∃ u0,SlT (cSl cEntry) u0 y)∧RetF w y.v (roT (cSl cEntry) y) e w'):=by
 have lx:=hx.le
 refine enter Tryz.func29 rfl rfl (Nat.le_of_ble_eq_true rfl) ?_
 refine Nz 1 ?_
 refine Wd (Qc (Nz 1 ?_))
 refine Wd (Qc (Cs (Nz 1 ?_)))
 refine Wd (Qc (Ce ?_))
 refine CS.weak (L':=(roS fun u=>∀ x∈([]:List (Sl Entr)),SlT cEntry u x)::oT (cSl cEntry) 67 (.slice none 0 0) []::_) (fun u hu=>St.roTrue (hu.osl0 (e:=67) (size:=1)) (p:=fun u=>∀ x∈([]:List (Sl Entr)),SlT cEntry u x) (fun u x h=>absurd h List.not_mem_nil)) ?_
 refine CS.loopM (σ:=Int × Value × List (Sl Entr)) [5,6,7,8,9,10,11,12,13,14,15,16,17,18] (fun s=>[(4,.int .i64 s.1),(3,s.2.1)]) (fun s=>[roS fun u=>∀ z∈s.2.2,SlT cEntry u z,oT (cSl cEntry) 67 s.2.1 s.2.2]) (fun s=>0≤s.1∧s.1≤x.l.length∧s.2.2.map Sl.l=(x.l.take s.1.toNat).map Sl.l) (fun s=>(x.l.length - s.1).toNat) (0,.slice none 0 0,[]) (fun _ _=>rfl) rfl rfl ⟨by simp,by simp,rfl⟩ ?_
 intro q t hs
 obtain ⟨hq1,hq2,hq3⟩:=hs
 have hql:q.2.2.length=q.1.toNat:=by have h9:=congrArg List.length hq3; rw [List.length_map,List.length_map,List.length_take] at h9; omega
 refine Cs (Nz 2 ?_)
 refine Wk 1 Nc ?_
 refine Wd (Qc (CS.cond rfl ?_ ?_))<;>intro hc1<;>try simp only [bq] at hc1
 ·
  have hxs:SlT cEntry w (nth x.l q.1):=hx.at hq1 (by omega)
  have hb9:=hml q.1 hq1 (by omega)
  refine Ck (Qc (Cs (Ce (Ny 3 ?_))))
  refine Wk 0 Xc ?_
  refine Wk 0 Ub ?_
  refine Wc rfl rfl Jhr (fun u hu=>Jb4 (nth x.l q.1) u (hxs.st hu) (by omega)) (fun _=>rfl) ?_; rintro v16 ⟨u16,h16⟩
  have o16:=(cSl cEntry).one u16 ⟨v16,(nth x.l q.1).l⟩ h16
  refine WS.buildSlice1 sl73 zv67 (vs:=[v16]) rfl rfl (by decide) (fun v h=>o16 v h) (fun _=>rfl) ?_; intro v17
  refine WS.appendT2 (C:=cSl cEntry) (a:=⟨v16,(nth x.l q.1).l⟩) (j:=3) (jz:=0) sl73 zv67 rfl (by decide) rfl rfl rfl rfl (fun v h=>o16 v h) (by omega) (by omega) (fun _=>rfl) (fun _=>rfl) ?_; intro v18 hv18
  refine Wz 1 ?_
  refine Wd (Qb (Qc (Ny 1 ?_)))
  refine Wk 1 Za ?_
  refine Wd ?_
  refine QS.sel [1,1,1] rfl ?_
  refine QS.weak (L':=(roS fun u=>∀ z∈q.2.2++[(⟨v16,(nth x.l q.1).l⟩:Sl Entr)],SlT cEntry u z)::_) (fun u hu=>St.ro2 (A:=roT cEntry ⟨v16,(nth x.l q.1).l⟩) (p:=fun u=>SlT cEntry u ⟨v16,(nth x.l q.1).l⟩) (fun S u h=>roS.now h) (fun S u h=>roS.now h) (fun u hp hq z hz=>by rcases List.mem_append.1 hz with h | h; exact hq z h; rw [List.mem_singleton.1 h]; exact hp) hu) ?_
  exact QS.head ((q.1+1,v18,q.2.2++[⟨v16,(nth x.l q.1).l⟩])) rfl rfl ⟨⟨by simp; omega,by simp; omega,by show (q.2.2++[_]).map Sl.l=_; rw [Jby hq1 (by omega),List.map_append,List.map_append,hq3]; rfl⟩,by simp; omega⟩
 have hta:x.l.take q.1.toNat=x.l:=List.take_of_length_le (by omega)
 rw [hta] at hq3
 refine Cv (Qe (Qe (Qx (Qc (Nz 2 ?_)))))
 exact Wd (Qc (Cr (out1 rfl rfl (fun u hu=>⟨⟨q.2.1,q.2.2⟩,⟨hq3,u,Jg1 (C:=cSl cEntry) hu (j:=1) rfl (hu.ro (j:=0) rfl)⟩,retR (fun S u h=>⟨Star.osl (j:=1) rfl h,Star.ro (j:=0) rfl h⟩) u hu⟩))))
end Go.Proofs.YtbboikncaihafaaGreatDoor
