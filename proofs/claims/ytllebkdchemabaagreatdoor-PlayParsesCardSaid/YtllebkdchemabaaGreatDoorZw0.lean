/- Merged texts of this proof. -/
import Derived.Test.YtllebkdchemabaaGreatDoorZb2
set_option maxHeartbeats 8000000
namespace Go.Proofs.YtllebkdchemabaaGreatDoor
open Go.RowKit Go.Proofs
set_option maxRecDepth 100000
set_option linter.unusedVariables false
set_option linter.unusedSimpArgs false
section
variable {P:Program} {ro:Option Nat} {n0:Nat} {w0:World} {ds:List Deferred} {ops:Array Oper} {Q:Exit->Act->World->Prop} {L:List SA} {rest:List Oper} {l:List Value} {d:Option Tmp} {ty:TypeId} {ps:String} {af:Array Edge} {g:Option (Nat×Bool)}
 {α:Type} {C:Cel α}
theorem WS.appendT2 {T e:TypeId} {by_ i j jz:Nat} {x y:Operand} {v z:Value} {a:α} {xs:List α} {zc:List Value} (hT:sl P T=some (e,C.k,by_)) (hz:zv P e=some zc) (hzl:zc.length=C.k) (hk:0<C.k)
  (hx:evo l x=some v) (hj:L[j]? = some (oT C e v xs)) (hy:evo l y=some z) (hjz:L[jz]? = some (oT C e z [a])) (h1:∀b∈C.cells a,b.oneCell'=true)
  (hm:xs.length+1<=9223372036854775807) (hb:(xs.length+1)*by_<=140737488355328)
  {l':Value->List Value} (hl:∀v,lset l i v=some (l' v)) {L':Value->List SA} (hL:∀v',lset L j (oT C e v' (xs++[a]))=some (L' v')) (k:∀v',v'.oneCell'=true->WS P ro n0 w0 ds ops Q (L' v') rest (l' v')):
  WS P ro n0 w0 ds ops Q L (⟨some i,.call ⟨.builtin .append,#[x,y],#[T,T]⟩,ty,ps,af,none⟩::rest) l:=by
 refine WS.append hT hz hzl hk hx hj hy (m:=1) (fun u hu=>BZ hu hjz) (fun b hb'=>?_) hm hb hl (L':=L') (fun v'=>?_) fun v'=>?_
 ·rw[Iv]at hb';exact h1 b hb'
 ·rw[<-hL v',oT,FP];simp
 have hjl:=(List.getElem?_eq_some_iff.1 hj).1;have h2:=(Aq (hL v')).symm;refine WS.oc (j:=j) (v:=v') (e:=e) (k:=C.k) (n:=(xs++[a]).length) (xs:=A1 C (xs++[a])) (by rw[h2,List.getElem?_set_self hjl];rfl) (k v')
variable [Inhabited α]
theorem Lx {T e:TypeId} {k j:Nat} (f:Nat) {x:Operand} {v:Value} {i:Int} {xs:List α} (cs:List Value) (hj:L[j]? = some (oT C e v xs)) (hx:evo l x=some (.pointer (some ⟨slb v,slo v+i.toNat*k+f,none⟩))) (hk:C.k=k) (h:0<=i/\i<xs.length) (hm:f+cs.length<=k)
  (hc:((C.cells (nth xs i)).drop f).take cs.length=cs) (hT:tk P T=some (true,cs.length)):Det P (St n0 w0 L) ⟨d,.load T x,ty,ps,af,g⟩ l (.agg cs.toArray):=by
 subst hk;refine DX (v:=v) (m:=i.toNat*C.k+f) (by rw[hx,sla,Nat.add_assoc]) (fun _ hu=>BZ hu hj) (fun jj y hy=>?_) hT;have hjj:jj<cs.length:=(List.getElem?_eq_some_iff.1 hy).1;rw[<-hc,List.getElem?_take,if_pos hjj,List.getElem?_drop]at hy;rw[Nat.add_assoc,BW C h.1 h.2 (f+jj) (by omega)];exact hy
end
end Go.Proofs.YtllebkdchemabaaGreatDoor
