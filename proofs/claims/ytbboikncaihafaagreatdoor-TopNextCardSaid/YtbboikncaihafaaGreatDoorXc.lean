/- Merged texts of this proof (walks and plain laws), printed by a program of the prover. -/
import Derived.Test.YtbboikncaihafaaGreatDoorXb
set_option maxHeartbeats 8000000
namespace Go.Proofs.YtbboikncaihafaaGreatDoor
open Go.RowKit Go.Proofs
set_option maxRecDepth 100000
set_option linter.unusedVariables false
set_option linter.unusedSimpArgs false
theorem St.out2 {n0:Nat} {w0 u:World} {A B:List SA} {t a:SA} (h:St n0 w0 (A++[t,a]++B) u):St n0 w0 [t,a,Go.Proofs.YtbboikncaihafaaGreatDoor.star (A++B)] u:=by
 have h1:St n0 w0 ((A++B)++[t,a]) u:=h.perm (by
  rw [List.append_assoc,List.append_assoc]
  exact List.Perm.append_left A List.perm_append_comm)
 have h2:=h1.pack
 exact h2.perm (by
  show ([Go.Proofs.YtbboikncaihafaaGreatDoor.star (A++B)]++[t,a]).Perm ([t,a]++[Go.Proofs.YtbboikncaihafaaGreatDoor.star (A++B)])
  exact List.perm_append_comm)
theorem Jsr {α:Type} [Inhabited α] {P:Program} {n0:Nat} {w0:World} {L:List SA} {l:List Value} {d:Option Tmp} {ty:TypeId} {ps:String} {af:Array Edge} {g:Option (Nat × Bool)} {C:Cel α} {X:World→Prop} {T:TypeId} {z:Nat} (jj:Nat) {x:Operand} {y:Value} {s:Sl α} {i:Int}
  (hj':L[jj]? = some (roS X)) (hX:∀ u,X u→SlT C u s) (hx:evo l x=some (.pointer (some (sla s.v (i.toNat * 1))))) (hk:C.k=1) (h:0≤i∧i < s.l.length)
  (hc:(C.cells (nth s.l i))[0]? = some y) (hT:tk P T=some (false,z)):Det P (St n0 w0 L) ⟨d,.load T x,ty,ps,af,g⟩ l y:=by
 exact Jcg (k:=1) hx (fun _ hu=>hk ▸ (hX _ (St.ro hj' hu)).sp) (by have:=Jch C h.1 h.2 0 (by omega); rw [hk,Nat.add_zero] at this; rw [this]; exact hc) hT
end Go.Proofs.YtbboikncaihafaaGreatDoor
