/- Merged texts of this proof (walks and plain laws), printed by a program of the prover. -/
import Derived.Test.YtfbfdnoodccgiaaGreatDoorXc
set_option maxHeartbeats 8000000
namespace Go.Proofs.YtfbfdnoodccgiaaGreatDoor
open Go.RowKit Go.Proofs
set_option maxRecDepth 100000
set_option linter.unusedVariables false
set_option linter.unusedSimpArgs false
def Jdc (t:Int) (old new:List Int) (k:Int):List Entr:=((Jc4 k.toNat).filter fun j => !decide (nth new j=nth old j)).map fun j=>⟨t,5,mv0,j,nth new j⟩
theorem Jpy {t:Int} {old new:List Int} {k:Int} (h:k=new.length):Jdc t old new k=Joh t old new:=by subst h; rfl
theorem Jih {t:Int} {old new:List Int} {k:Int} (h0:0≤k) (h:¬ nth new k=nth old k):Jdc t old new k++[⟨t,5,mv0,k,nth new k⟩]=Jdc t old new (k+1):=by
 unfold Jdc
 rw [Je3 h0,List.filter_append,List.map_append,List.filter_cons,if_pos (by rw [decide_eq_false h]; rfl)]; rfl
theorem Jjt {t:Int} {old new:List Int} {k:Int} (h0:0≤k) (h:nth new k=nth old k):Jdc t old new k=Jdc t old new (k+1):=by
 unfold Jdc
 rw [Je3 h0,List.filter_append,List.filter_cons,if_neg (by rw [decide_eq_true h]; decide)]; simp
theorem Jio {t:Int} {old new:List Int} {k:Int}:(Jdc t old new k).length≤k.toNat:=by
 unfold Jdc
 rw [List.length_map]
 exact Nat.le_trans (List.length_filter_le _ _) (by rw [Ju1]; exact Nat.le_refl _)
theorem Jn7 {G:GP} {m:Timed} {ms:List Timed} {i last:Int} {x:PX} {out:List Entr} (ht:last≤m.t∧m.t≤1000000) (hs:(Jam G x m.m).1=0) :
  recF G (m::ms) i last x out=recF G ms (i+1) m.t (Jam G x m.m).2 (out++⟨m.t,1,m.m,0,0⟩::Joh m.t x.1.1 (Jam G x m.m).2.1.1):=by
 rw [recF,if_pos (by simpa using ht),if_pos hs]
theorem Jsc {G:GP} {m:Timed} {ms:List Timed} {i last:Int} {x:PX} {out:List Entr} (ht:last≤m.t∧m.t≤1000000) (hs:¬ (Jam G x m.m).1=0):recF G (m::ms) i last x out=(29,i,[],x):=by
 rw [recF,if_pos (by simpa using ht),if_neg hs]
theorem Juy {G:GP} {m:Timed} {ms:List Timed} {i last:Int} {x:PX} {out:List Entr} (ht:¬ (last≤m.t∧m.t≤1000000)):recF G (m::ms) i last x out=(1,i,[],x):=by
 rw [recF,if_neg (by simpa using ht)]
theorem Jv3 {G:GP} {ms:List Timed} (h:¬ (Jal G).1=0):Jay G ms=((Jal G).1,0,[]):=if_neg h
theorem Joo {G:GP} {ms:List Timed} {e i:Int} {o:List Entr} {x:PX} (h:(Jal G).1=0) (he:¬ e=0) (hr:recF G ms 0 0 (Jal G).2 []=(e,i,o,x)):Jay G ms=(e,i,[]):=by
 unfold Jay; rw [if_pos h,hr]; exact if_neg he
theorem Jwy {G:GP} {ms:List Timed} {o:List Entr} {x:PX} (h:(Jal G).1=0) (hr:recF G ms 0 0 (Jal G).2 []=(0,0,o,x)) (hl:500 < (o.length:Int)):Jay G ms=(2,0,[]):=by
 unfold Jay; rw [if_pos h,hr]; exact (if_pos rfl).trans (if_pos hl)
theorem Jop {G:GP} {ms:List Timed} {o:List Entr} {x:PX} (h:(Jal G).1=0) (hr:recF G ms 0 0 (Jal G).2 []=(0,0,o,x)) (hl:¬ 500 < (o.length:Int)):Jay G ms=(0,0,o):=by
 unfold Jay; rw [if_pos h,hr]; exact (if_pos rfl).trans (if_neg hl)
end Go.Proofs.YtfbfdnoodccgiaaGreatDoor
