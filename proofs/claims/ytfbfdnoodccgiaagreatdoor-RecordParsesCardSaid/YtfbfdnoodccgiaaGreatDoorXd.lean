/- Merged texts of this proof (walks and plain laws), printed by a program of the prover. -/
import Derived.Test.YtfbfdnoodccgiaaGreatDoorXc
set_option maxHeartbeats 8000000
namespace Go.Proofs.YtfbfdnoodccgiaaGreatDoor
open Go.RowKit Go.Proofs
set_option maxRecDepth 100000
set_option linter.unusedVariables false
set_option linter.unusedSimpArgs false
def Jc3 (t:Int) (old new:List Int) (k:Int):List Entr:=((Jcy k.toNat).filter fun j => !decide (nth new j=nth old j)).map fun j=>⟨t,5,mv0,j,nth new j⟩
theorem Jou {t:Int} {old new:List Int} {k:Int} (h:k=new.length):Jc3 t old new k=Jmh t old new:=by subst h; rfl
theorem Jhj {t:Int} {old new:List Int} {k:Int} (h0:0≤k) (h:¬ nth new k=nth old k):Jc3 t old new k++[⟨t,5,mv0,k,nth new k⟩]=Jc3 t old new (k+1):=by
 unfold Jc3
 rw [Jek h0,List.filter_append,List.map_append,List.filter_cons,if_pos (by rw [decide_eq_false h]; rfl)]; rfl
theorem Ji4 {t:Int} {old new:List Int} {k:Int} (h0:0≤k) (h:nth new k=nth old k):Jc3 t old new k=Jc3 t old new (k+1):=by
 unfold Jc3
 rw [Jek h0,List.filter_append,List.filter_cons,if_neg (by rw [decide_eq_true h]; decide)]; simp
theorem Jh4 {t:Int} {old new:List Int} {k:Int}:(Jc3 t old new k).length≤k.toNat:=by
 unfold Jc3
 rw [List.length_map]
 exact Nat.le_trans (List.length_filter_le _ _) (by rw [Jt2]; exact Nat.le_refl _)
theorem Jnz {G:GP} {m:Timed} {ms:List Timed} {i last:Int} {x:PX} {out:List Entr} (ht:last≤m.t∧m.t≤1000000) (hs:(Jal G x m.m).1=0) :
  recF G (m::ms) i last x out=recF G ms (i+1) m.t (Jal G x m.m).2 (out++⟨m.t,1,m.m,0,0⟩::Jmh m.t x.1.1 (Jal G x m.m).2.1.1):=by
 rw [recF,if_pos (by simpa using ht),if_pos hs]
theorem Jp2 {G:GP} {m:Timed} {ms:List Timed} {i last:Int} {x:PX} {out:List Entr} (ht:last≤m.t∧m.t≤1000000) (hs:¬ (Jal G x m.m).1=0):recF G (m::ms) i last x out=(29,i,[],x):=by
 rw [recF,if_pos (by simpa using ht),if_neg hs]
theorem Jsr {G:GP} {m:Timed} {ms:List Timed} {i last:Int} {x:PX} {out:List Entr} (ht:¬ (last≤m.t∧m.t≤1000000)):recF G (m::ms) i last x out=(1,i,[],x):=by
 rw [recF,if_neg (by simpa using ht)]
theorem Jvw {G:GP} {ms:List Timed} (h:¬ (Jak G).1=0):Jay G ms=((Jak G).1,0,[]):=if_neg h
theorem Jmm {G:GP} {ms:List Timed} {e i:Int} {o:List Entr} {x:PX} (h:(Jak G).1=0) (he:¬ e=0) (hr:recF G ms 0 0 (Jak G).2 []=(e,i,o,x)):Jay G ms=(e,i,[]):=by
 unfold Jay; rw [if_pos h,hr]; exact if_neg he
theorem Jtl {G:GP} {ms:List Timed} {o:List Entr} {x:PX} (h:(Jak G).1=0) (hr:recF G ms 0 0 (Jak G).2 []=(0,0,o,x)) (hl:500 < (o.length:Int)):Jay G ms=(2,0,[]):=by
 unfold Jay; rw [if_pos h,hr]; exact (if_pos rfl).trans (if_pos hl)
theorem Jnd {G:GP} {ms:List Timed} {o:List Entr} {x:PX} (h:(Jak G).1=0) (hr:recF G ms 0 0 (Jak G).2 []=(0,0,o,x)) (hl:¬ 500 < (o.length:Int)):Jay G ms=(0,0,o):=by
 unfold Jay; rw [if_pos h,hr]; exact (if_pos rfl).trans (if_neg hl)
end Go.Proofs.YtfbfdnoodccgiaaGreatDoor
