/- Merged texts of this proof (walks and plain laws), printed by a program of the prover. -/
import Derived.Test.YtfbfdnoodccgiaaGreatDoorXb
set_option maxHeartbeats 8000000
namespace Go.Proofs.YtfbfdnoodccgiaaGreatDoor
open Go.RowKit Go.Proofs
set_option maxRecDepth 100000
set_option linter.unusedVariables false
set_option linter.unusedSimpArgs false
theorem St.out2 {n0:Nat} {w0 u:World} {A B:List SA} {t a:SA} (h:St n0 w0 (A++[t,a]++B) u):St n0 w0 [t,a,Go.Proofs.YtfbfdnoodccgiaaGreatDoor.star (A++B)] u:=by
 have h1:St n0 w0 ((A++B)++[t,a]) u:=h.perm (by
  rw [List.append_assoc,List.append_assoc]
  exact List.Perm.append_left A List.perm_append_comm)
 have h2:=h1.pack
 exact h2.perm (by
  show ([Go.Proofs.YtfbfdnoodccgiaaGreatDoor.star (A++B)]++[t,a]).Perm ([t,a]++[Go.Proofs.YtfbfdnoodccgiaaGreatDoor.star (A++B)])
  exact List.perm_append_comm)
theorem St.in2 {n0:Nat} {w0 u:World} {A B:List SA} {t a:SA} (h:St n0 w0 [t,a,Go.Proofs.YtfbfdnoodccgiaaGreatDoor.star (A++B)] u):St n0 w0 (A++[t,a]++B) u:=by
 have h1:St n0 w0 (Go.Proofs.YtfbfdnoodccgiaaGreatDoor.star (A++B)::[t,a]) u:=h.perm (by
  show ([t,a]++[Go.Proofs.YtfbfdnoodccgiaaGreatDoor.star (A++B)]).Perm ([Go.Proofs.YtfbfdnoodccgiaaGreatDoor.star (A++B)]++[t,a])
  exact List.perm_append_comm)
 have h2:=h1.unpack
 exact h2.perm (by
  rw [List.append_assoc,List.append_assoc]
  exact List.Perm.append_left A List.perm_append_comm)
theorem Jwo {w u:World} (A B:List SA) (G:Game) (hG:GameOk w G) (hn:NearG G) (g:Sl ByteArray) (hW:GOk w g) (fb:Nat) (y:Pos) (f:Film) (hyx:y.x=f.x) (hq:posG G.p f.x=0) (m:Move) (hu:St w.heap.size w (A++[blk fb [G.rm.pls.v,G.rm.ths.v,G.rm.prs.v,G.rm.wys.v,G.rm.acs.v,G.rm.aus.v,.int .i64 G.rm.ply,G.rm.gl.v,G.lks.v,G.cds.v,G.nts.v,.int .i64 G.tr,y.st.ths.v,y.st.prs.v,y.st.pls.v,y.rd.v,.bool f.st,.int .i64 f.si,.int .i64 f.pa,.int .i64 f.en,.int .i64 f.hi] 99,roS fun u=>PosOk u y]++B) u) :
  Calls Tryz.prog 32 #[.pointer (some ⟨fb,0,none⟩),.agg #[.int .i64 m.p,.int .i64 m.k,.int .i64 m.n]] u (fun e u'=>∃ z:Pos,(z.x=(if (Jam G.p f.x m).1=0 then (Jam G.p f.x m).2 else f.x)∧∃ u0,PosOk u0 z)∧e = .returned (.bool (decide ((Jam G.p f.x m).1=0)))∧St w.heap.size w (A++[blk fb [G.rm.pls.v,G.rm.ths.v,G.rm.prs.v,G.rm.wys.v,G.rm.acs.v,G.rm.aus.v,.int .i64 G.rm.ply,G.rm.gl.v,G.lks.v,G.cds.v,G.nts.v,.int .i64 G.tr,z.st.ths.v,z.st.prs.v,z.st.pls.v,z.rd.v,.bool f.st,.int .i64 f.si,.int .i64 f.pa,.int .i64 f.en,.int .i64 f.hi] 99,roS fun u=>PosOk u z]++B) u'):=by
 refine Calls.mono (Jzz (star (A++B)) G hG hn g hW fb y f hyx hq m hu.out2) ?_
 rintro e u' ⟨z,h1,h2,h3⟩
 exact ⟨z,h1,h2,h3.in2⟩
theorem Jvj {α:Type} [Inhabited α] {P:Program} {n0:Nat} {w0:World} {L:List SA} {l:List Value} {d:Option Tmp} {ty:TypeId} {ps:String} {af:Array Edge} {g:Option (Nat × Bool)} {C:Cel α} {X:World→Prop} {T:TypeId} {z:Nat} (jj:Nat) {x:Operand} {y:Value} {s:Sl α} {i:Int}
  (hj':L[jj]? = some (roS X)) (hX:∀ u,X u→SlT C u s) (hx:evo l x=some (.pointer (some (sla s.v (i.toNat * 1))))) (hk:C.k=1) (h:0≤i∧i < s.l.length)
  (hc:(C.cells (nth s.l i))[0]? = some y) (hT:tk P T=some (false,z)):Det P (St n0 w0 L) ⟨d,.load T x,ty,ps,af,g⟩ l y:=by
 exact Jcu (k:=1) hx (fun _ hu=>hk ▸ (hX _ (St.ro hj' hu)).sp) (by have:=Jcf C h.1 h.2 0 (by omega); rw [hk,Nat.add_zero] at this; rw [this]; exact hc) hT
end Go.Proofs.YtfbfdnoodccgiaaGreatDoor
