/- Merged texts of this proof (walks and plain laws), printed by a program of the prover. -/
import Derived.Test.YtbboikncaihafaaGreatDoorXl
import Derived.Test.YtbboikncaihafaaGreatDoorZe
import Derived.Test.YtbboikncaihafaaGreatDoorZu
set_option maxHeartbeats 8000000
namespace Go.Proofs.YtbboikncaihafaaGreatDoor
open Go.RowKit Go.Proofs
set_option maxRecDepth 100000
set_option linter.unusedVariables false
set_option linter.unusedSimpArgs false
def Ji4:List Clue:=[⟨2,0,1,4,0,[],false⟩]
theorem J0s {u:World} {v:Value} (h:SlC u v 1 7 (Jbv Ji4 [.slice none 0 0])):ClS u v Ji4 [.slice none 0 0]:=⟨h,rfl,fun i h0 h1=>by
 have h2:i < 1:=h1
 obtain rfl:i=0:=by omega
 exact SlI.nil u⟩
def lgP:Int→List Thing→Option Int
 | n,[]=>some n
 | n,t::l=>if 400 < wr (n * t.st) then none else lgP (wr (n * t.st)) l
noncomputable def largeB (r:Room):Bool :=
 if (!clB (Near r) || !decide (checkE r=0))=true then !clB (Near r)
 else match lgP r.pls.l.length r.ths.l with
  | none=>true
  | some n=>(decide (4 < (r.pls.l.length:Int)) || decide (3 < (r.prs.l.length:Int))) || decide (3200 < wr (n * 8))
theorem Jsh {n:Int} {l:List Thing} {i:Int} (h0:0≤i) (h1:i < l.length):lgP n (l.drop i.toNat)=if 400 < wr (n * (nth l i).st) then none else lgP (wr (n * (nth l i).st)) (l.drop (i+1).toNat):=by
 rw [Jdi h0 h1]; rfl
theorem Jgp (w:World):Calls Tryz.prog 9 #[] w (RetB w (.bool true)):=by
 refine enter Tryz.func9 rfl rfl (Nat.le_of_ble_eq_true rfl) ?_
 refine Nz 1 ?_
 refine Wd (Qc (Nz 0 ?_))
 refine Wk 0 (Db J0q zv90) ?_
 refine Wk 0 (Db Jyg zv92) ?_
 refine WS.buildSliceK sl99 zv92 (rows:=[[.int .i64 2,.int .i64 0,.int .i64 1,.int .i64 4,.int .i64 0,.slice none 0 0,.bool false]]) rfl rfl (by decide) (by decide) (by simp) (fun _=>rfl) ?_; intro v6
 refine Wk 5 (Cb rfl rfl Jx2 (fun u hu=>Jpu 2 4 Ji4 _ _ u (J0s (Jbi hu (j:=0) rfl)))) ?_
 refine Wd (Qc (Nz 3 ?_))
 refine Wt 0 rfl rfl (fun hg=>Fm) ?_
 refine Wt 0 rfl rfl (fun hg=>Fq) ?_
 refine Wk 1 Pa ?_
 exact Wd (Qc (Cr (out1 rfl rfl (Jah (by kernel_rfl)))))
theorem Jwe (r:Room) (w:World) (hr:RoomOk w r) :
  Calls Tryz.prog 8 #[.agg #[r.pls.v,r.ths.v,r.prs.v,r.wys.v,r.acs.v,r.aus.v,.int .i64 r.ply,r.gl.v]] w (RetB w (.bool (largeB r))):=by
 have kpl:=hr.pls
 have lpl:=hr.pls.le
 have kth:=hr.ths
 have lth:=hr.ths.le
 have kpr:=hr.prs
 have lpr:=hr.prs.le
 have kwy:=hr.wys
 have lwy:=hr.wys.le
 have kac:=hr.acs
 have lac:=hr.acs.le
 have kau:=hr.aus
 have lau:=hr.aus.le
 have kgl:=hr.gl
 have lgl:=hr.gl.le
 refine enter Tryz.func8 rfl rfl (Nat.le_of_ble_eq_true rfl) ?_
 refine Nz 0 ?_
 refine Wb 1 rfl rfl (fun _=>rfl) (fun _=>rfl) fun b1 hb1=>?_
 refine Wd (Qc (Cs (Nz 0 ?_)))
 refine Wk 0 (by first | exact Jac (j:=0) rfl rfl tk31 | exact Jab (j:=0) rfl rfl (by rfl) tk31 | exact Jai rfl (by assumption) (by rfl) tk31 | exact Jad (n:=8) (j:=0) rfl rfl rfl rfl tk31) ?_
 refine Wk 1 (Cb rfl rfl Jws (fun u hu=>Jvc r u (hr.st hu))) ?_
 refine Wf 0 rfl rfl (fun hg=>by first | exact Jac (j:=0) rfl rfl tk31 | exact Jab (j:=0) rfl rfl (by rfl) tk31 | exact Jai rfl (by assumption) (by rfl) tk31 | exact Jad (n:=8) (j:=0) rfl rfl rfl rfl tk31) ?_
 refine Wf 0 rfl rfl (fun hg=>Cb rfl (ec_ (eg_ hg rfl) en_) J0z (fun u hu=>Jr8 r u (hr.st hu) (Jhq.1 (by cases hq:clB (Near r) <;> simp_all)))) ?_
 refine Wf 0 rfl rfl (fun hg=>Fr) ?_
 refine Wk 0 Po ?_
 refine Wd (Qc (CS.cond rfl ?_ ?_))<;>intro hc1<;>try simp only [bq] at hc1
 ·
  have hlg:largeB r = !clB (Near r):=if_pos (by grind)
  refine Nz 0 ?_
  refine Wk 0 (by first | exact Jac (j:=0) rfl rfl tk31 | exact Jab (j:=0) rfl rfl (by rfl) tk31 | exact Jai rfl (by assumption) (by rfl) tk31 | exact Jad (n:=8) (j:=0) rfl rfl rfl rfl tk31) ?_
  refine Wk 1 (Cb rfl rfl Jws (fun u hu=>Jvc r u (hr.st hu))) ?_
  exact Wd (Qc (Cr (Qr (out1 rfl rfl (Jah (by rw [hlg]))))))
 have hlg:largeB r=(match lgP r.pls.l.length r.ths.l with | none=>true | some n=>(decide (4 < (r.pls.l.length:Int)) || decide (3 < (r.prs.l.length:Int))) || decide (3200 < wr (n * 8))):=if_neg (by grind)
 refine Ck (Qc (Nz 1 ?_))
 refine Wk 0 (by first | exact Jaa (j:=0) rfl rfl rfl tk22 | exact Jaf rfl (by assumption) rfl tk22) ?_
 refine Wk 1 Nc ?_
 refine Wd (Qc (Cs (Nz 1 ?_)))
 refine Wd (Qc (Ce ?_))
 refine CS.loopM (σ:=Int × Int) [2,17,18,19,20,21,22,23,24,25,26,27,28,29,30,31,32,33] (fun s=>[(4,.int .i64 s.1),(3,.int .i64 s.2)]) (fun _=>_) (fun s=>0≤s.1∧s.1≤r.ths.l.length∧lgP s.2 (r.ths.l.drop s.1.toNat)=lgP r.pls.l.length r.ths.l) (fun s=>(r.ths.l.length - s.1).toNat) (0,r.pls.l.length) (fun _ _=>rfl) rfl rfl ⟨by simp,by simp,rfl⟩ ?_
 intro s t hs
 obtain ⟨hs1,hs2,hs3⟩:=hs
 refine Cs (Nz 2 ?_)
 refine Wk 0 (by first | exact Jaa (j:=0) rfl rfl rfl tk23 | exact Jaf rfl (by assumption) rfl tk23) ?_
 refine Wk 1 Nc ?_
 refine Wd (Qc (CS.cond rfl ?_ ?_))<;>intro hc2<;>try simp only [bq] at hc2
 ·
  have hst:=Jsh (n:=s.2) hs1 (show s.1 < r.ths.l.length by omega)
  refine Ck (Qc (Cs (Ce (Nz 2 ?_))))
  refine Wk 1 (by first | exact Jaa (j:=0) rfl rfl rfl tk23 | exact Jaf rfl (by assumption) rfl tk23) ?_
  refine Wk 1 Xc ?_
  refine Wk 0 (Uc 4 2) ?_
  refine Wk 1 (Jlx rfl rfl) ?_
  refine Wd (Qc (Nz 2 ?_))
  refine Wd (Qc (CS.cond rfl ?_ ?_))<;>intro hc3<;>try simp only [bq] at hc3
  ·
   rw [if_pos hc3] at hst
   refine Nz 1 ?_
   exact Wd (Qc (Cr (Qs (Qr (Qr (Qs (Qr (out1 rfl rfl (Jah (by rw [hlg, ← hs3,hst]))))))))))
  rw [if_neg hc3] at hst
  refine Ck (Qb (Qc (Ny 1 ?_)))
  refine Wk 1 Za ?_
  exact Wd (QS.head ((s.1+1,wr (s.2 * (nth r.ths.l s.1).st))) rfl rfl ⟨⟨by simp; omega,by simp; omega,hst.symm.trans hs3⟩,by simp; omega⟩)
 rw [List.drop_of_length_le (by omega)] at hs3
 refine Cv (Qe (Qe (Qx (Qc (Nz 1 ?_)))))
 refine Wk 0 (by first | exact Jaa (j:=0) rfl rfl rfl tk22 | exact Jaf rfl (by assumption) rfl tk22) ?_
 refine Wk 2 Nc ?_
 refine Wf 0 rfl rfl (fun hg=>Ff) ?_
 refine Wf 0 rfl rfl (fun hg=>by first | exact Jaa (j:=0) (eg_ hg rfl) rfl rfl tk24 | exact Jaf (eg_ hg rfl) (by assumption) rfl tk24) ?_
 refine Wf 0 rfl rfl (fun hg=>Nc (eg_ hg rfl)) ?_
 refine Wf 0 rfl rfl (fun hg=>Fg) ?_
 refine Wk 1 Po ?_
 refine Wf 0 rfl rfl (fun hg=>Fm) ?_
 refine Wf 0 rfl rfl (fun hg=>Jlx (eg_ hg rfl) rfl) ?_
 refine Wf 0 rfl rfl (fun hg=>Fg) ?_
 refine Wk 1 Po ?_
 exact Wd (Qc (Cr (out1 rfl rfl (Jah (by rw [hlg, ← hs3]; rfl)))))
end Go.Proofs.YtbboikncaihafaaGreatDoor
