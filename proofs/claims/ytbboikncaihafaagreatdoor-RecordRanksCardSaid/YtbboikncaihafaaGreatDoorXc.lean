/- Merged texts of this proof (walks and plain laws), printed by a program of the prover. -/
import Derived.Test.YtbboikncaihafaaGreatDoorXb
set_option maxHeartbeats 8000000
namespace Go.Proofs.YtbboikncaihafaaGreatDoor
open Go.RowKit Go.Proofs
set_option maxRecDepth 100000
set_option linter.unusedVariables false
set_option linter.unusedSimpArgs false
theorem Jpx {G:GP} {f:Film} {x:Entr} (hk:x.k=1):Ja2 G f x=if (x.a=0∧x.b=0)∧f.st=false∧(Jan G f.x x.m).1=0 then some { f with x:=(Jan G f.x x.m).2,en:=if f.en < 0∧Jdu G (Jan G f.x x.m).2=true then x.t - f.pa else f.en } else none:=by
 have hf:Jc8 x=(decide (x.a=0) && decide (x.b=0)):=by unfold Jc8; rw [if_pos hk]
 unfold Ja2
 rw [hf]
 by_cases h1:x.a=0∧x.b=0
 ·
  rw [if_pos (by simp [h1])]
  by_cases h2:f.st=false∧(Jan G f.x x.m).1=0
  ·
   rw [if_pos hk,if_pos h2]; exact (if_pos ⟨h1,h2⟩).symm
  rw [if_pos hk,if_neg h2,if_neg fun q=>h2 q.2]
 rw [if_neg (by simp; intro a b; exact h1 ⟨a,b⟩),if_neg fun q=>h1 q.1]
theorem Jf9 {G:GP} {f:Film} {x:Entr} (hk:x.k=2):Ja2 G f x=if (x.m=mv0∧x.b=0)∧f.st=false∧0≤x.a∧x.a≤1000 then some { f with hi:=if f.en < 0 then f.hi+1 else f.hi } else none:=by
 have hf:Jc8 x=(decide (x.m=mv0) && decide (x.b=0)):=by unfold Jc8; rw [if_neg (by omega),if_pos hk]
 unfold Ja2
 rw [hf]
 by_cases h1:x.m=mv0∧x.b=0
 ·
  rw [if_pos (by simp [h1]),if_neg (by omega),if_pos hk]
  by_cases h2:f.st=false∧0≤x.a∧x.a≤1000
  ·
   rw [if_pos h2]; exact (if_pos ⟨h1,h2⟩).symm
  rw [if_neg h2,if_neg fun q=>h2 q.2]
 rw [if_neg (by simp; intro a b; exact h1 ⟨a,b⟩),if_neg fun q=>h1 q.1]
theorem Jzf {G:GP} {f:Film} {x:Entr} (hk:x.k=3):Ja2 G f x=if (x.m=mv0∧x.a=0∧x.b=0)∧f.st=false then some { f with st:=true,si:=x.t } else none:=by
 have hf:Jc8 x=(decide (x.m=mv0) && (decide (x.a=0) && decide (x.b=0))):=by unfold Jc8; rw [if_neg (by omega),if_neg (by omega),if_pos (by omega)]
 unfold Ja2
 rw [hf]
 by_cases h1:x.m=mv0∧x.a=0∧x.b=0
 ·
  rw [if_pos (by simp [h1]),if_neg (by omega),if_neg (by omega),if_pos hk]
  by_cases h2:f.st=false
  ·
   rw [if_pos h2]; exact (if_pos ⟨h1,h2⟩).symm
  rw [if_neg h2,if_neg fun q=>h2 q.2]
 rw [if_neg (by simp; intro a b c; exact h1 ⟨a,b,c⟩),if_neg fun q=>h1 q.1]
theorem Jvw {G:GP} {f:Film} {x:Entr} (hk:x.k=4):Ja2 G f x=if (x.m=mv0∧x.a=0∧x.b=0)∧f.st=true then some { f with st:=false,pa:=f.pa+(x.t - f.si) } else none:=by
 have hf:Jc8 x=(decide (x.m=mv0) && (decide (x.a=0) && decide (x.b=0))):=by unfold Jc8; rw [if_neg (by omega),if_neg (by omega),if_pos (by omega)]
 unfold Ja2
 rw [hf]
 by_cases h1:x.m=mv0∧x.a=0∧x.b=0
 ·
  rw [if_pos (by simp [h1]),if_neg (by omega),if_neg (by omega),if_neg (by omega),if_pos hk]
  by_cases h2:f.st=true
  ·
   rw [if_pos h2]; exact (if_pos ⟨h1,h2⟩).symm
  rw [if_neg h2,if_neg fun q=>h2 q.2]
 rw [if_neg (by simp; intro a b c; exact h1 ⟨a,b,c⟩),if_neg fun q=>h1 q.1]
theorem Jzj {G:GP} {f:Film} {x:Entr} (hk:x.k=5):Ja2 G f x=if x.m=mv0∧0≤x.a∧x.a≤(f.x.1.1.length:Int) - 1∧nth f.x.1.1 x.a=x.b then some f else none:=by
 have hf:Jc8 x=decide (x.m=mv0):=by unfold Jc8; rw [if_neg (by omega),if_neg (by omega),if_neg (by omega),if_pos hk]
 unfold Ja2
 rw [hf]
 by_cases h1:x.m=mv0
 ·
  rw [if_pos (by simp [h1]),if_neg (by omega),if_neg (by omega),if_neg (by omega),if_neg (by omega)]
  by_cases h2:0≤x.a∧x.a≤(f.x.1.1.length:Int) - 1∧nth f.x.1.1 x.a=x.b
  ·
   rw [if_pos h2]; exact (if_pos ⟨h1,h2⟩).symm
  rw [if_neg h2,if_neg fun q=>h2 q.2]
 rw [if_neg (by simp [h1]),if_neg fun q=>h1 q.1]
theorem J54 {G:GP} {f:Film} {x:Entr} (h1:¬ x.k=1) (h2:¬ x.k=2) (h3:¬ x.k=3) (h4:¬ x.k=4) (h5:¬ x.k=5):Ja2 G f x=none:=by
 cases h:Ja2 G f x with
 | none=>rfl
 | some f' =>
  have:=Jqs (Jea h).1
  omega
theorem St.out2 {n0:Nat} {w0 u:World} {A B:List SA} {t a:SA} (h:St n0 w0 (A++[t,a]++B) u):St n0 w0 [t,a,Go.Proofs.YtbboikncaihafaaGreatDoor.star (A++B)] u:=by
 have h1:St n0 w0 ((A++B)++[t,a]) u:=h.perm (by
  rw [List.append_assoc,List.append_assoc]
  exact List.Perm.append_left A List.perm_append_comm)
 have h2:=h1.pack
 exact h2.perm (by
  show ([Go.Proofs.YtbboikncaihafaaGreatDoor.star (A++B)]++[t,a]).Perm ([t,a]++[Go.Proofs.YtbboikncaihafaaGreatDoor.star (A++B)])
  exact List.perm_append_comm)
theorem St.in2 {n0:Nat} {w0 u:World} {A B:List SA} {t a:SA} (h:St n0 w0 [t,a,Go.Proofs.YtbboikncaihafaaGreatDoor.star (A++B)] u):St n0 w0 (A++[t,a]++B) u:=by
 have h1:St n0 w0 (Go.Proofs.YtbboikncaihafaaGreatDoor.star (A++B)::[t,a]) u:=h.perm (by
  show ([t,a]++[Go.Proofs.YtbboikncaihafaaGreatDoor.star (A++B)]).Perm ([Go.Proofs.YtbboikncaihafaaGreatDoor.star (A++B)]++[t,a])
  exact List.perm_append_comm)
 have h2:=h1.unpack
 exact h2.perm (by
  rw [List.append_assoc,List.append_assoc]
  exact List.Perm.append_left A List.perm_append_comm)
theorem Jtk {w u:World} (A B:List SA) (G:Game) (hG:GameOk w G) (hn:NearG G) (g:Sl ByteArray) (hW:GOk w g) (fb:Nat) (y:Pos) (f:Film) (hyx:y.x=f.x) (hq:posG G.p f.x=0) (m:Move) (hu:St w.heap.size w (A++[blk fb [G.rm.pls.v,G.rm.ths.v,G.rm.prs.v,G.rm.wys.v,G.rm.acs.v,G.rm.aus.v,.int .i64 G.rm.ply,G.rm.gl.v,G.lks.v,G.cds.v,G.nts.v,.int .i64 G.tr,y.st.ths.v,y.st.prs.v,y.st.pls.v,y.rd.v,.bool f.st,.int .i64 f.si,.int .i64 f.pa,.int .i64 f.en,.int .i64 f.hi] 166,roS fun u=>PosOk u y]++B) u) :
  Calls Tryz.prog 129 #[.pointer (some ⟨fb,0,none⟩),.agg #[.int .i64 m.p,.int .i64 m.k,.int .i64 m.n]] u (fun e u'=>∃ z:Pos,(z.x=(if (Jan G.p f.x m).1=0 then (Jan G.p f.x m).2 else f.x)∧∃ u0,PosOk u0 z)∧e = .returned (.bool (decide ((Jan G.p f.x m).1=0)))∧St w.heap.size w (A++[blk fb [G.rm.pls.v,G.rm.ths.v,G.rm.prs.v,G.rm.wys.v,G.rm.acs.v,G.rm.aus.v,.int .i64 G.rm.ply,G.rm.gl.v,G.lks.v,G.cds.v,G.nts.v,.int .i64 G.tr,z.st.ths.v,z.st.prs.v,z.st.pls.v,z.rd.v,.bool f.st,.int .i64 f.si,.int .i64 f.pa,.int .i64 f.en,.int .i64 f.hi] 166,roS fun u=>PosOk u z]++B) u'):=by
 refine Calls.mono (J59 (star (A++B)) G hG hn g hW fb y f hyx hq m hu.out2) ?_
 rintro e u' ⟨z,h1,h2,h3⟩
 exact ⟨z,h1,h2,h3.in2⟩
theorem Jdj {α:Type} {c:Prop} [Decidable c] {a:α}:(if c then some a else none).isSome=decide c:=by
 by_cases h:c
 ·
  rw [if_pos h,decide_eq_true h]; rfl
 rw [if_neg h,decide_eq_false h]; rfl
theorem Jnc {α:Type} [Inhabited α] {P:Program} {n0:Nat} {w0:World} {L:List SA} {l:List Value} {d:Option Tmp} {ty:TypeId} {ps:String} {af:Array Edge} {g:Option (Nat × Bool)} {C:Cel α} {X:World→Prop} {T:TypeId} {z:Nat} (jj:Nat) {x:Operand} {y:Value} {s:Sl α} {i:Int}
  (hj':L[jj]? = some (roS X)) (hX:∀ u,X u→SlT C u s) (hx:evo l x=some (.pointer (some (sla s.v (i.toNat * 1))))) (hk:C.k=1) (h:0≤i∧i < s.l.length)
  (hc:(C.cells (nth s.l i))[0]? = some y) (hT:tk P T=some (false,z)):Det P (St n0 w0 L) ⟨d,.load T x,ty,ps,af,g⟩ l y:=by
 exact Jeb (k:=1) hx (fun _ hu=>hk ▸ (hX _ (St.ro hj' hu)).sp) (by have:=Jdb C h.1 h.2 0 (by omega); rw [hk,Nat.add_zero] at this; rw [this]; exact hc) hT
theorem J6b {w u:World} (R:SA) (G:Game) (hG:GameOk w G) (hn:NearG G) (g:Sl ByteArray) (hW:GOk w g) (fb:Nat) (y:Pos) (f:Film) (hyx:y.x=f.x) (x:Entr) (last n:Int) (hF:FilmOk G f last n) (htm:Jco last x=true) (hnn:n≤1000) (hu:St w.heap.size w [blk fb [G.rm.pls.v,G.rm.ths.v,G.rm.prs.v,G.rm.wys.v,G.rm.acs.v,G.rm.aus.v,.int .i64 G.rm.ply,G.rm.gl.v,G.lks.v,G.cds.v,G.nts.v,.int .i64 G.tr,y.st.ths.v,y.st.prs.v,y.st.pls.v,y.rd.v,.bool f.st,.int .i64 f.si,.int .i64 f.pa,.int .i64 f.en,.int .i64 f.hi] 166,roS fun u=>PosOk u y,R] u) :
  Calls Tryz.prog 141 #[.pointer (some ⟨fb,0,none⟩),.agg #[.int .i64 x.t,.int .i64 x.k,.int .i64 x.m.p,.int .i64 x.m.k,.int .i64 x.m.n,.int .i64 x.a,.int .i64 x.b]] u (fun e u'=>∃ q:Pos × Film,(q.1.x=q.2.x∧(∃ u0,PosOk u0 q.1)∧∀ f',(Ja2 G.p f x)=some f'→q.2=f')∧e = .returned (.bool (Ja2 G.p f x).isSome)∧St w.heap.size w [blk fb [G.rm.pls.v,G.rm.ths.v,G.rm.prs.v,G.rm.wys.v,G.rm.acs.v,G.rm.aus.v,.int .i64 G.rm.ply,G.rm.gl.v,G.lks.v,G.cds.v,G.nts.v,.int .i64 G.tr,q.1.st.ths.v,q.1.st.prs.v,q.1.st.pls.v,q.1.rd.v,.bool q.2.st,.int .i64 q.2.si,.int .i64 q.2.pa,.int .i64 q.2.en,.int .i64 q.2.hi] 166,roS fun u=>PosOk u q.1,R] u'):=by
 have hq:=hF.pos
 obtain ⟨t1,t2⟩:=Jmr htm
 have hp0:=hF.pa0
 have hp1:=hF.pa1
 have hsi:=hF.si
 have hhi:=hF.hi
 have hyT:=(hu.ro (j:=1) rfl).st.ths
 have hyle:=hyT.le
 have hyl:f.x.1.1=y.st.ths.l:=by rw [← hyx]; rfl
 refine Jb0 hu Tryz.func141 rfl rfl (Nat.le_of_ble_eq_true rfl) ?_
 refine Nz 0 ?_
 refine Wb 1 rfl rfl (fun _=>rfl) (fun _=>rfl) fun b3 hb3=>?_
 refine Wd (Qc (Nz 0 ?_))
 refine Wk 0 (Bb 0) ?_
 refine Wl 0 zv84 (fun _=>rfl) (fun _=>rfl) fun b5 hb5=>?_
 refine Wv 0 0 ?_
 refine Wd (Qc (Nz 1 ?_))
 refine Ws 1 0 ?_
 refine Ws 0 0 ?_
 refine Wd (Qc (Cs (Nz 1 ?_)))
 refine Wk 0 (Ba 1) ?_
 refine Wd (Qc (Ce (Nz 2 ?_)))
 refine Wd (Qc (CS.cond rfl ?_ ?_))<;>intro hc1<;>try simp only [bq] at hc1
 ·
  refine Nz 0 ?_
  refine Wk 1 (Db J1t zv54) ?_
  refine WS.storeP rfl (j:=0) rfl rfl rfl (by simp [Value.oneCell']) tk54 rfl rfl ?_
  refine Wd (Qc (Cs (Cs ?_)))
  rcases Bool.eq_false_or_eq_true ((!decide ((⟨0,0,mv0,x.a,x.b⟩:Entr)=(⟨0,0,mv0,0,0⟩:Entr))) || f.st) with hb | hb
  ·
   refine Ny 0 ?_
   refine Wk 0 (Bb 0) ?_
   refine Wk 0 (Db Jk9 zv84) ?_
   refine Wk 1 (Jew Jfi rfl rfl (Jde (⟨0,0,mv0,x.a,x.b⟩:Entr) (⟨0,0,mv0,0,0⟩:Entr))) ?_
   refine Wf 0 rfl rfl (fun hg=>Fm) ?_
   refine Wf 0 rfl rfl (fun hg=>Fc) ?_
   refine Wf 0 rfl rfl (fun hg=>Ff) ?_
   refine Wf 0 rfl rfl (fun hg=>Ba 2) ?_
   refine Wk 0 Po ?_
   refine Wk 0 (Jaw (v:=.bool true) (congrArg (fun b=>some (Value.bool b)) hb)) ?_
   refine Wf 0 rfl rfl (fun hg=>Fy_ (by cases hg)) ?_
   refine Wf 0 rfl rfl (fun hg=>Fy_ (by cases hg)) ?_
   refine Wf 0 rfl rfl (fun hg=>Fy_ (by cases hg)) ?_
   refine Wf 0 rfl rfl (fun hg=>Fy_ (by cases hg)) ?_
   refine Wf 0 rfl rfl (fun hg=>Fz_ (by cases hg)) ?_
   refine Wk 0 Po ?_
   refine Wd (Qc (CS.cond rfl ?_ ?_))<;>intro hc2<;>try simp only [bq] at hc2
   ·
    have hno:Ja2 G.p f x=none:=by
     rw [Jpx hc1,if_neg (by rintro ⟨h1,h2,h3⟩; simp [h1.1,h1.2,h2] at hb)]
    refine Nz 1 ?_
    exact Wd (Qc (Cr (Qr (Qs (Qr (out1 rfl rfl (fun u hu=>(by first | exact ⟨(y,f),⟨hyx,⟨u,hu.ro (j:=3) rfl⟩,fun f9 h9 ↦ by rw [hno] at h9; cases h9⟩,by rw [hno]; rfl,hu.sel [2,2,2] rfl⟩ | exact ⟨(z,f),⟨hzx2,⟨u,hu.ro (j:=3) rfl⟩,fun f9 h9 ↦ by rw [hno] at h9; cases h9⟩,by rw [hno]; rfl,hu.sel [2,2,2] rfl⟩))))))))
   exact absurd hc2 (by simp)
  refine Ny 0 ?_
  refine Wk 0 (Bb 0) ?_
  refine Wk 0 (Db Jk9 zv84) ?_
  refine Wk 1 (Jew Jfi rfl rfl (Jde (⟨0,0,mv0,x.a,x.b⟩:Entr) (⟨0,0,mv0,0,0⟩:Entr))) ?_
  refine Wf 0 rfl rfl (fun hg=>Fm) ?_
  refine Wf 0 rfl rfl (fun hg=>Fc) ?_
  refine Wf 0 rfl rfl (fun hg=>Ff) ?_
  refine Wf 0 rfl rfl (fun hg=>Ba 2) ?_
  refine Wk 0 Po ?_
  refine Wk 0 (Jaw (v:=.bool false) (congrArg (fun b=>some (Value.bool b)) hb)) ?_
  refine Wf 0 rfl rfl (fun hg=>Fm) ?_
  refine Wf 0 rfl rfl (fun hg=>Ff) ?_
  refine Wf 0 rfl rfl (fun hg=>Bc 1) ?_
  refine WS.callSg (want:=false) (j:=9) rfl rfl rfl J37 (fun u hu=>Jtk [_,_] [R] G hG hn g hW fb y f hyx hq x.m hu) (fun _=>rfl) ?_; rintro z ⟨hzx,uz,hzok⟩
  obtain ⟨hza,hzb,hzc⟩:=hzok.st.ones
  have hzd:=Sl.one hzok.rd
  refine Wf 0 rfl rfl (fun hg=>Fn) ?_
  refine Wk 0 Po ?_
  refine Wd (Qc (CS.cond rfl ?_ ?_))<;>intro hc2<;>try simp only [bq] at hc2
  ·
   have hS:¬ (Jan G.p f.x x.m).1=0:=by first | exact hc2 | simpa using hc2
   have hzx2:z.x=f.x:=by rw [hzx,if_neg hS]
   have hno:Ja2 G.p f x=none:=by
    rw [Jpx hc1,if_neg (by rintro ⟨h1,h2,h3⟩; exact hS h3)]
   refine Nz 1 ?_
   exact Wd (Qc (Cr (Qr (Qs (Qr (out1 rfl rfl (fun u hu=>(by first | exact ⟨(y,f),⟨hyx,⟨u,hu.ro (j:=3) rfl⟩,fun f9 h9 ↦ by rw [hno] at h9; cases h9⟩,by rw [hno]; rfl,hu.sel [2,2,2] rfl⟩ | exact ⟨(z,f),⟨hzx2,⟨u,hu.ro (j:=3) rfl⟩,fun f9 h9 ↦ by rw [hno] at h9; cases h9⟩,by rw [hno]; rfl,hu.sel [2,2,2] rfl⟩))))))))
  have hS:(Jan G.p f.x x.m).1=0:=by first | exact hc2 | simpa using hc2
  have hzx2:z.x=(Jan G.p f.x x.m).2:=by rw [hzx,if_pos hS]
  have hgd:=Jhq (p:=Jmh f.x) hS
  have hab:x.a=0∧x.b=0:=by simp at hb; exact hb.1
  have hst:f.st=false:=by simp at hb; exact hb.2
  have hso:=(Jpx (G:=G.p) (f:=f) hc1).trans (if_pos ⟨hab,hst,hS⟩)
  refine Ck (Qc (Cs (Nz 3 ?_)))
  refine Wk 2 (Ba 2) ?_
  refine Wt 0 rfl rfl (fun hg=>Fm) ?_
  refine Wt 0 rfl rfl (fun hg=>Cb rfl (ec_ (eg_ hg rfl) en_) J25 (fun u hu=>J38 G u (hG.st hu) hn g (hW.st hu) z (hu.ro (j:=3) rfl) { f with x:=(Jan G.p f.x x.m).2 } hzx2 hgd.2.2 fb _ (Ja0 hu (j:=2) rfl))) ?_
  refine Wk 0 Pa ?_
  refine Wd (Qc (CS.cond rfl ?_ ?_))<;>intro hc3<;>try simp only [bq] at hc3
  ·
   have hen:f.en < 0∧Jdu G.p (Jan G.p f.x x.m).2=true:=by simpa using hc3
   rw [if_pos hen] at hso
   refine Ny 3 ?_
   refine Wk 0 (Ba 1) ?_
   refine Wk 2 (Cb rfl rfl Kay (fun u hu=>Kc6 G z f fb _ u (Ja0 hu (j:=2) rfl) x.t ⟨hp0,by omega⟩ ⟨by omega,t2⟩ hst)) ?_
   refine Ws 0 2 ?_
   refine Wd (Qc (Nz 1 ?_))
   exact Wd (Qc (Cr (Qs (Qr (out1 rfl rfl (fun u hu=>(by first | exact ⟨(z,{ f with x:=(Jan G.p f.x x.m).2,en:=x.t - f.pa }),⟨hzx2,⟨u,hu.ro (j:=3) rfl⟩,fun f9 h9 ↦ by rw [hso] at h9; exact Option.some.inj h9⟩,by rw [hso]; rfl,hu.sel [2,2,2] rfl⟩ | exact ⟨(z,{ f with x:=(Jan G.p f.x x.m).2,en:=f.en }),⟨hzx2,⟨u,hu.ro (j:=3) rfl⟩,fun f9 h9 ↦ by rw [hso] at h9; exact Option.some.inj h9⟩,by rw [hso]; rfl,hu.sel [2,2,2] rfl⟩)))))))
  have hen:¬ (f.en < 0∧Jdu G.p (Jan G.p f.x x.m).2=true):=by have h9:=hc3; simp at h9; rintro ⟨h7,h8⟩; rw [h8] at h9; rcases h9 with h9 | h9; omega; cases h9
  rw [if_neg hen] at hso
  refine Ck (Qc (Nz 1 ?_))
  exact Wd (Qc (Cr (Qs (Qr (out1 rfl rfl (fun u hu=>(by first | exact ⟨(z,{ f with x:=(Jan G.p f.x x.m).2,en:=x.t - f.pa }),⟨hzx2,⟨u,hu.ro (j:=3) rfl⟩,fun f9 h9 ↦ by rw [hso] at h9; exact Option.some.inj h9⟩,by rw [hso]; rfl,hu.sel [2,2,2] rfl⟩ | exact ⟨(z,{ f with x:=(Jan G.p f.x x.m).2,en:=f.en }),⟨hzx2,⟨u,hu.ro (j:=3) rfl⟩,fun f9 h9 ↦ by rw [hso] at h9; exact Option.some.inj h9⟩,by rw [hso]; rfl,hu.sel [2,2,2] rfl⟩)))))))
 refine Nz 2 ?_
 refine Wd (Qc (CS.cond rfl ?_ ?_))<;>intro hc4<;>try simp only [bq] at hc4
 ·
  refine Nz 1 ?_
  refine Ws 0 0 ?_
  refine Wd (Qc (Cs (Nz 3 ?_)))
  refine Wk 1 (Ba 2) ?_
  refine Wd (Qc (CS.cond rfl ?_ ?_))<;>intro hc5<;>try simp only [bq] at hc5
  ·
   refine Ny 3 ?_
   refine Wk 0 (Ba 2) ?_
   refine Wk 2 Za ?_
   refine Ws 0 2 ?_
   refine Wd (Qc (Nz 0 ?_))
   refine Wk 0 (Bb 0) ?_
   refine Wk 0 (Db Jk9 zv84) ?_
   refine Wk 1 (Jgo Jfi rfl rfl (Jde (⟨0,0,x.m,0,x.b⟩:Entr) (⟨0,0,mv0,0,0⟩:Entr))) ?_
   refine Wt 0 rfl rfl (fun hg=>Fm) ?_
   refine Wt 0 rfl rfl (fun hg=>Fc) ?_
   refine Wt 0 rfl rfl (fun hg=>Ff) ?_
   refine Wt 0 rfl rfl (fun hg=>Ba 2) ?_
   refine Wt 0 rfl rfl (fun hg=>Fn) ?_
   refine Wk 1 Pa ?_
   refine Wt 0 rfl rfl (fun hg=>Ff) ?_
   refine Wt 0 rfl rfl (fun hg=>Ba 1) ?_
   refine Wt 0 rfl rfl (fun hg=>Cb rfl (ec_ (eg_ hg rfl) (ec_ rfl (ec_ rfl en_))) Jk7 (fun u hu=>Jc3 _ _ _ u)) ?_
   refine Wk 1 Pa ?_
   exact Wd (Qc (Cr (Qs (Qr (out1 rfl rfl (fun u hu=>(by first | exact ⟨(y,{ f with hi:=f.hi+1 }),⟨hyx,⟨u,hu.ro (j:=3) rfl⟩,fun f9 h9 ↦ by rw [Jf9 hc4,if_pos hc5] at h9; split at h9; exact Option.some.inj h9; cases h9⟩,by rw [Jf9 hc4]; exact congrArg (fun b ↦ Ending.returned (Value.bool b)) (by rw [Jdj,Bool.eq_iff_iff]; simp <;> grind),hu.sel [2,2,2] rfl⟩ | exact ⟨(y,{ f with hi:=f.hi }),⟨hyx,⟨u,hu.ro (j:=3) rfl⟩,fun f9 h9 ↦ by rw [Jf9 hc4,if_neg hc5] at h9; split at h9; exact Option.some.inj h9; cases h9⟩,by rw [Jf9 hc4]; exact congrArg (fun b ↦ Ending.returned (Value.bool b)) (by rw [Jdj,Bool.eq_iff_iff]; simp <;> grind),hu.sel [2,2,2] rfl⟩)))))))
  refine Ck (Qc (Nz 0 ?_))
  refine Wk 0 (Bb 0) ?_
  refine Wk 0 (Db Jk9 zv84) ?_
  refine Wk 1 (Jgo Jfi rfl rfl (Jde (⟨0,0,x.m,0,x.b⟩:Entr) (⟨0,0,mv0,0,0⟩:Entr))) ?_
  refine Wt 0 rfl rfl (fun hg=>Fm) ?_
  refine Wt 0 rfl rfl (fun hg=>Fc) ?_
  refine Wt 0 rfl rfl (fun hg=>Ff) ?_
  refine Wt 0 rfl rfl (fun hg=>Ba 2) ?_
  refine Wt 0 rfl rfl (fun hg=>Fn) ?_
  refine Wk 1 Pa ?_
  refine Wt 0 rfl rfl (fun hg=>Ff) ?_
  refine Wt 0 rfl rfl (fun hg=>Ba 1) ?_
  refine Wt 0 rfl rfl (fun hg=>Cb rfl (ec_ (eg_ hg rfl) (ec_ rfl (ec_ rfl en_))) Jk7 (fun u hu=>Jc3 _ _ _ u)) ?_
  refine Wk 1 Pa ?_
  exact Wd (Qc (Cr (Qs (Qr (out1 rfl rfl (fun u hu=>(by first | exact ⟨(y,{ f with hi:=f.hi+1 }),⟨hyx,⟨u,hu.ro (j:=3) rfl⟩,fun f9 h9 ↦ by rw [Jf9 hc4,if_pos hc5] at h9; split at h9; exact Option.some.inj h9; cases h9⟩,by rw [Jf9 hc4]; exact congrArg (fun b ↦ Ending.returned (Value.bool b)) (by rw [Jdj,Bool.eq_iff_iff]; simp <;> grind),hu.sel [2,2,2] rfl⟩ | exact ⟨(y,{ f with hi:=f.hi }),⟨hyx,⟨u,hu.ro (j:=3) rfl⟩,fun f9 h9 ↦ by rw [Jf9 hc4,if_neg hc5] at h9; split at h9; exact Option.some.inj h9; cases h9⟩,by rw [Jf9 hc4]; exact congrArg (fun b ↦ Ending.returned (Value.bool b)) (by rw [Jdj,Bool.eq_iff_iff]; simp <;> grind),hu.sel [2,2,2] rfl⟩)))))))
 refine Nz 2 ?_
 refine Wd (Qc (CS.cond rfl ?_ ?_))<;>intro hc6<;>try simp only [bq] at hc6
 ·
  refine Cs (Nz 0 ?_)
  refine Wk 0 (Bb 0) ?_
  refine Wk 0 (Db Jk9 zv84) ?_
  refine Wk 1 (Jew Jfi rfl rfl (Jde (⟨0,0,x.m,x.a,x.b⟩:Entr) (⟨0,0,mv0,0,0⟩:Entr))) ?_
  refine Wf 0 rfl rfl (fun hg=>Fm) ?_
  refine Wf 0 rfl rfl (fun hg=>Fc) ?_
  refine Wf 0 rfl rfl (fun hg=>Ff) ?_
  refine Wf 0 rfl rfl (fun hg=>Ba 2) ?_
  refine Wk 0 Po ?_
  refine Wd (Qc (CS.cond rfl ?_ ?_))<;>intro hc7<;>try simp only [bq] at hc7
  ·
   have hno:Ja2 G.p f x=none:=by
    rw [Jzf hc6,if_neg (by rintro ⟨h1,h2⟩; simp [h1.1,h1.2.1,h1.2.2,h2] at hc7)]
   refine Nz 1 ?_
   exact Wd (Qc (Cr (Qr (Qs (Qr (out1 rfl rfl (fun u hu=>(by first | exact ⟨(y,f),⟨hyx,⟨u,hu.ro (j:=3) rfl⟩,fun f9 h9 ↦ by rw [hno] at h9; cases h9⟩,by rw [hno]; rfl,hu.sel [2,2,2] rfl⟩))))))))
  have hh:(x.m=mv0∧x.a=0∧x.b=0)∧f.st=false:=by have h9:=hc7; simp at h9; grind
  have hso:=(Jzf (G:=G.p) (f:=f) hc6).trans (if_pos hh)
  refine Ck (Qc (Cs ?_))
  refine CS.drawnBut 2 (k:=10) Jah rfl rfl rfl ?_
  refine Ar [0,1,2] ?_
  refine Ak 3 [4,5] rfl (Ba 1) ?_
  refine Ao 6 rfl ?_
  refine Ws 0 2 ?_
  refine Wd (Qa ?_)
  refine Ar [7,8] ?_
  refine Ao 9 rfl ?_
  refine Ws 0 2 ?_
  refine Wd (Qa ?_)
  refine Ae ?_
  refine Qc (Nz 1 ?_)
  exact Wd (Qc (Cr (Qs (Qr (out1 rfl rfl (fun u hu=>(by first | exact ⟨(y,{ f with st:=true,si:=x.t }),⟨hyx,⟨u,hu.ro (j:=3) rfl⟩,fun f9 h9 ↦ by rw [hso] at h9; exact Option.some.inj h9⟩,by rw [hso]; rfl,hu.sel [2,2,2] rfl⟩)))))))
 refine Nz 2 ?_
 refine Wd (Qc (CS.cond rfl ?_ ?_))<;>intro hc8<;>try simp only [bq] at hc8
 ·
  refine Cs (Nz 0 ?_)
  refine Wk 0 (Bb 0) ?_
  refine Wk 0 (Db Jk9 zv84) ?_
  refine Wk 1 (Jew Jfi rfl rfl (Jde (⟨0,0,x.m,x.a,x.b⟩:Entr) (⟨0,0,mv0,0,0⟩:Entr))) ?_
  refine Wf 0 rfl rfl (fun hg=>Fm) ?_
  refine Wf 0 rfl rfl (fun hg=>Fc) ?_
  refine Wf 0 rfl rfl (fun hg=>Ff) ?_
  refine Wf 0 rfl rfl (fun hg=>Ba 2) ?_
  refine Wf 0 rfl rfl (fun hg=>Fn) ?_
  refine Wk 0 Po ?_
  refine Wd (Qc (CS.cond rfl ?_ ?_))<;>intro hc9<;>try simp only [bq] at hc9
  ·
   have hno:Ja2 G.p f x=none:=by
    rw [Jvw hc8,if_neg (by rintro ⟨h1,h2⟩; simp [h1.1,h1.2.1,h1.2.2,h2] at hc9)]
   refine Nz 1 ?_
   exact Wd (Qc (Cr (Qr (Qs (Qr (out1 rfl rfl (fun u hu=>(by first | exact ⟨(y,f),⟨hyx,⟨u,hu.ro (j:=3) rfl⟩,fun f9 h9 ↦ by rw [hno] at h9; cases h9⟩,by rw [hno]; rfl,hu.sel [2,2,2] rfl⟩))))))))
  have hh:(x.m=mv0∧x.a=0∧x.b=0)∧f.st=true:=by have h9:=hc9; simp at h9; grind
  have hso:=(Jvw (G:=G.p) (f:=f) hc8).trans (if_pos hh)
  obtain ⟨s1,s2⟩:=hsi hh.2
  refine Ck (Qc (Nz 3 ?_))
  refine Ws 0 2 ?_
  refine Wd (Qc (Cs ?_))
  refine CS.drawnTill 14 (k:=15) Jah rfl rfl ?_
  refine Tr 15 [0,1,2] ?_
  refine Tk 15 3 [4] rfl (Ba 2) ?_
  refine Tk 15 5 [6,7,8] rfl (Ba 1) ?_
  refine Tk 15 9 [] rfl (Ba 2) ?_
  refine Tk 15 10 [] rfl Zb ?_
  refine Tk 15 11 [12,13] rfl Za ?_
  refine To 14 rfl ?_
  refine Ws 0 2 ?_
  refine Wd (Qt ?_)
  refine Te ?_
  refine Qc (Nz 1 ?_)
  exact Wd (Qc (Cr (Qs (Qr (out1 rfl rfl (fun u hu=>(by first | exact ⟨(y,{ f with st:=false,pa:=f.pa+(x.t - f.si) }),⟨hyx,⟨u,hu.ro (j:=3) rfl⟩,fun f9 h9 ↦ by rw [hso] at h9; exact Option.some.inj h9⟩,by rw [hso]; rfl,hu.sel [2,2,2] rfl⟩)))))))
 refine Nz 2 ?_
 refine Wd (Qc (CS.cond rfl ?_ ?_))<;>intro hc10<;>try simp only [bq] at hc10
 ·
  refine Nz 1 ?_
  refine Ws 1 0 ?_
  refine Ws 0 0 ?_
  refine Wd (Qc (Cs (Dr Jah 0 ?_)))
  refine Dk 0 (Bb 0) ?_
  refine Dk 0 (Db Jk9 zv84) ?_
  refine Dk 1 (Jgo Jfi rfl rfl (Jde (⟨0,0,x.m,0,0⟩:Entr) (⟨0,0,mv0,0,0⟩:Entr))) ?_
  refine Dt 0 rfl rfl (fun hg=>Ff) ?_
  refine Dt 0 rfl rfl (fun hg=>Ba 1) ?_
  refine Dt 0 rfl rfl (fun hg=>Fm) ?_
  refine Dt 0 rfl rfl (fun hg=>Fc) ?_
  refine Dt 0 rfl rfl (fun hg=>Ff) ?_
  refine Dt 0 rfl rfl (fun hg=>Ff) ?_
  refine Dt 0 rfl rfl (fun hg=>Ff) ?_
  refine Dt 0 rfl rfl (fun hg=>Ba 2) ?_
  refine Dt 0 rfl rfl (fun hg=>Jay (s:=y.st.ths) sl42 (eg_ hg rfl) hyT) ?_
  refine Dt 0 rfl rfl (fun hg=>Zb) ?_
  refine Dt 0 rfl rfl (fun hg=>Cb rfl (ec_ (eg_ hg rfl) (ec_ rfl (ec_ (eg_ hg rfl) en_))) Jk7 (fun u hu=>Jc3 _ _ _ u)) ?_
  refine Dk 1 Pa ?_
  refine Dt 0 rfl rfl (fun hg=>Fm) ?_
  refine Dt 0 rfl rfl (fun hg=>Fc) ?_
  refine Dt 0 rfl rfl (fun hg=>Ff) ?_
  refine Dt 0 rfl rfl (fun hg=>Ff) ?_
  refine Dt 0 rfl rfl (fun hg=>Ff) ?_
  refine Dt 0 rfl rfl (fun hg=>Ba 2) ?_
  refine Dt 0 rfl rfl (fun hg=>Ff) ?_
  refine Dt 0 rfl rfl (fun hg=>Ba 1) ?_
  refine Dt 0 rfl rfl (fun hg=>Jd6 (s:=y.st.ths) sl42 (eg_ hg rfl) (eg_ hg rfl) hyT rfl (by (try simp only [bq] at hg); omega) (by (try simp only [bq] at hg); omega)) ?_
  refine Dt 0 rfl rfl (fun hg=>Jnc 3 (s:=y.st.ths) rfl (fun _ h ↦ h.st.ths) (eg_ hg rfl) rfl ⟨by (try simp only [bq] at hg); omega,by (try simp only [bq] at hg); omega⟩ rfl tk3) ?_
  refine Dt 0 rfl rfl (fun hg=>Ff) ?_
  refine Dt 0 rfl rfl (fun hg=>Ba 1) ?_
  refine Dt 0 rfl rfl (fun hg=>Fq) ?_
  refine Dk 1 Pa ?_
  exact Dd (Qc (Cr (Qs (Qr (out1 rfl rfl (fun u hu=>(by first | exact ⟨(y,f),⟨hyx,⟨u,hu.ro (j:=3) rfl⟩,fun f9 h9 ↦ by rw [Jzj hc10] at h9; split at h9; exact Option.some.inj h9; cases h9⟩,by rw [Jzj hc10,hyl]; exact congrArg (fun b ↦ Ending.returned (Value.bool b)) (by rw [Jdj,Bool.eq_iff_iff]; simp <;> grind),hu.sel [2,2,2] rfl⟩)))))))
 have hno:=J54 (G:=G.p) (f:=f) hc1 hc4 hc6 hc8 hc10
 refine Ck (Qb (Qc (Nz 1 ?_)))
 exact Wd (Qc (Cr (out1 rfl rfl (fun u hu=>(by first | exact ⟨(y,f),⟨hyx,⟨u,hu.ro (j:=3) rfl⟩,fun f9 h9 ↦ by rw [hno] at h9; cases h9⟩,by rw [hno]; rfl,hu.sel [2,2,2] rfl⟩)))))
theorem Jmx {G:GP} {f:Film} {x:Entr} (hf:Jc8 x=true) (hk:x.k=1):Ja2 G f x=if f.st=false∧(Jan G f.x x.m).1=0 then some { f with x:=(Jan G f.x x.m).2,en:=if f.en < 0∧Jdu G (Jan G f.x x.m).2=true then x.t - f.pa else f.en } else none:=by
 unfold Ja2; rw [if_pos hf,if_pos hk]
theorem Jzg {G:GP} {f:Film} {x:Entr} (hf:Jc8 x=true) (hk:x.k=2):Ja2 G f x=if f.st=false∧0≤x.a∧x.a≤1000 then some { f with hi:=if f.en < 0 then f.hi+1 else f.hi } else none:=by
 unfold Ja2; rw [if_pos hf,if_neg (by omega),if_pos hk]
theorem Jx4 {G:GP} {f:Film} {x:Entr} (hf:Jc8 x=true) (hk:x.k=3):Ja2 G f x=if f.st=false then some { f with st:=true,si:=x.t } else none:=by
 unfold Ja2; rw [if_pos hf,if_neg (by omega),if_neg (by omega),if_pos hk]
theorem Jw1 {G:GP} {f:Film} {x:Entr} (hf:Jc8 x=true) (hk:x.k=4):Ja2 G f x=if f.st=true then some { f with st:=false,pa:=f.pa+(x.t - f.si) } else none:=by
 unfold Ja2; rw [if_pos hf,if_neg (by omega),if_neg (by omega),if_neg (by omega),if_pos hk]
theorem Jvk {G:GP} {f:Film} {x:Entr} (hf:Jc8 x=true) (hk:x.k=5):Ja2 G f x=if 0≤x.a∧x.a≤(f.x.1.1.length:Int) - 1∧nth f.x.1.1 x.a=x.b then some f else none:=by
 unfold Ja2; rw [if_pos hf,if_neg (by omega),if_neg (by omega),if_neg (by omega),if_neg (by omega)]
theorem Jpi {G:Game} {f f':Film} {e:Entr} (hq:posG G.p f.x=0) (h:Ja2 G.p f e=some f'):posG G.p f'.x=0:=by
 obtain ⟨_,h | h | h | h | h⟩:=Jea h
 ·
  rw [h.2.2.2]; exact (Jhq (p:=Jmh f.x) h.2.2.1).2.2
 ·
  rw [h.2.2.2]; exact hq
 ·
  rw [h.2.2]; exact hq
 ·
  rw [h.2.2]; exact hq
 rw [h.2.2]; exact hq
theorem J1i {w u:World} (R:SA) (G:Game) (hG:GameOk w G) (hn:NearG G) (rb:Nat) (y:Pos) (f:Film) (hyx:y.x=f.x) (x:Entr) (last:Int) (hu:St w.heap.size w [blk rb [G.rm.pls.v,G.rm.ths.v,G.rm.prs.v,G.rm.wys.v,G.rm.acs.v,G.rm.aus.v,.int .i64 G.rm.ply,G.rm.gl.v,G.lks.v,G.cds.v,G.nts.v,.int .i64 G.tr,y.st.ths.v,y.st.prs.v,y.st.pls.v,y.rd.v,.bool f.st,.int .i64 last] 211,roS fun u=>PosOk u y,R] u) :
  Calls Tryz.prog 138 #[.pointer (some ⟨rb,0,none⟩),.agg #[.int .i64 x.t,.int .i64 x.k,.int .i64 x.m.p,.int .i64 x.m.k,.int .i64 x.m.n,.int .i64 x.a,.int .i64 x.b]] u (fun e u'=>∃ q:Pos × Film × Int,(q.1.x=q.2.1.x∧(∃ u0,PosOk u0 q.1)∧∀ f',Jco last x=true→(Ja2 G.p f x)=some f'→q.2.1=f'∧q.2.2=x.t)∧e = .returned (.bool (Jco last x && (Ja2 G.p f x).isSome))∧St w.heap.size w [blk rb [G.rm.pls.v,G.rm.ths.v,G.rm.prs.v,G.rm.wys.v,G.rm.acs.v,G.rm.aus.v,.int .i64 G.rm.ply,G.rm.gl.v,G.lks.v,G.cds.v,G.nts.v,.int .i64 G.tr,q.1.st.ths.v,q.1.st.prs.v,q.1.st.pls.v,q.1.rd.v,.bool q.2.1.st,.int .i64 q.2.2] 211,roS fun u=>PosOk u q.1,R] u'):=by
 have hyT:=(hu.ro (j:=1) rfl).st.ths
 have hyle:=hyT.le
 have hyl:f.x.1.1=y.st.ths.l:=by rw [← hyx]; rfl
 refine Jb0 hu Tryz.func138 rfl rfl (Nat.le_of_ble_eq_true rfl) ?_
 refine Nz 0 ?_
 refine Wb 1 rfl rfl (fun _=>rfl) (fun _=>rfl) fun b3 hb3=>?_
 refine Wd (Qc (Cs (Cs (Dr Jah 1 ?_))))
 refine Dk 3 (Ba 0) ?_
 refine Dk 0 (Ba 1) ?_
 refine Dk 2 (Cb rfl rfl Jv7 (fun u hu=>Jk2 _ _ _ u)) ?_
 refine Df 0 rfl rfl (fun hg=>Bb 0) ?_
 refine Df 0 rfl rfl (fun hg=>Cb rfl (ec_ (eg_ hg rfl) en_) Kai (fun u hu=>J2v x u)) ?_
 refine Df 0 rfl rfl (fun hg=>Fn) ?_
 refine Dk 0 Po ?_
 refine Dd (Qc (CS.cond rfl ?_ ?_))<;>intro hc1<;>try simp only [bq] at hc1
 ·
  have hno:Jco last x=false∨Jc8 x=false:=by unfold Jco; have h9:=hc1; simp at h9 ⊢; grind
  have hv:(Jco last x && (Ja2 G.p f x).isSome)=false:=by
   rcases hno with h | h
   ·
    rw [h]; rfl
   unfold Ja2; rw [if_neg (by rw [h]; decide),Bool.and_eq_false_iff]; exact .inr rfl
  have hfal:∀ f9,Jco last x=true→Ja2 G.p f x=some f9→False:=fun f9 h8 h9=>by rw [h8,h9] at hv; cases hv
  refine Nz 1 ?_
  exact Wd (Qc (Cr (Qr (out1 rfl rfl (fun u hu=>⟨(y,f,last),⟨hyx,⟨u,hu.ro (j:=2) rfl⟩,fun f9 h8 h9 ↦ by exact (hfal f9 h8 h9).elim⟩,by rw [hv],hu.sel [1,1,1] rfl⟩)))))
 have hTF:Jco last x=true∧Jc8 x=true:=by unfold Jco; have h9:=hc1; simp at h9 ⊢; grind
 obtain ⟨hT,hFo⟩:=hTF
 have hkk:=Jqs hFo
 refine Ck (Qc (Nz 2 ?_))
 refine Wk 2 (Ba 0) ?_
 refine Ws 0 1 ?_
 refine Wd (Qc (Cs (Nz 1 ?_)))
 refine Wk 0 (Ba 0) ?_
 refine Wd (Qc (Ce (Nz 2 ?_)))
 refine Wd (Qc (CS.cond rfl ?_ ?_))<;>intro hc2<;>try simp only [bq] at hc2
 ·
  refine Cs ?_
  refine CS.drawnAll (k:=17) Jah rfl rfl ?_
  refine Ar [0,1,2] ?_
  refine Ak 3 [4,5,6] rfl (Bc 1) ?_
  refine Ak 7 [8] rfl (Bc 1) ?_
  refine Ak 9 [] rfl (Bc 0) ?_
  refine AS.two (i:=10) (j:=14) (by kernel_rfl) rfl rfl (by first | exact fun _ h=>h | exact fun _ h=>h.sub (by repeat first | exact List.Sublist.refl _ | apply List.Sublist.cons_cons | apply List.Sublist.cons)) rfl rfl ?_ ?_
  ·
   refine Wc rfl rfl J3g (fun u hu=>(by have q:=Jw4 G u (hG.st hu) hn y (hu.ro (j:=2) rfl) x.m; rw [hyx] at q; exact q)) (fun _=>rfl) ?_; rintro z ⟨hzx,uz,hzok⟩
   obtain ⟨hza,hzb,hzc⟩:=hzok.st.ones
   have hzd:=Sl.one hzok.rd
   refine Wd (Qa ?_)
   refine Ar [11,12,13] ?_
   refine Ao 14 rfl ?_
   refine Wl 0 zv47 (fun _=>rfl) (fun _=>rfl) fun b5 hb5=>?_
   refine Wd (Qa ?_)
   refine Ao 15 rfl ?_
   refine Wv 0 0 ?_
   refine Wd (Qa ?_)
   refine Ar [16] ?_
   refine Ae ?_
   refine Qc (Cs (Nz 3 ?_))
   refine Wf 0 rfl rfl (fun hg=>Fm) ?_
   refine Wf 0 rfl rfl (fun hg=>Fc) ?_
   refine Wf 0 rfl rfl (fun hg=>Ff) ?_
   refine Wf 0 rfl rfl (fun hg=>Ba 3) ?_
   refine Wk 0 Po ?_
   refine Wd (Qc (CS.cond rfl ?_ ?_))<;>intro hc3<;>try simp only [bq] at hc3
   ·
    have hno:Ja2 G.p f x=none:=by
     rw [Jmx hFo hc2,if_neg (by rintro ⟨h2,h3⟩; simp [h2,h3] at hc3)]
    refine Nz 1 ?_
    exact Wd (Qc (Cr (Qr (Qs (Qr (out1 rfl rfl (fun u hu=>⟨(y,f,x.t),⟨hyx,⟨u,hu.ro (j:=4) rfl⟩,fun f9 h8 h9 ↦ by rw [hno] at h9; cases h9⟩,by rw [hT,hno]; rfl,hu.sel [3,3,3] rfl⟩)))))))
   have hS:(Jan G.p f.x x.m).1=0∧f.st=false:=by have h9:=hc3; first | exact h9 | (simp at h9; grind)
   have hso:=(Jmx (G:=G.p) (f:=f) hFo hc2).trans (if_pos (⟨hS.2,hS.1⟩))
   refine Ck (Qc (Ny 1 ?_))
   refine Wk 2 (Bb 0) ?_
   refine WS.storeP rfl (j:=3) rfl rfl rfl (by simp [hza,hzb,hzc,hzd]) tk47 rfl rfl ?_
   refine WS.sel [3,1,3] rfl ?_
   refine Wd (Qb (Qc (Nz 1 ?_)))
   exact Wd (Qc (Cr (out1 rfl rfl (fun u hu=>(by first | exact ⟨(z,{ f with x:=(Jan G.p f.x x.m).2,en:=if f.en < 0∧Jdu G.p (Jan G.p f.x x.m).2=true then x.t - f.pa else f.en },x.t),⟨hzx,⟨u,hu.ro (j:=1) rfl⟩,fun f9 h8 h9 ↦ by rw [hso] at h9; exact ⟨Option.some.inj h9,rfl⟩⟩,by rw [hT,hso]; rfl,hu.sel [0,0,0] rfl⟩ | exact ⟨(y,{ f with st:=true,si:=x.t },x.t),⟨hyx,⟨u,hu.ro (j:=1) rfl⟩,fun f9 h8 h9 ↦ by rw [hso] at h9; exact ⟨Option.some.inj h9,rfl⟩⟩,by rw [hT,hso]; rfl,hu.sel [0,0,0] rfl⟩ | exact ⟨(y,{ f with st:=false,pa:=f.pa+(x.t - f.si) },x.t),⟨hyx,⟨u,hu.ro (j:=1) rfl⟩,fun f9 h8 h9 ↦ by rw [hso] at h9; exact ⟨Option.some.inj h9,rfl⟩⟩,by rw [hT,hso]; rfl,hu.sel [0,0,0] rfl⟩)))))
  refine Wl 0 zv47 (fun _=>rfl) (fun _=>rfl) fun b5 hb5=>?_
  refine Wd (Qa ?_)
  refine Ao 10 rfl ?_
  refine Wc rfl rfl J3g (fun u hu=>(by have q:=Jw4 G u (hG.st hu) hn y (hu.ro (j:=3) rfl) x.m; rw [hyx] at q; exact q)) (fun _=>rfl) ?_; rintro z ⟨hzx,uz,hzok⟩
  obtain ⟨hza,hzb,hzc⟩:=hzok.st.ones
  have hzd:=Sl.one hzok.rd
  refine Wd (Qa ?_)
  refine Ar [11,12,13] ?_
  refine Ao 15 rfl ?_
  refine Wv 0 1 ?_
  refine Wd (Qa ?_)
  refine Ar [16] ?_
  refine Ae ?_
  refine Qc (Cs (Nz 3 ?_))
  refine Wf 0 rfl rfl (fun hg=>Fm) ?_
  refine Wf 0 rfl rfl (fun hg=>Fc) ?_
  refine Wf 0 rfl rfl (fun hg=>Ff) ?_
  refine Wf 0 rfl rfl (fun hg=>Ba 3) ?_
  refine Wk 0 Po ?_
  refine Wd (Qc (CS.cond rfl ?_ ?_))<;>intro hc3<;>try simp only [bq] at hc3
  ·
   have hno:Ja2 G.p f x=none:=by
    rw [Jmx hFo hc2,if_neg (by rintro ⟨h2,h3⟩; simp [h2,h3] at hc3)]
   refine Nz 1 ?_
   exact Wd (Qc (Cr (Qr (Qs (Qr (out1 rfl rfl (fun u hu=>⟨(y,f,x.t),⟨hyx,⟨u,hu.ro (j:=4) rfl⟩,fun f9 h8 h9 ↦ by rw [hno] at h9; cases h9⟩,by rw [hT,hno]; rfl,hu.sel [3,3,3] rfl⟩)))))))
  have hS:(Jan G.p f.x x.m).1=0∧f.st=false:=by have h9:=hc3; first | exact h9 | (simp at h9; grind)
  have hso:=(Jmx (G:=G.p) (f:=f) hFo hc2).trans (if_pos (⟨hS.2,hS.1⟩))
  refine Ck (Qc (Ny 1 ?_))
  refine Wk 2 (Bb 1) ?_
  refine WS.storeP rfl (j:=3) rfl rfl rfl (by simp [hza,hzb,hzc,hzd]) tk47 rfl rfl ?_
  refine WS.sel [3,0,3] rfl ?_
  refine Wd (Qb (Qc (Nz 1 ?_)))
  exact Wd (Qc (Cr (out1 rfl rfl (fun u hu=>(by first | exact ⟨(z,{ f with x:=(Jan G.p f.x x.m).2,en:=if f.en < 0∧Jdu G.p (Jan G.p f.x x.m).2=true then x.t - f.pa else f.en },x.t),⟨hzx,⟨u,hu.ro (j:=1) rfl⟩,fun f9 h8 h9 ↦ by rw [hso] at h9; exact ⟨Option.some.inj h9,rfl⟩⟩,by rw [hT,hso]; rfl,hu.sel [0,0,0] rfl⟩ | exact ⟨(y,{ f with st:=true,si:=x.t },x.t),⟨hyx,⟨u,hu.ro (j:=1) rfl⟩,fun f9 h8 h9 ↦ by rw [hso] at h9; exact ⟨Option.some.inj h9,rfl⟩⟩,by rw [hT,hso]; rfl,hu.sel [0,0,0] rfl⟩ | exact ⟨(y,{ f with st:=false,pa:=f.pa+(x.t - f.si) },x.t),⟨hyx,⟨u,hu.ro (j:=1) rfl⟩,fun f9 h8 h9 ↦ by rw [hso] at h9; exact ⟨Option.some.inj h9,rfl⟩⟩,by rw [hT,hso]; rfl,hu.sel [0,0,0] rfl⟩)))))
 refine Nz 2 ?_
 refine Wd (Qc (CS.cond rfl ?_ ?_))<;>intro hc4<;>try simp only [bq] at hc4
 ·
  refine Nz 3 ?_
  refine Wk 2 (Ba 1) ?_
  refine Wt 0 rfl rfl (fun hg=>Ff) ?_
  refine Wt 0 rfl rfl (fun hg=>Ba 0) ?_
  refine Wt 0 rfl rfl (fun hg=>Cb rfl (ec_ (eg_ hg rfl) (ec_ rfl (ec_ rfl en_))) Jv7 (fun u hu=>Jk2 _ _ _ u)) ?_
  refine Wk 1 Pa ?_
  exact Wd (Qc (Cr (Qs (Qr (out1 rfl rfl (fun u hu=>⟨(y,{ f with hi:=if f.en < 0 then f.hi+1 else f.hi },x.t),⟨hyx,⟨u,hu.ro (j:=2) rfl⟩,fun f9 h8 h9 ↦ by rw [Jzg hFo hc4] at h9; split at h9; exact ⟨Option.some.inj h9,rfl⟩; cases h9⟩,by rw [hT,Bool.true_and,Jzg hFo hc4]; exact congrArg (fun b ↦ Ending.returned (Value.bool b)) (by rw [Jdj,Bool.eq_iff_iff]; simp <;> grind),hu.sel [1,1,1] rfl⟩))))))
 refine Nz 2 ?_
 refine Wd (Qc (CS.cond rfl ?_ ?_))<;>intro hc5<;>try simp only [bq] at hc5
 ·
  refine Cs (Nz 3 ?_)
  refine Wk 0 (Ba 1) ?_
  refine Wd (Qc (CS.cond rfl ?_ ?_))<;>intro hc6<;>try simp only [bq] at hc6
  ·
   have hno:Ja2 G.p f x=none:=by
    rw [Jx4 hFo hc5,if_neg (by intro h; rw [h] at hc6; cases hc6)]
   refine Nz 1 ?_
   exact Wd (Qc (Cr (Qr (Qs (Qr (out1 rfl rfl (fun u hu=>⟨(y,f,x.t),⟨hyx,⟨u,hu.ro (j:=2) rfl⟩,fun f9 h8 h9 ↦ by rw [hno] at h9; cases h9⟩,by rw [hT,hno]; rfl,hu.sel [1,1,1] rfl⟩)))))))
  have hso:=(Jx4 (G:=G.p) (f:=f) hFo hc5).trans (if_pos (hc6))
  refine Ck (Qc (Ny 3 ?_))
  refine Ws 0 1 ?_
  refine Wd (Qb (Qc (Nz 1 ?_)))
  exact Wd (Qc (Cr (out1 rfl rfl (fun u hu=>(by first | exact ⟨(z,{ f with x:=(Jan G.p f.x x.m).2,en:=if f.en < 0∧Jdu G.p (Jan G.p f.x x.m).2=true then x.t - f.pa else f.en },x.t),⟨hzx,⟨u,hu.ro (j:=2) rfl⟩,fun f9 h8 h9 ↦ by rw [hso] at h9; exact ⟨Option.some.inj h9,rfl⟩⟩,by rw [hT,hso]; rfl,hu.sel [1,1,1] rfl⟩ | exact ⟨(y,{ f with st:=true,si:=x.t },x.t),⟨hyx,⟨u,hu.ro (j:=2) rfl⟩,fun f9 h8 h9 ↦ by rw [hso] at h9; exact ⟨Option.some.inj h9,rfl⟩⟩,by rw [hT,hso]; rfl,hu.sel [1,1,1] rfl⟩ | exact ⟨(y,{ f with st:=false,pa:=f.pa+(x.t - f.si) },x.t),⟨hyx,⟨u,hu.ro (j:=2) rfl⟩,fun f9 h8 h9 ↦ by rw [hso] at h9; exact ⟨Option.some.inj h9,rfl⟩⟩,by rw [hT,hso]; rfl,hu.sel [1,1,1] rfl⟩)))))
 refine Nz 2 ?_
 refine Wd (Qc (CS.cond rfl ?_ ?_))<;>intro hc7<;>try simp only [bq] at hc7
 ·
  refine Cs (Nz 3 ?_)
  refine Wk 1 (Ba 1) ?_
  refine Wd (Qc (CS.cond rfl ?_ ?_))<;>intro hc8<;>try simp only [bq] at hc8
  ·
   have hno:Ja2 G.p f x=none:=by
    rw [Jw1 hFo hc7,if_neg (by intro h; rw [h] at hc8; cases hc8)]
   refine Nz 1 ?_
   exact Wd (Qc (Cr (Qr (Qs (Qr (out1 rfl rfl (fun u hu=>⟨(y,f,x.t),⟨hyx,⟨u,hu.ro (j:=2) rfl⟩,fun f9 h8 h9 ↦ by rw [hno] at h9; cases h9⟩,by rw [hT,hno]; rfl,hu.sel [1,1,1] rfl⟩)))))))
  have hso:=(Jw1 (G:=G.p) (f:=f) hFo hc7).trans (if_pos (by first | exact hc8 | simpa using hc8))
  refine Ck (Qc (Ny 3 ?_))
  refine Ws 0 1 ?_
  refine Wd (Qb (Qc (Nz 1 ?_)))
  exact Wd (Qc (Cr (out1 rfl rfl (fun u hu=>(by first | exact ⟨(z,{ f with x:=(Jan G.p f.x x.m).2,en:=if f.en < 0∧Jdu G.p (Jan G.p f.x x.m).2=true then x.t - f.pa else f.en },x.t),⟨hzx,⟨u,hu.ro (j:=2) rfl⟩,fun f9 h8 h9 ↦ by rw [hso] at h9; exact ⟨Option.some.inj h9,rfl⟩⟩,by rw [hT,hso]; rfl,hu.sel [1,1,1] rfl⟩ | exact ⟨(y,{ f with st:=true,si:=x.t },x.t),⟨hyx,⟨u,hu.ro (j:=2) rfl⟩,fun f9 h8 h9 ↦ by rw [hso] at h9; exact ⟨Option.some.inj h9,rfl⟩⟩,by rw [hT,hso]; rfl,hu.sel [1,1,1] rfl⟩ | exact ⟨(y,{ f with st:=false,pa:=f.pa+(x.t - f.si) },x.t),⟨hyx,⟨u,hu.ro (j:=2) rfl⟩,fun f9 h8 h9 ↦ by rw [hso] at h9; exact ⟨Option.some.inj h9,rfl⟩⟩,by rw [hT,hso]; rfl,hu.sel [1,1,1] rfl⟩)))))
 refine Nz 2 ?_
 refine Wd (Qc (CS.cond rfl ?_ ?_))<;>intro hc9<;>try simp only [bq] at hc9
 ·
  refine Cs (Dr Jah 1 ?_)
  refine Dk 5 (Ba 0) ?_
  refine Dk 0 (Ba 1) ?_
  refine Dk 0 (Jay (s:=y.st.ths) sl42 rfl hyT) ?_
  refine Dk 0 Zb ?_
  refine Dk 1 (Cb rfl rfl Jv7 (fun u hu=>Jk2 _ _ _ u)) ?_
  refine Dt 0 rfl rfl (fun hg=>Ff) ?_
  refine Dt 0 rfl rfl (fun hg=>Ba 0) ?_
  refine Dt 0 rfl rfl (fun hg=>Fm) ?_
  refine Dt 0 rfl rfl (fun hg=>Fc) ?_
  refine Dt 0 rfl rfl (fun hg=>Ff) ?_
  refine Dt 0 rfl rfl (fun hg=>Ff) ?_
  refine Dt 0 rfl rfl (fun hg=>Ff) ?_
  refine Dt 0 rfl rfl (fun hg=>Ba 1) ?_
  refine Dt 0 rfl rfl (fun hg=>Ff) ?_
  refine Dt 0 rfl rfl (fun hg=>Ba 0) ?_
  refine Dt 0 rfl rfl (fun hg=>Jd6 (s:=y.st.ths) sl42 (eg_ hg rfl) (eg_ hg rfl) hyT rfl (by (try simp only [bq] at hg); omega) (by (try simp only [bq] at hg); omega)) ?_
  refine Dt 0 rfl rfl (fun hg=>Jnc 2 (s:=y.st.ths) rfl (fun _ h ↦ h.st.ths) (eg_ hg rfl) rfl ⟨by (try simp only [bq] at hg); omega,by (try simp only [bq] at hg); omega⟩ rfl tk3) ?_
  refine Dt 0 rfl rfl (fun hg=>Fq) ?_
  refine Dk 1 Pa ?_
  exact Dd (Qc (Cr (Qs (Qr (out1 rfl rfl (fun u hu=>⟨(y,f,x.t),⟨hyx,⟨u,hu.ro (j:=2) rfl⟩,fun f9 h8 h9 ↦ by rw [Jvk hFo hc9] at h9; split at h9; exact ⟨Option.some.inj h9,rfl⟩; cases h9⟩,by rw [hT,Bool.true_and,Jvk hFo hc9,hyl]; exact congrArg (fun b ↦ Ending.returned (Value.bool b)) (by rw [Jdj,Bool.eq_iff_iff]; simp <;> grind),hu.sel [1,1,1] rfl⟩))))))
 exfalso; omega
theorem Jov {w u:World} (A B:List SA) (G:Game) (hG:GameOk w G) (hn:NearG G) (rb:Nat) (y:Pos) (f:Film) (hyx:y.x=f.x) (x:Entr) (last:Int) (hu:St w.heap.size w (A++[blk rb [G.rm.pls.v,G.rm.ths.v,G.rm.prs.v,G.rm.wys.v,G.rm.acs.v,G.rm.aus.v,.int .i64 G.rm.ply,G.rm.gl.v,G.lks.v,G.cds.v,G.nts.v,.int .i64 G.tr,y.st.ths.v,y.st.prs.v,y.st.pls.v,y.rd.v,.bool f.st,.int .i64 last] 211,roS fun u=>PosOk u y]++B) u) :
  Calls Tryz.prog 138 #[.pointer (some ⟨rb,0,none⟩),.agg #[.int .i64 x.t,.int .i64 x.k,.int .i64 x.m.p,.int .i64 x.m.k,.int .i64 x.m.n,.int .i64 x.a,.int .i64 x.b]] u (fun e u'=>∃ q:Pos × Film × Int,(q.1.x=q.2.1.x∧(∃ u0,PosOk u0 q.1)∧∀ f',Jco last x=true→(Ja2 G.p f x)=some f'→q.2.1=f'∧q.2.2=x.t)∧e = .returned (.bool (Jco last x && (Ja2 G.p f x).isSome))∧St w.heap.size w (A++[blk rb [G.rm.pls.v,G.rm.ths.v,G.rm.prs.v,G.rm.wys.v,G.rm.acs.v,G.rm.aus.v,.int .i64 G.rm.ply,G.rm.gl.v,G.lks.v,G.cds.v,G.nts.v,.int .i64 G.tr,q.1.st.ths.v,q.1.st.prs.v,q.1.st.pls.v,q.1.rd.v,.bool q.2.1.st,.int .i64 q.2.2] 211,roS fun u=>PosOk u q.1]++B) u'):=by
 refine Calls.mono (J1i (star (A++B)) G hG hn rb y f hyx x last hu.out2) ?_
 rintro e u' ⟨z,h1,h2,h3⟩
 exact ⟨z,h1,h2,h3.in2⟩
end Go.Proofs.YtbboikncaihafaaGreatDoor
