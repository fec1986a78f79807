/- Merged texts of this proof. -/
import Derived.Test.YtllebkdchemabaaGreatDoorZf2
import Derived.Test.YtllebkdchemabaaGreatDoorZb
import Derived.Test.YtllebkdchemabaaGreatDoorZc
set_option maxHeartbeats 8000000
namespace Go.Proofs.YtllebkdchemabaaGreatDoor
open Go.RowKit Go.Proofs Tryz
set_option maxRecDepth 100000
set_option linter.unusedVariables false
set_option linter.unusedSimpArgs false
def GOk (w:World) (g:Sl ByteArray):Prop:=g.l=wordL/\∀u,Below w.heap.size w u->u.cell? ⟨3,0,none⟩=some g.v/\SlT cStr u g
variable {w u:World} {g:Sl ByteArray}
theorem GOk.ext (h:GOk w g) (hb:Below w.heap.size w u):GOk u g:=⟨h.1,fun v hv=>h.2 v (AQ hb hv)⟩
theorem GOk.st {L:List SA} (h:GOk w g) (hu:St w.heap.size w L u):GOk u g:=h.ext hu.below
theorem GOk.sl (h:GOk w g):SlT cStr w g:=(h.2 w (Below.refl _ _)).2
theorem GOk.cell {L:List SA} (h:GOk w g) (hu:St w.heap.size w L u):u.cell? ⟨3,0,none⟩=some g.v:=(h.2 u hu.below).1
theorem Hw (s0:Sl ByteArray) (tx:ByteArray) (w:World) (hk:SlT cStr w s0):
  Calls prog 82 #[s0.v,.string tx] w (RetB w (.int .i64 (idxF (fun x=>seq tx x) s0.l))):=by
 have hl1:=hk.le;refine Eg func82 ?_;refine Aa ?_;refine CS.loopM (σ:=Int) (rsL [4,5,9,18]) (fun s=>[(8,.int .i64 s)]) (fun _=>_) (fun s=>0<=s/\s<=s0.l.length/\∀j:Int,0<=j->j<s->seq tx (nth s0.l j)=false) (fun s=>(s0.l.length-s).toNat) 0 (fun _ _=>rfl) rfl rfl ⟨by omega,by omega,fun j h1 h2=>by omega⟩ ?_;intro s t hs;obtain⟨hs1,hs2,hs3⟩:=hs;refine Nf ?_;refine Cm ?_ ?_<;>intro hc1
 ·iterate 2 refine Aa ?_
  refine Wk 0 (Ah rfl rfl) ?_;refine Nf ?_;refine Cm ?_ ?_<;>intro hc2
  ·exact out1 rfl rfl (Af (by rw[AM (p:=fun x=>seq tx x) hs1 (by omega) hs3 hc2]))
  refine Aa ?_;exact QS.head (s+1) rfl rfl ⟨⟨by omega,by omega,fun j h1 h2=>if hj:j=s then by rw[hj];exact hc2 else hs3 j h1 (by omega)⟩,by omega⟩
 exact out1 rfl rfl (Af (by rw[A2 (p:=fun x=>seq tx x) fun j h1 h2=>hs3 j h1 (by omega)]))
theorem FA (s0:Sl ByteArray) (tx:ByteArray) (w:World) (hk:SlT cStr w s0):
  Calls prog 237 #[s0.v,.string tx] w (RetB w (.bool (s0.l.any fun x=>seq tx x))):=by
 refine Eg func237 ?_;refine Wk 2 (Cb rfl rfl SC (fun u hu=>Hw s0 _ u (hk.st hu))) ?_;refine Nf ?_;exact out1 rfl rfl (Af (by rw[BU]))
theorem Jc (tx:ByteArray) (w:World) (g:Sl ByteArray) (hG:GOk w g) (hm:(tx.size:Int)<=9223372036854775806):
  Calls prog 235 #[.string tx] w (RetB w (.bool (Au tx))):=by
 refine Eg func235 ?_;refine Wk 1 (Al underlying9 rfl) ?_;refine Nf ?_;refine CS.loopM (σ:=Int) (rsL [2,3,7,19]) (fun s=>[(6,.int .i64 s)]) (fun _=>_) (fun s=>0<=s/\s<=tx.size/\∀j:Int,0<=j->j<s->97<=byt tx j/\byt tx j<=122) (fun s=>(tx.size-s).toNat) 0 (fun _ _=>rfl) rfl rfl ⟨by omega,by omega,fun j _ _=>by omega⟩ ?_;intro s t hs;obtain⟨hs1,hs2,hs3⟩:=hs;refine Nf ?_;refine Cm ?_ ?_<;>intro hc1
 ·refine Wk 2 (An underlying9 rfl rfl (by omega) (by omega)) ?_
  iterate 2 refine Aa ?_
  refine Wf 0 rfl rfl (fun hg=>An underlying9 (eg_ hg rfl) (eg_ hg rfl) (by(try simp only[bq]at hg);omega) (by(try simp only[bq]at hg);omega)) ?_
  iterate 2 refine Aa ?_
  refine Cm ?_ ?_<;>intro hc2
  ·exact out1 rfl rfl (Af (by unfold Au;rw[JW hs1 (by omega) (by omega)];rfl))
  refine Aa ?_
  exact QS.head (s+1) rfl rfl ⟨⟨by omega,by omega,fun j h0 h1=>by
     rcases(show j<s\/j=s by omega)with h|h
     ·exact hs3 j h0 h
     rw[h];omega⟩,by omega⟩
 refine Wk 1 (A3 rfl rfl) ?_;refine Wt 0 rfl rfl (fun hg=>AX tk23 rfl fun u hu=>hG.cell hu) ?_;refine Aa ?_;refine Wt 0 rfl rfl (fun hg=>Cb rfl (ec_ (eg_ hg rfl) (ec_ (eg_ hg rfl) en_)) TA (fun u hu=>FA g _ u (hG.sl.st hu))) ?_
 iterate 2 refine Aa ?_
 exact out1 rfl rfl (Af (by
    have h1:lowB tx=true:=HH fun j h0 h1=>hs3 j h0 (by omega);have h2:(g.l.any fun x=>seq tx x)=(wordL.any fun x=>seq x tx):=by rw[hG.1];congr 1;funext x;exact CY _ _
    unfold Au;rw[h1,h2,Bool.true_and,Bool.and_comm]))
theorem Ji (s0:Sl ByteArray) (w:World) (hk:SlT cStr w s0) (g:Nat) (lb:List Value) (p:ByteArray->Bool) (hg:Ent prog g)
  (hp:∀u,Below w.heap.size w u->∀i:Int,0<=i->i<s0.l.length->Calls prog g ([.string (nth s0.l i)]++lb:List Value).toArray u (RetB u (.bool (p (nth s0.l i))))):
  Calls prog 19 #[s0.v,.func (.func g) #[] lb.toArray] w (RetB w (.int .i64 (idxF p s0.l))):=by
 have hl1:=hk.le;refine Eg func19 ?_;refine Aa ?_;refine CS.loopM (σ:=Int) (rsL [4,5,9,18]) (fun s=>[(8,.int .i64 s)]) (fun _=>_) (fun s=>0<=s/\s<=s0.l.length/\∀j:Int,0<=j->j<s->p (nth s0.l j)=false) (fun s=>(s0.l.length-s).toNat) 0 (fun _ _=>rfl) rfl rfl ⟨by omega,by omega,fun j h1 h2=>by omega⟩ ?_;intro s t hs;obtain⟨hs1,hs2,hs3⟩:=hs;refine Nf ?_;refine Cm ?_ ?_<;>intro hc1
 ·iterate 2 refine Aa ?_
  refine Wk 0 (Cb rfl rfl hg (fun u hu=>hp u hu.below s (by omega) (by omega))) ?_;refine Nf ?_;refine Cm ?_ ?_<;>intro hc2
  ·exact out1 rfl rfl (Af (by rw[AM hs1 (by omega) hs3 hc2]))
  refine Aa ?_;exact QS.head (s+1) rfl rfl ⟨⟨by omega,by omega,fun j h1 h2=>if hj:j=s then by rw[hj];exact hc2 else hs3 j h1 (by omega)⟩,by omega⟩
 exact out1 rfl rfl (Af (by rw[A2 fun j h1 h2=>hs3 j h1 (by omega)]))
theorem Rm (s0:Sl Thing) (w:World) (hk:SlT cThing w s0) (g:Nat) (lb:List Value) (p:Thing->Bool) (hg:Ent prog g)
  (hp:∀u,Below w.heap.size w u->∀i:Int,0<=i->i<s0.l.length->Calls prog g ([.agg #[.string (nth s0.l i).nm,.int .i64 (nth s0.l i).pl,.int .i64 (nth s0.l i).st,.int .i64 (nth s0.l i).sr]]++lb:List Value).toArray u (RetB u (.bool (p (nth s0.l i))))):
  Calls prog 299 #[s0.v,.func (.func g) #[] lb.toArray] w (RetB w (.int .i64 (idxF p s0.l))):=by
 have hl1:=hk.le;refine Eg func299 ?_;refine Aa ?_;refine CS.loopM (σ:=Int) (rsL [4,5,9,18]) (fun s=>[(8,.int .i64 s)]) (fun _=>_) (fun s=>0<=s/\s<=s0.l.length/\∀j:Int,0<=j->j<s->p (nth s0.l j)=false) (fun s=>(s0.l.length-s).toNat) 0 (fun _ _=>rfl) rfl rfl ⟨by omega,by omega,fun j h1 h2=>by omega⟩ ?_;intro s t hs;obtain⟨hs1,hs2,hs3⟩:=hs;refine Nf ?_;refine Cm ?_ ?_<;>intro hc1
 ·iterate 2 refine Aa ?_
  refine Wk 0 (Cb rfl rfl hg (fun u hu=>hp u hu.below s (by omega) (by omega))) ?_;refine Nf ?_;refine Cm ?_ ?_<;>intro hc2
  ·exact out1 rfl rfl (Af (by rw[AM hs1 (by omega) hs3 hc2]))
  refine Aa ?_;exact QS.head (s+1) rfl rfl ⟨⟨by omega,by omega,fun j h1 h2=>if hj:j=s then by rw[hj];exact hc2 else hs3 j h1 (by omega)⟩,by omega⟩
 exact out1 rfl rfl (Af (by rw[A2 fun j h1 h2=>hs3 j h1 (by omega)]))
theorem Sk (s0:Sl Pro) (w:World) (hk:SlT cPro w s0) (g:Nat) (lb:List Value) (p:Pro->Bool) (hg:Ent prog g)
  (hp:∀u,Below w.heap.size w u->∀i:Int,0<=i->i<s0.l.length->Calls prog g ([.agg #[.string (nth s0.l i).nm,.int .i64 (nth s0.l i).pl,(nth s0.l i).wh.v]]++lb:List Value).toArray u (RetB u (.bool (p (nth s0.l i))))):
  Calls prog 302 #[s0.v,.func (.func g) #[] lb.toArray] w (RetB w (.int .i64 (idxF p s0.l))):=by
 have hl1:=hk.le;refine Eg func302 ?_;refine Aa ?_;refine CS.loopM (σ:=Int) (rsL [4,5,9,18]) (fun s=>[(8,.int .i64 s)]) (fun _=>_) (fun s=>0<=s/\s<=s0.l.length/\∀j:Int,0<=j->j<s->p (nth s0.l j)=false) (fun s=>(s0.l.length-s).toNat) 0 (fun _ _=>rfl) rfl rfl ⟨by omega,by omega,fun j h1 h2=>by omega⟩ ?_;intro s t hs;obtain⟨hs1,hs2,hs3⟩:=hs;refine Nf ?_;refine Cm ?_ ?_<;>intro hc1
 ·iterate 2 refine Aa ?_
  refine Wk 0 (Cb rfl rfl hg (fun u hu=>hp u hu.below s (by omega) (by omega))) ?_;refine Nf ?_;refine Cm ?_ ?_<;>intro hc2
  ·exact out1 rfl rfl (Af (by rw[AM hs1 (by omega) hs3 hc2]))
  refine Aa ?_;exact QS.head (s+1) rfl rfl ⟨⟨by omega,by omega,fun j h1 h2=>if hj:j=s then by rw[hj];exact hc2 else hs3 j h1 (by omega)⟩,by omega⟩
 exact out1 rfl rfl (Af (by rw[A2 fun j h1 h2=>hs3 j h1 (by omega)]))
theorem Si (s0:Sl Actn) (w:World) (hk:SlT cAct w s0) (g:Nat) (lb:List Value) (p:Actn->Bool) (hg:Ent prog g)
  (hp:∀u,Below w.heap.size w u->∀i:Int,0<=i->i<s0.l.length->Calls prog g ([.agg #[.string (nth s0.l i).nm,.int .i64 (nth s0.l i).pl,.int .i64 (nth s0.l i).lk,(nth s0.l i).us.v,(nth s0.l i).wh.v,(nth s0.l i).se.v,(nth s0.l i).sp.v,(nth s0.l i).br.v]]++lb:List Value).toArray u (RetB u (.bool (p (nth s0.l i))))):
  Calls prog 335 #[s0.v,.func (.func g) #[] lb.toArray] w (RetB w (.int .i64 (idxF p s0.l))):=by
 have hl1:=hk.le;refine Eg func335 ?_;refine Aa ?_;refine CS.loopM (σ:=Int) (rsL [4,5,9,18]) (fun s=>[(8,.int .i64 s)]) (fun _=>_) (fun s=>0<=s/\s<=s0.l.length/\∀j:Int,0<=j->j<s->p (nth s0.l j)=false) (fun s=>(s0.l.length-s).toNat) 0 (fun _ _=>rfl) rfl rfl ⟨by omega,by omega,fun j h1 h2=>by omega⟩ ?_;intro s t hs;obtain⟨hs1,hs2,hs3⟩:=hs;refine Nf ?_;refine Cm ?_ ?_<;>intro hc1
 ·iterate 2 refine Aa ?_
  refine Wk 0 (Cb rfl rfl hg (fun u hu=>hp u hu.below s (by omega) (by omega))) ?_;refine Nf ?_;refine Cm ?_ ?_<;>intro hc2
  ·exact out1 rfl rfl (Af (by rw[AM hs1 (by omega) hs3 hc2]))
  refine Aa ?_;exact QS.head (s+1) rfl rfl ⟨⟨by omega,by omega,fun j h1 h2=>if hj:j=s then by rw[hj];exact hc2 else hs3 j h1 (by omega)⟩,by omega⟩
 exact out1 rfl rfl (Af (by rw[A2 fun j h1 h2=>hs3 j h1 (by omega)]))
theorem Tc (s0:Sl Auto) (w:World) (hk:SlT cAuto w s0) (g:Nat) (lb:List Value) (p:Auto->Bool) (hg:Ent prog g)
  (hp:∀u,Below w.heap.size w u->∀i:Int,0<=i->i<s0.l.length->Calls prog g ([.agg #[(nth s0.l i).wh.v,.int .i64 (nth s0.l i).t,.int .i64 (nth s0.l i).s]]++lb:List Value).toArray u (RetB u (.bool (p (nth s0.l i))))):
  Calls prog 286 #[s0.v,.func (.func g) #[] lb.toArray] w (RetB w (.int .i64 (idxF p s0.l))):=by
 have hl1:=hk.le;refine Eg func286 ?_;refine Aa ?_;refine CS.loopM (σ:=Int) (rsL [4,5,9,18]) (fun s=>[(8,.int .i64 s)]) (fun _=>_) (fun s=>0<=s/\s<=s0.l.length/\∀j:Int,0<=j->j<s->p (nth s0.l j)=false) (fun s=>(s0.l.length-s).toNat) 0 (fun _ _=>rfl) rfl rfl ⟨by omega,by omega,fun j h1 h2=>by omega⟩ ?_;intro s t hs;obtain⟨hs1,hs2,hs3⟩:=hs;refine Nf ?_;refine Cm ?_ ?_<;>intro hc1
 ·iterate 2 refine Aa ?_
  refine Wk 0 (Cb rfl rfl hg (fun u hu=>hp u hu.below s (by omega) (by omega))) ?_;refine Nf ?_;refine Cm ?_ ?_<;>intro hc2
  ·exact out1 rfl rfl (Af (by rw[AM hs1 (by omega) hs3 hc2]))
  refine Aa ?_;exact QS.head (s+1) rfl rfl ⟨⟨by omega,by omega,fun j h1 h2=>if hj:j=s then by rw[hj];exact hc2 else hs3 j h1 (by omega)⟩,by omega⟩
 exact out1 rfl rfl (Af (by rw[A2 fun j h1 h2=>hs3 j h1 (by omega)]))
theorem Us (s0:Sl Lit) (w:World) (hk:SlT cLit w s0) (g:Nat) (lb:List Value) (p:Lit->Bool) (hg:Ent prog g)
  (hp:∀u,Below w.heap.size w u->∀i:Int,0<=i->i<s0.l.length->Calls prog g ([.agg #[.int .i64 (nth s0.l i).t,.int .i64 (nth s0.l i).s,.bool (nth s0.l i).nt]]++lb:List Value).toArray u (RetB u (.bool (p (nth s0.l i))))):
  Calls prog 272 #[s0.v,.func (.func g) #[] lb.toArray] w (RetB w (.int .i64 (idxF p s0.l))):=by
 have hl1:=hk.le;refine Eg func272 ?_;refine Aa ?_;refine CS.loopM (σ:=Int) (rsL [4,5,9,18]) (fun s=>[(8,.int .i64 s)]) (fun _=>_) (fun s=>0<=s/\s<=s0.l.length/\∀j:Int,0<=j->j<s->p (nth s0.l j)=false) (fun s=>(s0.l.length-s).toNat) 0 (fun _ _=>rfl) rfl rfl ⟨by omega,by omega,fun j h1 h2=>by omega⟩ ?_;intro s t hs;obtain⟨hs1,hs2,hs3⟩:=hs;refine Nf ?_;refine Cm ?_ ?_<;>intro hc1
 ·iterate 2 refine Aa ?_
  refine Wk 0 (Cb rfl rfl hg (fun u hu=>hp u hu.below s (by omega) (by omega))) ?_;refine Nf ?_;refine Cm ?_ ?_<;>intro hc2
  ·exact out1 rfl rfl (Af (by rw[AM hs1 (by omega) hs3 hc2]))
  refine Aa ?_;exact QS.head (s+1) rfl rfl ⟨⟨by omega,by omega,fun j h1 h2=>if hj:j=s then by rw[hj];exact hc2 else hs3 j h1 (by omega)⟩,by omega⟩
 exact out1 rfl rfl (Af (by rw[A2 fun j h1 h2=>hs3 j h1 (by omega)]))
theorem EK (s0:Sl Lit) (w:World) (hk:SlT cLit w s0) (g:Nat) (lb:List Value) (p:Lit->Bool) (hg:Ent prog g)
  (hp:∀u,Below w.heap.size w u->∀i:Int,0<=i->i<s0.l.length->Calls prog g ([.agg #[.int .i64 (nth s0.l i).t,.int .i64 (nth s0.l i).s,.bool (nth s0.l i).nt]]++lb:List Value).toArray u (RetB u (.bool (p (nth s0.l i))))):
  Calls prog 190 #[s0.v,.func (.func g) #[] lb.toArray] w (RetB w (.bool (s0.l.any p))):=by
 refine Eg func190 ?_;refine Wk 2 (Cb rfl rfl Jba (fun u hu=>Us s0 u (hk.st hu) g lb p hg (fun u2 h2=>hp u2 (AQ hu.below h2)))) ?_;refine Nf ?_;exact out1 rfl rfl (Af (by rw[BU]))
theorem TS (s0:Sl Put) (w:World) (hk:SlT cPut w s0) (g:Nat) (lb:List Value) (p:Put->Bool) (hg:Ent prog g)
  (hp:∀u,Below w.heap.size w u->∀i:Int,0<=i->i<s0.l.length->Calls prog g ([.agg #[.int .i64 (nth s0.l i).t,.int .i64 (nth s0.l i).s]]++lb:List Value).toArray u (RetB u (.bool (p (nth s0.l i))))):
  Calls prog 305 #[s0.v,.func (.func g) #[] lb.toArray] w (RetB w (.int .i64 (idxF p s0.l))):=by
 have hl1:=hk.le;refine Eg func305 ?_;refine Aa ?_;refine CS.loopM (σ:=Int) (rsL [4,5,9,18]) (fun s=>[(8,.int .i64 s)]) (fun _=>_) (fun s=>0<=s/\s<=s0.l.length/\∀j:Int,0<=j->j<s->p (nth s0.l j)=false) (fun s=>(s0.l.length-s).toNat) 0 (fun _ _=>rfl) rfl rfl ⟨by omega,by omega,fun j h1 h2=>by omega⟩ ?_;intro s t hs;obtain⟨hs1,hs2,hs3⟩:=hs;refine Nf ?_;refine Cm ?_ ?_<;>intro hc1
 ·iterate 2 refine Aa ?_
  refine Wk 0 (Cb rfl rfl hg (fun u hu=>hp u hu.below s (by omega) (by omega))) ?_;refine Nf ?_;refine Cm ?_ ?_<;>intro hc2
  ·exact out1 rfl rfl (Af (by rw[AM hs1 (by omega) hs3 hc2]))
  refine Aa ?_;exact QS.head (s+1) rfl rfl ⟨⟨by omega,by omega,fun j h1 h2=>if hj:j=s then by rw[hj];exact hc2 else hs3 j h1 (by omega)⟩,by omega⟩
 exact out1 rfl rfl (Af (by rw[A2 fun j h1 h2=>hs3 j h1 (by omega)]))
theorem K3 (s0:Sl Put) (w:World) (hk:SlT cPut w s0) (g:Nat) (lb:List Value) (p:Put->Bool) (hg:Ent prog g)
  (hp:∀u,Below w.heap.size w u->∀i:Int,0<=i->i<s0.l.length->Calls prog g ([.agg #[.int .i64 (nth s0.l i).t,.int .i64 (nth s0.l i).s]]++lb:List Value).toArray u (RetB u (.bool (p (nth s0.l i))))):
  Calls prog 248 #[s0.v,.func (.func g) #[] lb.toArray] w (RetB w (.bool (s0.l.any p))):=by
 refine Eg func248 ?_;refine Wk 2 (Cb rfl rfl Jff (fun u hu=>TS s0 u (hk.st hu) g lb p hg (fun u2 h2=>hp u2 (AQ hu.below h2)))) ?_;refine Nf ?_;exact out1 rfl rfl (Af (by rw[BU]))
theorem UG (s0:Sl Int) (w:World) (hk:SlT cInt w s0) (g:Nat) (lb:List Value) (p:Int->Bool) (hg:Ent prog g)
  (hp:∀u,Below w.heap.size w u->∀i:Int,0<=i->i<s0.l.length->Calls prog g ([.int .i64 (nth s0.l i)]++lb:List Value).toArray u (RetB u (.bool (p (nth s0.l i))))):
  Calls prog 292 #[s0.v,.func (.func g) #[] lb.toArray] w (RetB w (.int .i64 (idxF p s0.l))):=by
 have hl1:=hk.le;have hki:=hk.ints;refine Eg func292 ?_;refine Aa ?_;refine CS.loopM (σ:=Int) (rsL [4,5,9,18]) (fun s=>[(8,.int .i64 s)]) (fun _=>_) (fun s=>0<=s/\s<=s0.l.length/\∀j:Int,0<=j->j<s->p (nth s0.l j)=false) (fun s=>(s0.l.length-s).toNat) 0 (fun _ _=>rfl) rfl rfl ⟨by omega,by omega,fun j h1 h2=>by omega⟩ ?_;intro s t hs;obtain⟨hs1,hs2,hs3⟩:=hs;refine Nf ?_;refine Cm ?_ ?_<;>intro hc1
 ·iterate 2 refine Aa ?_
  refine Wk 0 (Cb rfl rfl hg (fun u hu=>hp u hu.below s (by omega) (by omega))) ?_;refine Nf ?_;refine Cm ?_ ?_<;>intro hc2
  ·exact out1 rfl rfl (Af (by rw[AM hs1 (by omega) hs3 hc2]))
  refine Aa ?_;exact QS.head (s+1) rfl rfl ⟨⟨by omega,by omega,fun j h1 h2=>if hj:j=s then by rw[hj];exact hc2 else hs3 j h1 (by omega)⟩,by omega⟩
 exact out1 rfl rfl (Af (by rw[A2 fun j h1 h2=>hs3 j h1 (by omega)]))
theorem Ew (s0:Sl Int) (w:World) (hk:SlT cInt w s0) (g:Nat) (lb:List Value) (p:Int->Bool) (hg:Ent prog g)
  (hp:∀u,Below w.heap.size w u->∀i:Int,0<=i->i<s0.l.length->Calls prog g ([.int .i64 (nth s0.l i)]++lb:List Value).toArray u (RetB u (.bool (p (nth s0.l i))))):
  Calls prog 227 #[s0.v,.func (.func g) #[] lb.toArray] w (RetB w (.bool (s0.l.any p))):=by
 refine Eg func227 ?_;refine Wk 2 (Cb rfl rfl XT (fun u hu=>UG s0 u (hk.st hu) g lb p hg (fun u2 h2=>hp u2 (AQ hu.below h2)))) ?_;refine Nf ?_;exact out1 rfl rfl (Af (by rw[BU]))
theorem ActOk.ext {a:Actn} (h:ActOk w a) (hb:Below w.heap.size w u):ActOk u a:=cAct.ext w u a h hb
theorem Nm (x:ByteArray) (w:World):
  Calls prog 170 #[.string x] w (RetB w (.string (id x))):=by
 refine Eg func170 ?_;exact out1 rfl rfl retB
theorem QU (x:ByteArray) (tx:ByteArray) (b1 b2:Nat) (e1 e2:TypeId) (w:World) (h1:BlkAt w b1 [.func (.func 170) #[] #[]] e1) (h2:BlkAt w b2 [.string tx] e2):
  Calls prog 301 #[.string x,.pointer (some ⟨b1,0,none⟩),.pointer (some ⟨b2,0,none⟩)] w (RetB w (.bool (seq (id x) tx))):=by
 refine Eg func301 ?_;refine Dg mixed ?_;refine Ad ?_;refine Dk 0 (Cb rfl rfl Jgg (fun u hu=>Nm x u)) ?_;refine Ad ?_;refine Dk 1 (Ah rfl rfl) ?_;refine Nf ?_;exact out1 rfl rfl retB
theorem LW (s0:Sl ByteArray) (tx:ByteArray) (w:World) (hk:SlT cStr w s0):
  Calls prog 240 #[s0.v,.string tx,.func (.func 170) #[] #[]] w (RetB w (.int .i64 (idxF (fun x=>seq (id x) tx) s0.l))):=by
 refine Eg func240 ?_;refine Wr 0 fun b4 hb4=>?_;refine Wr 1 fun b5 hb5=>?_;refine Nf ?_;refine Wk 0 (Ax rfl) ?_;refine Wk 1 (Cb rfl rfl Jgh (fun u hu=>Ji s0 u (hk.st hu) _ [.pointer (some ⟨b5,0,none⟩),.pointer (some ⟨b4,0,none⟩)] (fun x=>seq (id x) tx) Jcy (fun u2 h2 i h0 h1=>QU _ _ _ _ _ _ u2 ((AN hu (j:=0) rfl).ext h2) ((AN hu (j:=1) rfl).ext h2)))) ?_;refine Nf ?_;exact out1 rfl rfl retB
theorem Qm (s0:Sl ByteArray) (tx:ByteArray) (w:World) (g:Sl ByteArray) (hG:GOk w g) (hk:SlT cStr w s0) (hm:(tx.size:Int)<=9223372036854775806):
  Calls prog 169 #[.string tx,s0.v,.func (.func 170) #[] #[]] w (RetB w (.bool (AY tx&&!(s0.l.any fun x=>seq (id x) tx)))):=by
 refine Eg func169 ?_;refine Wk 1 (Cb rfl rfl Jy (fun u hu=>Jc tx u g (hG.st hu) (by omega))) ?_;refine Aa ?_;refine Wt 0 rfl rfl (fun hg=>Al underlying9 (eg_ hg rfl)) ?_
 iterate 5 refine Aa ?_
 refine Wt 0 rfl rfl (fun hg=>Cb rfl (ec_ (eg_ hg rfl) (ec_ (eg_ hg rfl) (ec_ (eg_ hg rfl) en_))) XC (fun u hu=>LW s0 _ u (hk.st hu))) ?_
 iterate 2 refine Aa ?_
 exact out1 rfl rfl (Af (by
    rw[<-BU,AY];congr 1;rw[Bool.eq_iff_iff];simp only[Bool.and_eq_true,decide_eq_true_eq,Bool.not_eq_true',decide_eq_false_iff_not]
    constructor<;>rintro⟨⟨a,b⟩,c⟩<;>refine⟨⟨b,a⟩,by omega⟩))
theorem MI (x:Thing) (w:World):
  Calls prog 172 #[.agg #[.string x.nm,.int .i64 x.pl,.int .i64 x.st,.int .i64 x.sr]] w (RetB w (.string (Thing.nm x))):=by
 refine Eg func172 ?_;refine Wr 1 fun b1 hb1=>?_;refine Nf ?_;refine Aa ?_;exact out1 rfl rfl retB
theorem Sv (x:Thing) (tx:ByteArray) (b1 b2:Nat) (e1 e2:TypeId) (w:World) (h1:BlkAt w b1 [.func (.func 172) #[] #[]] e1) (h2:BlkAt w b2 [.string tx] e2):
  Calls prog 300 #[.agg #[.string x.nm,.int .i64 x.pl,.int .i64 x.st,.int .i64 x.sr],.pointer (some ⟨b1,0,none⟩),.pointer (some ⟨b2,0,none⟩)] w (RetB w (.bool (seq (Thing.nm x) tx))):=by
 refine Eg func300 ?_;refine Wr 1 fun b3 hb3=>?_;refine Nf ?_;refine Dg mixed ?_
 iterate 2 refine Ad ?_
 refine Dk 0 (Cb rfl rfl Jdl (fun u hu=>MI x u)) ?_;refine Ad ?_;refine Dk 1 (Ah rfl rfl) ?_;refine Nf ?_;exact out1 rfl rfl retB
theorem PS (s0:Sl Thing) (tx:ByteArray) (w:World) (hk:SlT cThing w s0):
  Calls prog 239 #[s0.v,.string tx,.func (.func 172) #[] #[]] w (RetB w (.int .i64 (idxF (fun x=>seq (Thing.nm x) tx) s0.l))):=by
 refine Eg func239 ?_;refine Wr 0 fun b4 hb4=>?_;refine Wr 1 fun b5 hb5=>?_;refine Nf ?_;refine Wk 0 (Ax rfl) ?_;refine Wk 1 (Cb rfl rfl Jdu (fun u hu=>Rm s0 u (hk.st hu) _ [.pointer (some ⟨b5,0,none⟩),.pointer (some ⟨b4,0,none⟩)] (fun x=>seq (Thing.nm x) tx) Jfk (fun u2 h2 i h0 h1=>Sv _ _ _ _ _ _ u2 ((AN hu (j:=0) rfl).ext h2) ((AN hu (j:=1) rfl).ext h2)))) ?_;refine Nf ?_;exact out1 rfl rfl retB
theorem Tx (s0:Sl Thing) (tx:ByteArray) (w:World) (g:Sl ByteArray) (hG:GOk w g) (hk:SlT cThing w s0) (hm:(tx.size:Int)<=9223372036854775806):
  Calls prog 171 #[.string tx,s0.v,.func (.func 172) #[] #[]] w (RetB w (.bool (AY tx&&!(s0.l.any fun x=>seq (Thing.nm x) tx)))):=by
 refine Eg func171 ?_;refine Wk 1 (Cb rfl rfl Jy (fun u hu=>Jc tx u g (hG.st hu) (by omega))) ?_;refine Aa ?_;refine Wt 0 rfl rfl (fun hg=>Al underlying9 (eg_ hg rfl)) ?_
 iterate 5 refine Aa ?_
 refine Wt 0 rfl rfl (fun hg=>Cb rfl (ec_ (eg_ hg rfl) (ec_ (eg_ hg rfl) (ec_ (eg_ hg rfl) en_))) Yn (fun u hu=>PS s0 _ u (hk.st hu))) ?_
 iterate 2 refine Aa ?_
 exact out1 rfl rfl (Af (by
    rw[<-BU,AY];congr 1;rw[Bool.eq_iff_iff];simp only[Bool.and_eq_true,decide_eq_true_eq,Bool.not_eq_true',decide_eq_false_iff_not]
    constructor<;>rintro⟨⟨a,b⟩,c⟩<;>refine⟨⟨b,a⟩,by omega⟩))
theorem QW (x:Pro) (w:World) (hx:SlT cLit w x.wh):
  Calls prog 174 #[.agg #[.string x.nm,.int .i64 x.pl,x.wh.v]] w (RetB w (.string (Pro.nm x))):=by
 refine Eg func174 ?_;refine Wr 1 fun b1 hb1=>?_;refine Nf ?_;refine Aa ?_;exact out1 rfl rfl retB
theorem Rs (x:Pro) (tx:ByteArray) (b1 b2:Nat) (e1 e2:TypeId) (w:World) (hx:SlT cLit w x.wh) (h1:BlkAt w b1 [.func (.func 174) #[] #[]] e1) (h2:BlkAt w b2 [.string tx] e2):
  Calls prog 303 #[.agg #[.string x.nm,.int .i64 x.pl,x.wh.v],.pointer (some ⟨b1,0,none⟩),.pointer (some ⟨b2,0,none⟩)] w (RetB w (.bool (seq (Pro.nm x) tx))):=by
 refine Eg func303 ?_;refine Wr 1 fun b3 hb3=>?_;refine Nf ?_;refine Dg mixed ?_
 iterate 2 refine Ad ?_
 refine Dk 0 (Cb rfl rfl Je8 (fun u hu=>QW x u (hx.st hu))) ?_;refine Ad ?_;refine Dk 1 (Ah rfl rfl) ?_;refine Nf ?_;exact out1 rfl rfl retB
theorem OV (s0:Sl Pro) (tx:ByteArray) (w:World) (hk:SlT cPro w s0):
  Calls prog 241 #[s0.v,.string tx,.func (.func 174) #[] #[]] w (RetB w (.int .i64 (idxF (fun x=>seq (Pro.nm x) tx) s0.l))):=by
 refine Eg func241 ?_;refine Wr 0 fun b4 hb4=>?_;refine Wr 1 fun b5 hb5=>?_;refine Nf ?_;refine Wk 0 (Ax rfl) ?_;refine Wk 1 (Cb rfl rfl Jd7 (fun u hu=>Sk s0 u (hk.st hu) _ [.pointer (some ⟨b5,0,none⟩),.pointer (some ⟨b4,0,none⟩)] (fun x=>seq (Pro.nm x) tx) Jch (fun u2 h2 i h0 h1=>Rs _ _ _ _ _ _ u2 (((hk.st hu).ext h2).at h0 h1) ((AN hu (j:=0) rfl).ext h2) ((AN hu (j:=1) rfl).ext h2)))) ?_;refine Nf ?_;exact out1 rfl rfl retB
theorem S0 (s0:Sl Pro) (tx:ByteArray) (w:World) (g:Sl ByteArray) (hG:GOk w g) (hk:SlT cPro w s0) (hm:(tx.size:Int)<=9223372036854775806):
  Calls prog 173 #[.string tx,s0.v,.func (.func 174) #[] #[]] w (RetB w (.bool (AY tx&&!(s0.l.any fun x=>seq (Pro.nm x) tx)))):=by
 refine Eg func173 ?_;refine Wk 1 (Cb rfl rfl Jy (fun u hu=>Jc tx u g (hG.st hu) (by omega))) ?_;refine Aa ?_;refine Wt 0 rfl rfl (fun hg=>Al underlying9 (eg_ hg rfl)) ?_
 iterate 5 refine Aa ?_
 refine Wt 0 rfl rfl (fun hg=>Cb rfl (ec_ (eg_ hg rfl) (ec_ (eg_ hg rfl) (ec_ (eg_ hg rfl) en_))) Xz (fun u hu=>OV s0 _ u (hk.st hu))) ?_
 iterate 2 refine Aa ?_
 exact out1 rfl rfl (Af (by
    rw[<-BU,AY];congr 1;rw[Bool.eq_iff_iff];simp only[Bool.and_eq_true,decide_eq_true_eq,Bool.not_eq_true',decide_eq_false_iff_not]
    constructor<;>rintro⟨⟨a,b⟩,c⟩<;>refine⟨⟨b,a⟩,by omega⟩))
theorem TG (x:Actn) (w:World) (hx:ActOk w x):
  Calls prog 244 #[.agg #[.string x.nm,.int .i64 x.pl,.int .i64 x.lk,x.us.v,x.wh.v,x.se.v,x.sp.v,x.br.v]] w (RetB w (.string (Actn.nm x))):=by
 refine Eg func244 ?_;refine Wr 1 fun b1 hb1=>?_;refine Nf ?_;refine Aa ?_;exact out1 rfl rfl retB
theorem Sp (x:Actn) (tx:ByteArray) (b1 b2:Nat) (e1 e2:TypeId) (w:World) (hx:ActOk w x) (h1:BlkAt w b1 [.func (.func 244) #[] #[]] e1) (h2:BlkAt w b2 [.string tx] e2):
  Calls prog 336 #[.agg #[.string x.nm,.int .i64 x.pl,.int .i64 x.lk,x.us.v,x.wh.v,x.se.v,x.sp.v,x.br.v],.pointer (some ⟨b1,0,none⟩),.pointer (some ⟨b2,0,none⟩)] w (RetB w (.bool (seq (Actn.nm x) tx))):=by
 refine Eg func336 ?_;refine Wr 1 fun b3 hb3=>?_;refine Nf ?_;refine Dg mixed ?_
 iterate 2 refine Ad ?_
 refine Dk 0 (Cb rfl rfl Ja2 (fun u hu=>TG x u (hx.ext hu.below))) ?_;refine Ad ?_;refine Dk 1 (Ah rfl rfl) ?_;refine Nf ?_;exact out1 rfl rfl retB
theorem V6 (s0:Sl Actn) (tx:ByteArray) (w:World) (hk:SlT cAct w s0):
  Calls prog 304 #[s0.v,.string tx,.func (.func 244) #[] #[]] w (RetB w (.int .i64 (idxF (fun x=>seq (Actn.nm x) tx) s0.l))):=by
 refine Eg func304 ?_;refine Wr 0 fun b4 hb4=>?_;refine Wr 1 fun b5 hb5=>?_;refine Nf ?_;refine Wk 0 (Ax rfl) ?_;refine Wk 1 (Cb rfl rfl Jew (fun u hu=>Si s0 u (hk.st hu) _ [.pointer (some ⟨b5,0,none⟩),.pointer (some ⟨b4,0,none⟩)] (fun x=>seq (Actn.nm x) tx) Ja4 (fun u2 h2 i h0 h1=>Sp _ _ _ _ _ _ u2 (((hk.st hu).ext h2).at h0 h1) ((AN hu (j:=0) rfl).ext h2) ((AN hu (j:=1) rfl).ext h2)))) ?_;refine Nf ?_;exact out1 rfl rfl retB
theorem S4 (s0:Sl Actn) (tx:ByteArray) (w:World) (g:Sl ByteArray) (hG:GOk w g) (hk:SlT cAct w s0) (hm:(tx.size:Int)<=9223372036854775806):
  Calls prog 243 #[.string tx,s0.v,.func (.func 244) #[] #[]] w (RetB w (.bool (AY tx&&!(s0.l.any fun x=>seq (Actn.nm x) tx)))):=by
 refine Eg func243 ?_;refine Wk 1 (Cb rfl rfl Jy (fun u hu=>Jc tx u g (hG.st hu) (by omega))) ?_;refine Aa ?_;refine Wt 0 rfl rfl (fun hg=>Al underlying9 (eg_ hg rfl)) ?_
 iterate 5 refine Aa ?_
 refine Wt 0 rfl rfl (fun hg=>Cb rfl (ec_ (eg_ hg rfl) (ec_ (eg_ hg rfl) (ec_ (eg_ hg rfl) en_))) Jfv (fun u hu=>V6 s0 _ u (hk.st hu))) ?_
 iterate 2 refine Aa ?_
 exact out1 rfl rfl (Af (by
    rw[<-BU,AY];congr 1;rw[Bool.eq_iff_iff];simp only[Bool.and_eq_true,decide_eq_true_eq,Bool.not_eq_true',decide_eq_false_iff_not]
    constructor<;>rintro⟨⟨a,b⟩,c⟩<;>refine⟨⟨b,a⟩,by omega⟩))
theorem Hz (r:Room) (w:World) (hr:RoomOk w r) (n:Int) (b:Nat) (e:TypeId) (hb:BlkAt w b (rcl r) e):
  Calls prog 167 #[.int .i64 n,.pointer (some ⟨b,0,none⟩)] w (RetB w (.bool (placeB r n))):=by
 have kpl:=hr.pls;have lpl:=hr.pls.le;have kth:=hr.ths;have lth:=hr.ths.le;have kpr:=hr.prs;have lpr:=hr.prs.le;have kwy:=hr.wys;have lwy:=hr.wys.le;have kac:=hr.acs;have lac:=hr.acs.le;have kau:=hr.aus;have lau:=hr.aus.le;have kgl:=hr.gl;have lgl:=hr.gl.le;refine Eg func167 ?_
 iterate 3 refine Aa ?_
 refine Wk 1 (Cb rfl rfl Cy (fun u hu=>Bq _ _ _ u)) ?_;refine Nf ?_;exact out1 rfl rfl (Af rfl)
theorem JT (r:Room) (w:World) (hr:RoomOk w r) (a b:Int):
  Calls prog 177 #[.agg (rcl r).toArray,.int .i64 a,.int .i64 b] w (RetB w (.bool (putB r.ths.l a b))):=by
 have kpl:=hr.pls;have lpl:=hr.pls.le;have kth:=hr.ths;have lth:=hr.ths.le;have kpr:=hr.prs;have lpr:=hr.prs.le;have kwy:=hr.wys;have lwy:=hr.wys.le;have kac:=hr.acs;have lac:=hr.acs.le;have kau:=hr.aus;have lau:=hr.aus.le;have kgl:=hr.gl;have lgl:=hr.gl.le;refine Eg func177 ?_;refine Wr 1 fun b3 hb3=>?_;refine Nf ?_
 iterate 3 refine Aa ?_
 refine Wk 1 (Cb rfl rfl Cy (fun u hu=>Bq _ _ _ u)) ?_
 iterate 7 refine Aa ?_
 refine Wt 0 rfl rfl (fun hg=>JQ (eg_ hg rfl) rfl) ?_;refine Wt 0 rfl rfl (fun hg=>Cb rfl (ec_ (eg_ hg rfl) (ec_ rfl (ec_ (eg_ hg rfl) en_))) Cy (fun u hu=>Bq _ _ _ u)) ?_;refine Aa ?_;exact out1 rfl rfl (Af rfl)
theorem WY (r:Room) (w:World) (hr:RoomOk w r) (x:Lit) (b:Nat) (e:TypeId) (hb:BlkAt w b (rcl r) e):
  Calls prog 242 #[.agg #[.int .i64 x.t,.int .i64 x.s,.bool x.nt],.pointer (some ⟨b,0,none⟩)] w (RetB w (.bool (!putB r.ths.l x.t x.s))):=by
 refine Eg func242 ?_;refine Wr 1 fun b2 hb2=>?_;refine Nf ?_
 iterate 3 refine Aa ?_
 refine Wk 2 (Cb rfl rfl Of (fun u hu=>JT r u (hr.st hu) _ _)) ?_;refine Nf ?_;exact out1 rfl rfl retB
theorem GL (r:Room) (w:World) (hr:RoomOk w r) (c:Sl Lit) (hk:SlT cLit w c):
  Calls prog 175 #[.agg (rcl r).toArray,c.v] w (RetB w (.bool (FD r.ths.l c.l))):=by
 have lcs:=hk.le;refine Eg func175 ?_;refine Wr 1 fun b2 hb2=>?_;refine Nf ?_;refine Wk 1 (Ax rfl) ?_;refine Nf ?_
 iterate 3 refine Aa ?_
 refine Wt 0 rfl rfl (fun hg=>Cb rfl (ec_ (eg_ hg rfl) (ec_ (eg_ hg rfl) en_)) SQ (fun u hu=>EK c u (hk.st hu) _ [.pointer (some ⟨b2,0,none⟩)] (fun x=>!putB r.ths.l x.t x.s) Jey (fun u2 h2 i h0 h1=>WY r u2 ((hr.st hu).ext h2) _ _ _ ((AN hu (j:=0) rfl).ext h2)))) ?_
 iterate 2 refine Aa ?_
 exact out1 rfl rfl (Af (by unfold FD;rw[Bool.and_comm];congr 1;simp[List.all_eq_not_any_not]))
theorem MR (r:Room) (w:World) (hr:RoomOk w r) (v:Value) (xs:List Int) (hx:SlI w v xs):
  Calls prog 245 #[.agg (rcl r).toArray,v] w (RetB w (.bool (ascB r.prs.l.length xs))):=by
 have kpl:=hr.pls;have lpl:=hr.pls.le;have kth:=hr.ths;have lth:=hr.ths.le;have kpr:=hr.prs;have lpr:=hr.prs.le;have kwy:=hr.wys;have lwy:=hr.wys.le;have kac:=hr.acs;have lac:=hr.acs.le;have kau:=hr.aus;have lau:=hr.aus.le;have kgl:=hr.gl;have lgl:=hr.gl.le;have lxs:=hx.le;refine Eg func245 ?_;refine Wr 1 fun b2 hb2=>?_;refine Nf ?_;refine Aa ?_;refine CS.loopM (σ:=Int×Int) (rsL [4,4,7,7,11,25]) (fun s=>[(10,.int .i64 s.1),(5,.int .i64 s.2)]) (fun _=>_) (fun s=>0<=s.1/\s.1<=xs.length/\((s.1=0/\s.2 = -1)\/(0<s.1/\s.2=nth xs (s.1-1)/\0<=s.2))/\∀j:Int,0<=j->j<s.1->((decide (0<=nth xs j)&&decide (nth xs j<=(r.prs.l.length:Int)-1))&&(decide (j=0)||decide (nth xs (j-1)<nth xs j)))=true) (fun s=>(xs.length-s.1).toNat) (0,-1) (fun _ _=>rfl) rfl rfl ⟨by simp,by simp,.inl ⟨rfl,rfl⟩,fun j h0 h1=>by simp at h1;omega⟩ ?_;intro s t hs;obtain⟨hs1,hs2,hs3,hs4⟩:=hs;refine Nf ?_;refine Cm ?_ ?_<;>intro hc1
 ·iterate 8 refine Aa ?_
  refine Cm ?_ ?_<;>intro hc2
  ·exact out1 rfl rfl (Af (by rw[show ascB r.prs.l.length xs=false from Fp hs1 (by omega) (by simp only[Bool.and_eq_false_iff,Bool.or_eq_false_iff,decide_eq_false_iff_not];omega)]))
  refine Aa ?_
  exact QS.head ((s.1+1,nth xs s.1)) rfl rfl ⟨⟨by simp;omega,by simp;omega,.inr ⟨by simp;omega,by simp,by simp only;omega⟩,fun j h0 h1=>by
     simp only at h1;rcases(show j<s.1\/j=s.1 by omega)with h|h
     ·exact hs4 j h0 h
     rw[h];simp only[Bool.and_eq_true,Bool.or_eq_true,decide_eq_true_eq];omega⟩,by simp;omega⟩
 exact out1 rfl rfl (Af (by rw[show ascB r.prs.l.length xs=true from Ed fun j h0 h1=>hs4 j h0 (by omega)]))
theorem VR (s0:Sl Int) (n:Int) (w:World) (hk:SlT cInt w s0):
  Calls prog 220 #[s0.v,.int .i64 n] w (RetB w (.int .i64 (idxF (fun x=>decide (n=x)) s0.l))):=by
 have hl1:=hk.le;have hki:=hk.ints;refine Eg func220 ?_;refine Aa ?_;refine CS.loopM (σ:=Int) (rsL [4,5,9,18]) (fun s=>[(8,.int .i64 s)]) (fun _=>_) (fun s=>0<=s/\s<=s0.l.length/\∀j:Int,0<=j->j<s->decide (n=nth s0.l j)=false) (fun s=>(s0.l.length-s).toNat) 0 (fun _ _=>rfl) rfl rfl ⟨by omega,by omega,fun j h1 h2=>by omega⟩ ?_;intro s t hs;obtain⟨hs1,hs2,hs3⟩:=hs;refine Nf ?_;refine Cm ?_ ?_<;>intro hc1
 ·iterate 2 refine Aa ?_
  refine Cm ?_ ?_<;>intro hc2
  ·exact out1 rfl rfl (Af (by rw[AM (p:=fun x=>decide (n=x)) hs1 (by omega) hs3 (decide_eq_true hc2)]))
  refine Aa ?_;exact QS.head (s+1) rfl rfl ⟨⟨by omega,by omega,fun j h1 h2=>if hj:j=s then by rw[hj];exact decide_eq_false hc2 else hs3 j h1 (by omega)⟩,by omega⟩
 exact out1 rfl rfl (Af (by rw[A2 (p:=fun x=>decide (n=x)) fun j h1 h2=>hs3 j h1 (by omega)]))
theorem IC (s0:Sl Int) (n:Int) (w:World) (hk:SlT cInt w s0):
  Calls prog 137 #[s0.v,.int .i64 n] w (RetB w (.bool (decide (n∈s0.l)))):=by
 refine Eg func137 ?_;refine Wk 2 (Cb rfl rfl Jc2 (fun u hu=>VR s0 _ u (hk.st hu))) ?_;refine Nf ?_;exact out1 rfl rfl (Af (by rw[BU];congr 1;rw[Bool.eq_iff_iff];simp))
theorem MU (l0:Sl ByteArray) (i:Int) (w:World) (g:Sl ByteArray) (hG:GOk w g) (hk:SlT cStr w l0) (h0:0<=i) (h1:i<l0.l.length) (hm:((id (nth l0.l i)).size:Int)<=9223372036854775806):
  Calls prog 169 #[.string (id (nth l0.l i)),(l0.cut 1 0 i.toNat).v,.func (.func 170) #[] #[]] w (RetB w (.bool (AY (id (nth l0.l i))&&newB id l0.l i))):=
 Qm (l0.cut 1 0 i.toNat) _ w g hG (hk.cut (by omega) (by omega)) hm
theorem QJ (l0:Sl Thing) (i:Int) (w:World) (g:Sl ByteArray) (hG:GOk w g) (hk:SlT cThing w l0) (h0:0<=i) (h1:i<l0.l.length) (hm:((Thing.nm (nth l0.l i)).size:Int)<=9223372036854775806):
  Calls prog 171 #[.string (Thing.nm (nth l0.l i)),(l0.cut 4 0 i.toNat).v,.func (.func 172) #[] #[]] w (RetB w (.bool (AY (Thing.nm (nth l0.l i))&&newB Thing.nm l0.l i))):=
 Tx (l0.cut 4 0 i.toNat) _ w g hG (hk.cut (by omega) (by omega)) hm
theorem Qk (l0:Sl Pro) (i:Int) (w:World) (g:Sl ByteArray) (hG:GOk w g) (hk:SlT cPro w l0) (h0:0<=i) (h1:i<l0.l.length) (hm:((Pro.nm (nth l0.l i)).size:Int)<=9223372036854775806):
  Calls prog 173 #[.string (Pro.nm (nth l0.l i)),(l0.cut 3 0 i.toNat).v,.func (.func 174) #[] #[]] w (RetB w (.bool (AY (Pro.nm (nth l0.l i))&&newB Pro.nm l0.l i))):=
 S0 (l0.cut 3 0 i.toNat) _ w g hG (hk.cut (by omega) (by omega)) hm
theorem Rc (l0:Sl Actn) (i:Int) (w:World) (g:Sl ByteArray) (hG:GOk w g) (hk:SlT cAct w l0) (h0:0<=i) (h1:i<l0.l.length) (hm:((Actn.nm (nth l0.l i)).size:Int)<=9223372036854775806):
  Calls prog 243 #[.string (Actn.nm (nth l0.l i)),(l0.cut 8 0 i.toNat).v,.func (.func 244) #[] #[]] w (RetB w (.bool (AY (Actn.nm (nth l0.l i))&&newB Actn.nm l0.l i))):=
 S4 (l0.cut 8 0 i.toNat) _ w g hG (hk.cut (by omega) (by omega)) hm
theorem Oi (a:Actn):act3 a = !(a.sp.l.any fun x=>!decide (x∈a.us.l)):=by
 unfold act3;rw[<-Iy (p:=fun x=>decide (x∈a.us.l)),List.all_eq_not_any_not]
theorem OG (a:Actn):act4 a = !(a.br.l.any fun x=>decide (x∈a.us.l)):=by
 unfold act4;rw[<-Iy (p:=fun x=>!decide (x∈a.us.l)),List.all_eq_not_any_not];simp
theorem Tm (a:Actn) (w:World) (ha:SlT cInt w a.us) (p:Int) (b:Nat) (e:TypeId) (hb:BlkAt w b [.string a.nm,.int .i64 a.pl,.int .i64 a.lk,a.us.v,a.wh.v,a.se.v,a.sp.v,a.br.v] e):
  Calls prog 246 #[.int .i64 p,.pointer (some ⟨b,0,none⟩)] w (RetB w (.bool (decide (p∈a.us.l)))):=by
 refine Eg func246 ?_;refine Aa ?_;refine Wk 1 (Cb rfl rfl XA (fun u hu=>IC a.us _ u (ha.st hu))) ?_;refine Nf ?_;exact out1 rfl rfl retB
theorem Ro (a:Actn) (w:World) (ha:SlT cInt w a.us) (p:Int) (b b7:Nat) (e e7:TypeId) (hb:BlkAt w b [.string a.nm,.int .i64 a.pl,.int .i64 a.lk,a.us.v,a.wh.v,a.se.v,a.sp.v,a.br.v] e) (h7:BlkAt w b7 [.func (.func 246) #[] #[.pointer (some ⟨b,0,none⟩)]] e7):
  Calls prog 247 #[.int .i64 p,.pointer (some ⟨b7,0,none⟩)] w (RetB w (.bool (!decide (p∈a.us.l)))):=by
 refine Eg func247 ?_;refine Aa ?_;refine Wk 2 (Cb rfl rfl XL (fun u hu=>Tm a u (ha.st hu) p b e (hb.st hu))) ?_;refine Nf ?_;exact out1 rfl rfl retB
theorem WX (x y:Put) (w:World) (b:Nat) (e:TypeId) (hb:BlkAt w b [.int .i64 y.t,.int .i64 y.s] e):
  Calls prog 249 #[.agg #[.int .i64 x.t,.int .i64 x.s],.pointer (some ⟨b,0,none⟩)] w (RetB w (.bool (decide (x.t=y.t)))):=by
 refine Eg func249 ?_;refine Wr 1 fun b2 hb2=>?_;refine Nf ?_
 iterate 2 refine Aa ?_
 exact out1 rfl rfl retB
theorem Jcg (r:Room) (w:World) (hr:RoomOk w r) (g:Sl ByteArray) (hG:GOk w g) (i:Int) (h0:0<=i) (h1:i<r.acs.l.length) (hn:∀x∈r.acs.l,x.nm.size<=70000):
  Calls prog 176 #[.agg (rcl r).toArray,.int .i64 i,.agg #[.string (nth r.acs.l i).nm,.int .i64 (nth r.acs.l i).pl,.int .i64 (nth r.acs.l i).lk,(nth r.acs.l i).us.v,(nth r.acs.l i).wh.v,(nth r.acs.l i).se.v,(nth r.acs.l i).sp.v,(nth r.acs.l i).br.v]] w (RetB w (.bool (actB r i))):=by
 have kpl:=hr.pls;have lpl:=hr.pls.le;have kth:=hr.ths;have lth:=hr.ths.le;have kpr:=hr.prs;have lpr:=hr.prs.le;have kwy:=hr.wys;have lwy:=hr.wys.le;have kac:=hr.acs;have lac:=hr.acs.le;have kau:=hr.aus;have lau:=hr.aus.le;have kgl:=hr.gl;have lgl:=hr.gl.le;have ha:ActOk w (nth r.acs.l i):=hr.acs.at h0 h1;have hus:=ha.us.ints;have hsp:=ha.sp.ints;have hbr:=ha.br.ints;have kse:=ha.se;have lse:=kse.le;have hnm:=hn _ (Ai h0 h1);refine Eg func176 ?_;refine Wr 0 fun b3 hb3=>?_;refine Wr 1 fun b5 hb5=>?_;refine Nf ?_;refine Dg mixed ?_
 iterate 2 refine Ad ?_
 refine Dk 0 (Cl sl27 rfl rfl (by first|assumption|exact SlL.sp (by assumption)|exact ClS.sp (by assumption)|exact SlT.sp (by assumption)) (by omega) (by omega)) ?_;refine Dk 2 (Cb rfl rfl Jd8 (fun u hu=>Rc r.acs i u g (hG.st hu) (kac.st hu) h0 h1 (by omega))) ?_
 iterate 6 refine Ad ?_
 refine Df 0 rfl rfl (fun hg=>Cb rfl (ec_ (eg_ hg rfl) (ec_ rfl (ec_ (eg_ hg rfl) en_))) Cy (fun u hu=>Bq _ _ _ u)) ?_
 iterate 4 refine Ad ?_
 refine Df 0 rfl rfl (fun hg=>Cb rfl (ec_ (eg_ hg rfl) (ec_ rfl (ec_ rfl en_))) Cy (fun u hu=>Bq _ _ _ u)) ?_
 iterate 2 refine Ad ?_
 refine Cm ?_ ?_<;>intro hc1
 ·exact out1 rfl rfl (Af (by rw[show actB r i=false by(unfold actB act2 placeB;grind)]))
 have e1:newB Actn.nm r.acs.l i=true:=by grind
 iterate 2 refine Aa ?_
 refine Wk 2 (Cb rfl rfl UE (fun u hu=>MR r u (hr.st hu) _ _ (hus.st hu))) ?_
 iterate 3 refine Aa ?_
 refine Wf 0 rfl rfl (fun hg=>Cb rfl (ec_ (eg_ hg rfl) (ec_ (eg_ hg rfl) en_)) UE (fun u hu=>MR r u (hr.st hu) _ _ (hsp.st hu))) ?_
 iterate 5 refine Aa ?_
 refine Wf 0 rfl rfl (fun hg=>Cb rfl (ec_ (eg_ hg rfl) (ec_ (eg_ hg rfl) en_)) UE (fun u hu=>MR r u (hr.st hu) _ _ (hbr.st hu))) ?_
 iterate 7 refine Aa ?_
 refine Cm ?_ ?_<;>intro hc2
 ·exact out1 rfl rfl (Af (by rw[show actB r i=false by(unfold actB act2;grind)]))
 have e2:act2 r (nth r.acs.l i)=true:=by(unfold act2 placeB;grind)
 refine Wk 0 (Ax rfl) ?_;refine Wq 0 Jg6 fun b7 hb7=>?_;refine Ws 0 0 ?_;refine Nf ?_;refine Wk 1 (Ax rfl) ?_;refine Nf ?_;refine Aa ?_;refine Wk 1 (Cb rfl rfl O4 (fun u hu=>Ew (nth r.acs.l i).sp u (ha.sp.st hu) _ [.pointer (some ⟨b7,0,none⟩)] (fun x=>!decide (x∈(nth r.acs.l i).us.l)) Jd0 (fun u2 h2 j a0 a1=>Ro (nth r.acs.l i) u2 ((ha.us.st hu).ext h2) _ _ _ _ _ ((AN hu (j:=1) rfl).ext h2) ((AN hu (j:=0) rfl).ext h2)))) ?_
 iterate 3 refine Aa ?_
 refine Wf 0 rfl rfl (fun hg=>Cb rfl (ec_ (eg_ hg rfl) (ec_ (eg_ hg rfl) en_)) O4 (fun u hu=>Ew (nth r.acs.l i).br u (ha.br.st hu) _ [.pointer (some ⟨b5,0,none⟩)] (fun x=>decide (x∈(nth r.acs.l i).us.l)) XL (fun u2 h2 j a0 a1=>Tm (nth r.acs.l i) u2 ((ha.us.st hu).ext h2) _ _ _ ((AN hu (j:=1) rfl).ext h2)))) ?_;refine Aa ?_;refine Cm ?_ ?_<;>intro hc3
 ·exact out1 rfl rfl (Af (by rw[show actB r i=false by(unfold actB;rw[Oi,OG];rcases hc3 with h|h<;>simp[h])]))
 have e3:act3 (nth r.acs.l i)=true:=by(rw[Oi];simp only[Bool.not_eq_true'];exact hc3.1)
 have e4:act4 (nth r.acs.l i)=true:=by(rw[OG];simp only[Bool.not_eq_true'];exact hc3.2)
 iterate 2 refine Aa ?_
 refine CS.loopM (σ:=Int) (rsL [6,6,9,11,77,97]) (fun s=>[(76,.int .i64 s)]) (fun _=>_) (fun s=>0<=s/\s<=(nth r.acs.l i).se.l.length/\∀j:Int,0<=j->j<s->(putB r.ths.l (nth (nth r.acs.l i).se.l j).t (nth (nth r.acs.l i).se.l j).s&&!(((nth r.acs.l i).se.l.take j.toNat).any fun x=>decide (x.t=(nth (nth r.acs.l i).se.l j).t)))=true) (fun s=>((nth r.acs.l i).se.l.length-s).toNat) 0 (fun _ _=>rfl) rfl rfl ⟨by omega,by omega,fun j _ _=>by omega⟩ ?_;intro p t hs;obtain⟨hp1,hp2,hp3⟩:=hs;refine Nf ?_;refine Cm ?_ ?_<;>intro hc4
 ·iterate 2 refine Aa ?_
  refine Wq 1 GN fun b10 hb10=>?_;refine Wv 0 0 ?_;refine Nf ?_;refine Aa ?_;refine Wk 0 (Cl KP rfl rfl (by first|assumption|exact SlL.sp (by assumption)|exact ClS.sp (by assumption)|exact SlT.sp (by assumption)) (by omega) (by omega)) ?_;refine Wk 0 (Ax rfl) ?_;refine Wk 1 (Cb rfl rfl Jgj (fun u hu=>K3 ((nth r.acs.l i).se.cut 2 0 p.toNat) u ((ha.se.cut (by omega) (by omega)).st hu) _ [.pointer (some ⟨b10,0,none⟩)] (fun x=>decide (x.t=(nth (nth r.acs.l i).se.l p).t)) Jcl (fun u2 h2 j a0 a1=>WX _ (nth (nth r.acs.l i).se.l p) u2 _ _ ((AN hu (j:=0) rfl).ext h2)))) ?_;refine Nf ?_
  iterate 3 refine Aa ?_
  refine Wk 2 (Cb rfl rfl Of (fun u hu=>JT r u (hr.st hu) _ _)) ?_
  iterate 2 refine Aa ?_
  refine Cm ?_ ?_<;>intro hc5
  ·exact out1 rfl rfl (Af (by rw[show actB r i=false by(unfold actB;rw[show act5 r (nth r.acs.l i)=false from Fp hp1 (by omega) (by simp only[Bool.and_eq_false_iff,Bool.not_eq_false'];exact hc5)];simp)]))
  refine Aa ?_;refine QS.sel [1,1,1] rfl ?_
  exact QS.head (p+1) rfl rfl ⟨⟨by omega,by omega,fun j h0 h1=>by
     rcases(show j<p\/j=p by omega)with h|h
     ·exact hp3 j h0 h
     rw[h];simp only[Bool.and_eq_true,Bool.not_eq_true'];exact⟨hc5.1,hc5.2⟩⟩,by omega⟩
 exact out1 rfl rfl (Af (by unfold actB;rw[e1,e2,e3,e4,show act5 r (nth r.acs.l i)=true from Ed fun j a b=>hp3 j a (by omega)];rfl))
theorem IX (r:Room) (w:World) (hr:RoomOk w r) (g:Sl ByteArray) (hG:GOk w g) (hn:NmB r):
  Calls prog 76 #[.agg (rcl r).toArray] w (RetB w (.int .i64 (checkE r))):=by
 have kpl:=hr.pls;have lpl:=hr.pls.le;have kth:=hr.ths;have lth:=hr.ths.le;have kpr:=hr.prs;have lpr:=hr.prs.le;have kwy:=hr.wys;have lwy:=hr.wys.le;have kac:=hr.acs;have lac:=hr.acs.le;have kau:=hr.aus;have lau:=hr.aus.le;have kgl:=hr.gl;have lgl:=hr.gl.le;refine En func76 ?_;refine Nz 0 ?_;refine Wr 1 fun b1 hb1=>?_;refine Nv 1 ?_;refine Wk 0 (Ba 0) ?_;refine Wk 2 Nc ?_;refine We 0 ?_;refine We 0 ?_;refine We 0 ?_;refine We 0 ?_;refine Wk 1 Po ?_;refine We 0 ?_;refine We 0 ?_;refine We 0 ?_;refine We 0 ?_;refine Wk 1 Po ?_;refine We 0 ?_;refine We 0 ?_;refine We 0 ?_;refine We 0 ?_;refine Wk 1 Po ?_;refine We 0 ?_;refine We 0 ?_;refine We 0 ?_;refine We 0 ?_;refine Wk 1 Po ?_;refine We 0 ?_;refine We 0 ?_;refine We 0 ?_;refine We 0 ?_;refine Wk 0 Po ?_;refine Wp ?_ ?_<;>intro hc1
 ·refine Nz 1 ?_;exact Wd (Qc (Cr (Qr (out1 rfl rfl (Af (by rw[show checkE r=2 from if_pos (by(unfold manyB;grind))]))))))
 have e0:manyB r=false:=by(unfold manyB;grind)
 refine Ck (Qc (Nz 0 ?_));refine Wk 1 (Ax rfl) ?_;refine Nv 1 ?_;refine Wk 0 (Ba 0) ?_;refine Wk 1 Nc ?_;refine Nu ?_;refine CS.loopM (σ:=Int) (rsL [2,2,4,5,55,66]) (fun s=>[(54,.int .i64 s)]) (fun _=>_) (fun s=>0<=s/\s<=r.pls.l.length/\∀j:Int,0<=j->j<s->plO r j=0) (fun s=>(r.pls.l.length-s).toNat) 0 (fun _ _=>rfl) rfl rfl ⟨by omega,by omega,fun j _ _=>by omega⟩ ?_;intro a t hs;obtain⟨ha1,ha2,ha3⟩:=hs;refine Nz 1 ?_;refine Wd (Qc (Cs (Cn ?_ ?_)))<;>intro hc2
 ·have hnm:=hn.pl _ (Ai ha1 (by omega));refine Ck (Qc (Cs (Ce (Nz 1 ?_))));refine Wk 0 Xc ?_;refine Wk 2 Ub ?_;refine Nx 2 ?_;refine Wk 1 (Ba 0) ?_;refine Wk 0 (Cl sl23 rfl rfl (by first|assumption|exact SlL.sp (by assumption)|exact ClS.sp (by assumption)|exact SlT.sp (by assumption)) (by omega) (by omega)) ?_;refine Wk 1 (Cb rfl rfl Jdm (fun u hu=>MU r.pls a u g (hG.st hu) (kpl.st hu) ha1 (by omega) (by simp only[id];omega))) ?_;refine Wp ?_ ?_<;>intro hc3
  ·refine Nz 1 ?_;refine Wd (Qc (Cr (Qs (Qr (Qr (Qs (Qr ?_)))))))
   exact out1 rfl rfl (Af (by
      have e1:checkE r=Gp r:=by unfold checkE;rw[if_neg (by rw[e0];decide),if_neg (by omega)]
      have hE:plO r a=22:=by(unfold plO;simp only[id]at hc3;grind)
      rw[e1,show Gp r=22 from Bu ((Av ha1 (by omega) ha3 (by rw[hE];decide)).trans hE) (by decide)]))
  refine Ck (Qb (Qc (Ny 0 ?_)));refine Wk 1 Za ?_;refine Wd ?_
  exact QS.head (a+1) rfl rfl ⟨⟨by omega,by omega,fun j h0 h1=>by
     rcases(show j<a\/j=a by omega)with h|h
     ·exact ha3 j h0 h
     rw[h];exact(show plO r a=0 by(unfold plO;simp only[id]at hc3;grind))⟩,by omega⟩
 refine Cv (Qe (Qe (Qx (Qc (Cs (Nz 1 ?_))))));refine Wk 0 (Ba 0) ?_;refine Wk 1 Nc ?_;refine Wp ?_ ?_<;>intro hc4
 ·refine Nz 1 ?_;exact Wd (Qc (Cr (Qr (out1 rfl rfl (Af (by unfold checkE;rw[if_neg (by rw[e0];decide),if_pos (by omega)]))))))
 have e1:checkE r=Gp r:=by unfold checkE;rw[if_neg (by rw[e0];decide),if_neg (by omega)]
 have e2:checkE r=IM r:=e1.trans (Bx (Ay fun j a b=>ha3 j a (by omega)));refine Ck (Qc (Cs (Nz 1 ?_)));refine Wk 0 (Ba 0) ?_;refine Wk 1 Nc ?_;refine Nu ?_;refine CS.loopM (σ:=Int) (rsL [2,2,6,7,75,109]) (fun s=>[(74,.int .i64 s)]) (fun _=>_) (fun s=>0<=s/\s<=r.ths.l.length/\∀j:Int,0<=j->j<s->thO r j=0) (fun s=>(r.ths.l.length-s).toNat) 0 (fun _ _=>rfl) rfl rfl ⟨by omega,by omega,fun j _ _=>by omega⟩ ?_;intro b t hs;obtain⟨hb1,hb2,hb3⟩:=hs;refine Nz 1 ?_;refine Wd (Qc (Cs (Cn ?_ ?_)))<;>intro hc5
 ·have hnm:=hn.th _ (Ai hb1 (by omega));refine Ck (Qc (Cs (Ce (Nz 1 ?_))));refine Wk 0 Xc ?_;refine Wk 0 Ua ?_;refine Wq 1 FG fun b7 hb7=>?_;refine Wv 0 0 ?_;refine Wd (Qc (Cs (Dr mixed 1 ?_)));refine Dk 1 (Ba 0) ?_;refine Dk 1 (Ba 1) ?_;refine Dk 0 (Cl sl24 rfl rfl (by first|assumption|exact SlL.sp (by assumption)|exact ClS.sp (by assumption)|exact SlT.sp (by assumption)) (by omega) (by omega)) ?_;refine Dk 2 (Cb rfl rfl Jfm (fun u hu=>QJ r.ths b u g (hG.st hu) (kth.st hu) hb1 (by omega) (by omega))) ?_;refine De 0 ?_;refine De 0 ?_;refine De 0 ?_;refine Df 0 rfl rfl (fun hg=>Cb (eg_ hg rfl) (ec_ (eg_ hg rfl) en_) Pz (fun u hu=>Hz r u (hr.st hu) _ b1 _ (AN hu (j:=1) rfl))) ?_;refine De 0 ?_;refine Dk 1 Po ?_;refine De 0 ?_;refine De 0 ?_;refine Df 0 rfl rfl (fun hg=>Cb rfl (ec_ (eg_ hg rfl) (ec_ rfl (ec_ rfl en_))) Cy (fun u hu=>Bq _ _ _ u)) ?_;refine De 0 ?_;refine Dk 1 Po ?_;refine De 0 ?_;refine De 0 ?_;refine De 0 ?_;refine De 0 ?_;refine De 0 ?_;refine Df 0 rfl rfl (fun hg=>Cb rfl (ec_ (eg_ hg rfl) (ec_ rfl (ec_ (eg_ hg rfl) en_))) Cy (fun u hu=>Bq _ _ _ u)) ?_;refine De 0 ?_;refine Dk 0 Po ?_;refine Dd (Qc (Cn ?_ ?_))<;>intro hc6
  ·refine Nz 1 ?_;refine Wd (Qc (Cr (Qs (Qr (Qr (Qs (Qr ?_)))))))
   exact out1 rfl rfl (Af (by
      have hE:thO r b=21:=by(unfold thO thB;grind)
      rw[e2,show IM r=21 from Bu ((Av hb1 (by omega) hb3 (by rw[hE];decide)).trans hE) (by decide)]))
  refine Ck (Qb (Qc (Ny 0 ?_)));refine Wk 1 Za ?_;refine Wd ?_;refine QS.sel [1] rfl ?_
  exact QS.head (b+1) rfl rfl ⟨⟨by omega,by omega,fun j h0 h1=>by
     rcases(show j<b\/j=b by omega)with h|h
     ·exact hb3 j h0 h
     rw[h];exact(show thO r b=0 by(unfold thO thB;grind))⟩,by omega⟩
 have e3:checkE r=Gf r:=e2.trans (Bx (Ay fun j a b=>hb3 j a (by omega)));refine Cv (Qe (Qe (Qx (Qc (Cs (Nz 1 ?_))))));refine Wk 0 (Ba 0) ?_;refine Wk 1 Nc ?_;refine Nu ?_;refine CS.loopM (σ:=Int) (rsL [2,2,8,9,114,143]) (fun s=>[(113,.int .i64 s)]) (fun _=>_) (fun s=>0<=s/\s<=r.prs.l.length/\∀j:Int,0<=j->j<s->prO r j=0) (fun s=>(r.prs.l.length-s).toNat) 0 (fun _ _=>rfl) rfl rfl ⟨by omega,by omega,fun j _ _=>by omega⟩ ?_;intro d t hs;obtain⟨hd1,hd2,hd3⟩:=hs;refine Nz 1 ?_;refine Wd (Qc (Cs (Cn ?_ ?_)))<;>intro hc7
 ·have hnm:=hn.pr _ (Ai hd1 (by omega));have hwh:SlT cLit w (nth r.prs.l d).wh:=hr.prs.at hd1 (by omega);refine Ck (Qc (Cs (Ce (Nz 1 ?_))));refine Wk 0 Xc ?_;refine Wk 0 Ua ?_;refine Wq 1 EP fun b9 hb9=>?_;refine Wv 0 0 ?_;refine Wd (Qc (Cs (Cs (Dr mixed 1 ?_))));refine Dk 1 (Ba 0) ?_;refine Dk 1 (Ba 1) ?_;refine Dk 0 (Cl sl25 rfl rfl (by first|assumption|exact SlL.sp (by assumption)|exact ClS.sp (by assumption)|exact SlT.sp (by assumption)) (by omega) (by omega)) ?_;refine Dk 2 (Cb rfl rfl Jfi (fun u hu=>Qk r.prs d u g (hG.st hu) (kpr.st hu) hd1 (by omega) (by omega))) ?_;refine De 0 ?_;refine De 0 ?_;refine De 0 ?_;refine Df 0 rfl rfl (fun hg=>Cb (eg_ hg rfl) (ec_ (eg_ hg rfl) en_) Pz (fun u hu=>Hz r u (hr.st hu) _ b1 _ (AN hu (j:=1) rfl))) ?_;refine De 0 ?_;refine Df 0 rfl rfl (fun hg=>Fm (eg_ hg rfl)) ?_;refine Dn 0 rfl rfl rfl (fun hg=>Ff) ?_;refine Dn 0 rfl rfl rfl (fun hg=>Ba 0) ?_;refine Dn 0 rfl rfl rfl (fun hg=>Fr) ?_;refine Df 0 rfl rfl (fun hg=>AW (eg_ hg rfl) (Cg hg rfl) rfl) ?_;refine Dk 0 Po ?_;refine Dd (Qc (Cn ?_ ?_))<;>intro hc8
  ·refine Nz 1 ?_;refine Wd (Qc (Cr (Qr (Qs (Qr (Qr (Qs (Qr ?_))))))))
   exact out1 rfl rfl (Af (by
      have hE:prO r d=24:=by(unfold prO or0;grind)
      rw[e3,show Gf r=24 from Bu ((Av hd1 (by omega) hd3 (by rw[hE];decide)).trans hE) (by decide)]))
  refine Ck (Qc (Nz 0 ?_));refine Wk 1 (Bb 1) ?_;refine Wk 0 (Ba 0) ?_;refine Wk 1 (Cb rfl rfl Jq (fun u hu=>GL r u (hr.st hu) _ (hwh.st hu))) ?_;refine Wp ?_ ?_<;>intro hc9
  ·refine Nz 1 ?_;refine Wd (Qc (Cr (Qs (Qr (Qr (Qs (Qr ?_)))))))
   exact out1 rfl rfl (Af (by
      have hE:prO r d=25:=by(unfold prO or0 whO;grind)
      rw[e3,show Gf r=25 from Bu ((Av hd1 (by omega) hd3 (by rw[hE];decide)).trans hE) (by decide)]))
  refine Ck (Qb (Qc (Ny 0 ?_)));refine Wk 1 Za ?_;refine Wd ?_;refine QS.sel [1] rfl ?_
  exact QS.head (d+1) rfl rfl ⟨⟨by omega,by omega,fun j h0 h1=>by
     rcases(show j<d\/j=d by omega)with h|h
     ·exact hd3 j h0 h
     rw[h];exact(show prO r d=0 by(unfold prO or0 whO;grind))⟩,by omega⟩
 have e4:checkE r=Gt r:=e3.trans (Bx (Ay fun j a b=>hd3 j a (by omega)));refine Cv (Qe (Qe (Qx (Qc (Cs (Nz 1 ?_))))));refine Wk 0 (Ba 0) ?_;refine Wk 1 Nc ?_;refine Nu ?_;refine CS.loopM (σ:=Int) (rsL [2,2,11,11,148,175]) (fun s=>[(147,.int .i64 s)]) (fun _=>_) (fun s=>0<=s/\s<=r.wys.l.length/\∀j:Int,0<=j->j<s->wyO r j=0) (fun s=>(r.wys.l.length-s).toNat) 0 (fun _ _=>rfl) rfl rfl ⟨by omega,by omega,fun j _ _=>by omega⟩ ?_;intro e t hs;obtain⟨he1,he2,he3⟩:=hs;refine Nz 1 ?_;refine Wd (Qc (Cs (Cn ?_ ?_)))<;>intro hc10
 ·have hwh:SlT cLit w (nth r.wys.l e).wh:=hr.wys.at he1 (by omega);refine Ck (Qc (Cs (Ce (Nz 0 ?_))));refine Wk 0 Xc ?_;refine Wk 0 Ua ?_;refine Wq 0 Ex fun b11 hb11=>?_;refine Wv 0 0 ?_;refine Nv 2 ?_;refine Wk 0 (Ba 0) ?_;refine Wk 2 (Cb rfl rfl Pz (fun u hu=>Hz r u (hr.st hu) _ b1 _ (AN hu (j:=1) rfl))) ?_;refine We 0 ?_;refine We 0 ?_;refine We 0 ?_;refine Wf 0 rfl rfl (fun hg=>Cb (eg_ hg rfl) (ec_ (eg_ hg rfl) en_) Pz (fun u hu=>Hz r u (hr.st hu) _ b1 _ (AN hu (j:=1) rfl))) ?_;refine We 0 ?_;refine Wk 1 Po ?_;refine We 0 ?_;refine We 0 ?_;refine We 0 ?_;refine We 0 ?_;refine We 0 ?_;refine Wk 0 Po ?_;refine Wp ?_ ?_<;>intro hc11
  ·refine Nz 1 ?_;refine Wd (Qc (Cr (Qr (Qs (Qr (Qr (Qs (Qr ?_))))))))
   exact out1 rfl rfl (Af (by
      have hE:wyO r e=23:=by(unfold wyO or0;grind)
      rw[e4,show Gt r=23 from Bu ((Av he1 (by omega) he3 (by rw[hE];decide)).trans hE) (by decide)]))
  refine Ck (Qc (Nz 0 ?_));refine Wk 1 (Bb 1) ?_;refine Wk 0 (Ba 0) ?_;refine Wk 1 (Cb rfl rfl Jq (fun u hu=>GL r u (hr.st hu) _ (hwh.st hu))) ?_;refine Wp ?_ ?_<;>intro hc12
  ·refine Nz 1 ?_;refine Wd (Qc (Cr (Qs (Qr (Qr (Qs (Qr ?_)))))))
   exact out1 rfl rfl (Af (by
      have hE:wyO r e=25:=by(unfold wyO or0 whO;grind)
      rw[e4,show Gt r=25 from Bu ((Av he1 (by omega) he3 (by rw[hE];decide)).trans hE) (by decide)]))
  refine Ck (Qb (Qc (Ny 0 ?_)));refine Wk 1 Za ?_;refine Wd ?_;refine QS.sel [1] rfl ?_
  exact QS.head (e+1) rfl rfl ⟨⟨by omega,by omega,fun j h0 h1=>by
     rcases(show j<e\/j=e by omega)with h|h
     ·exact he3 j h0 h
     rw[h];exact(show wyO r e=0 by(unfold wyO or0 whO;grind))⟩,by omega⟩
 have e5:checkE r=Gr r:=e4.trans (Bx (Ay fun j a b=>he3 j a (by omega)));refine Cv (Qe (Qe (Qx (Qc (Cs (Nz 1 ?_))))));refine Wk 0 (Ba 0) ?_;refine Wk 1 Nc ?_;refine Nu ?_;refine CS.loopM (σ:=Int) (rsL [2,2,12,13,180,194]) (fun s=>[(179,.int .i64 s)]) (fun _=>_) (fun s=>0<=s/\s<=r.acs.l.length/\∀j:Int,0<=j->j<s->acO r j=0) (fun s=>(r.acs.l.length-s).toNat) 0 (fun _ _=>rfl) rfl rfl ⟨by omega,by omega,fun j _ _=>by omega⟩ ?_;intro k t hs;obtain⟨hk1,hk2,hk3⟩:=hs;refine Nz 1 ?_;refine Wd (Qc (Cs (Cn ?_ ?_)))<;>intro hc13
 ·have hak:ActOk w (nth r.acs.l k):=hr.acs.at hk1 (by omega);have hwh:SlT cLit w (nth r.acs.l k).wh:=hak.wh;refine Ck (Qc (Cs (Ce (Nz 1 ?_))));refine Wk 0 Xc ?_;refine Wk 0 Ua ?_;refine Wq 1 E3 fun b13 hb13=>?_;refine Wv 0 0 ?_;refine Nv 0 ?_;refine Wk 1 (Bb 1) ?_;refine Wk 0 (Bb 0) ?_;refine Wk 1 (Cb rfl rfl Jb2 (fun u hu=>Jcg r u (hr.st hu) g (hG.st hu) _ hk1 (by omega) (fun x hx=>(hn.ac x hx).1))) ?_;refine Wp ?_ ?_<;>intro hc14
  ·refine Nz 1 ?_;refine Wd (Qc (Cr (Qr (Qs (Qr (Qr (Qs (Qr ?_))))))))
   exact out1 rfl rfl (Af (by
      have hE:acO r k=26:=by(unfold acO or0;grind)
      rw[e5,show Gr r=26 from Bu ((Av hk1 (by omega) hk3 (by rw[hE];decide)).trans hE) (by decide)]))
  refine Ck (Qc (Nz 0 ?_));refine Wk 1 (Bb 1) ?_;refine Wk 0 (Ba 0) ?_;refine Wk 1 (Cb rfl rfl Jq (fun u hu=>GL r u (hr.st hu) _ (hwh.st hu))) ?_;refine Wp ?_ ?_<;>intro hc15
  ·refine Nz 1 ?_;refine Wd (Qc (Cr (Qs (Qr (Qr (Qs (Qr ?_)))))))
   exact out1 rfl rfl (Af (by
      have hE:acO r k=25:=by(unfold acO or0 whO;grind)
      rw[e5,show Gr r=25 from Bu ((Av hk1 (by omega) hk3 (by rw[hE];decide)).trans hE) (by decide)]))
  refine Ck (Qb (Qc (Ny 0 ?_)));refine Wk 1 Za ?_;refine Wd ?_;refine QS.sel [1] rfl ?_
  exact QS.head (k+1) rfl rfl ⟨⟨by omega,by omega,fun j h0 h1=>by
     rcases(show j<k\/j=k by omega)with h|h
     ·exact hk3 j h0 h
     rw[h];exact(show acO r k=0 by(unfold acO or0 whO;grind))⟩,by omega⟩
 have e6:checkE r=Gi r:=e5.trans (Bx (Ay fun j a b=>hk3 j a (by omega)));refine Cv (Qe (Qe (Qx (Qc (Cs (Nz 1 ?_))))));refine Wk 0 (Ba 0) ?_;refine Wk 1 Nc ?_;refine Nu ?_;refine CS.loopM (σ:=Int) (rsL [2,2,15,15,199,216]) (fun s=>[(198,.int .i64 s)]) (fun _=>_) (fun s=>0<=s/\s<=r.aus.l.length/\∀j:Int,0<=j->j<s->auO r j=0) (fun s=>(r.aus.l.length-s).toNat) 0 (fun _ _=>rfl) rfl rfl ⟨by omega,by omega,fun j _ _=>by omega⟩ ?_;intro m t hs;obtain⟨hm1,hm2,hm3⟩:=hs;refine Nz 1 ?_;refine Wd (Qc (Cs (Cn ?_ ?_)))<;>intro hc16
 ·have hwh:SlT cLit w (nth r.aus.l m).wh:=hr.aus.at hm1 (by omega);refine Ck (Qc (Cs (Ce (Nz 0 ?_))));refine Wk 0 Xc ?_;refine Wk 0 Ua ?_;refine Wq 0 Nh fun b15 hb15=>?_;refine Wv 0 0 ?_;refine Nv 0 ?_;refine Wk 2 (Bb 1) ?_;refine Wk 2 (Ba 0) ?_;refine Wk 0 (Ba 0) ?_;refine Wk 1 (Cb rfl rfl Of (fun u hu=>JT r u (hr.st hu) _ _)) ?_;refine Wp ?_ ?_<;>intro hc17
  ·refine Nz 1 ?_;refine Wd (Qc (Cr (Qr (Qs (Qr (Qr (Qs (Qr ?_))))))))
   exact out1 rfl rfl (Af (by
      have hE:auO r m=27:=by(unfold auO or0;grind)
      rw[e6,show Gi r=27 from Bu ((Av hm1 (by omega) hm3 (by rw[hE];decide)).trans hE) (by decide)]))
  refine Ck (Qc (Nz 0 ?_));refine Wk 1 (Bb 1) ?_;refine Wk 0 (Ba 0) ?_;refine Wk 1 (Cb rfl rfl Jq (fun u hu=>GL r u (hr.st hu) _ (hwh.st hu))) ?_;refine Wp ?_ ?_<;>intro hc18
  ·refine Nz 1 ?_;refine Wd (Qc (Cr (Qs (Qr (Qr (Qs (Qr ?_)))))))
   exact out1 rfl rfl (Af (by
      have hE:auO r m=25:=by(unfold auO or0 whO;grind)
      rw[e6,show Gi r=25 from Bu ((Av hm1 (by omega) hm3 (by rw[hE];decide)).trans hE) (by decide)]))
  refine Ck (Qb (Qc (Ny 0 ?_)));refine Wk 1 Za ?_;refine Wd ?_;refine QS.sel [1] rfl ?_
  exact QS.head (m+1) rfl rfl ⟨⟨by omega,by omega,fun j h0 h1=>by
     rcases(show j<m\/j=m by omega)with h|h
     ·exact hm3 j h0 h
     rw[h];exact(show auO r m=0 by(unfold auO or0 whO;grind))⟩,by omega⟩
 have e7:checkE r=glO r:=e6.trans (Bx (Ay fun j a b=>hm3 j a (by omega)));refine Cv (Qe (Qe (Qx (Qc (Cs (Nz 1 ?_))))));refine Wk 0 (Ba 0) ?_;refine Wk 1 (Cb rfl rfl Cy (fun u hu=>Bq _ _ _ u)) ?_;refine Wp ?_ ?_<;>intro hc19
 ·refine Nz 1 ?_;exact Wd (Qc (Cr (Qr (out1 rfl rfl (Af (by rw[e7,show glO r=1 by(unfold glO or0;grind)]))))))
 refine Ck (Qc (Cs (Nz 0 ?_)));refine Wk 1 (Bb 0) ?_;refine Wk 0 (Ba 0) ?_;refine Wk 1 (Cb rfl rfl Jq (fun u hu=>GL r u (hr.st hu) _ (kgl.st hu))) ?_;refine Wp ?_ ?_<;>intro hc20
 ·refine Nz 1 ?_;exact Wd (Qc (Cr (Qr (out1 rfl rfl (Af (by rw[e7,show glO r=25 by(unfold glO or0 whO;grind)]))))))
 refine Ck (Qc (Nz 1 ?_));exact Wd (Qc (Cr (out1 rfl rfl (Af (by rw[e7,show glO r=0 by(unfold glO or0 whO;grind)])))))
theorem OO (r:Room) (w:World) (hr:RoomOk w r) (g:Sl ByteArray) (hG:GOk w g) (hn:Near r):Calls prog 76 #[.agg (rcl r).toArray] w (RetB w (.int .i64 (checkE r))):=IX r w hr g hG hn.nm
end Go.Proofs.YtllebkdchemabaaGreatDoor
