/- Merged texts of this proof (walks and plain laws), printed by a program of the prover. -/
import Derived.Test.YtfbfdnoodccgiaaGreatDoorZh
import Derived.Test.YtfbfdnoodccgiaaGreatDoorZc
set_option maxHeartbeats 8000000
namespace Go.Proofs.YtfbfdnoodccgiaaGreatDoor
open Go.RowKit Go.Proofs
set_option maxRecDepth 100000
set_option linter.unusedVariables false
set_option linter.unusedSimpArgs false
theorem ActOk.ext {w u:World} {a:Actn} (h:ActOk w a) (hb:Below w.heap.size w u):ActOk u a:=cAct.ext w u a h hb
theorem Jmm (x:ByteArray) (w:World) :
  Calls Tryz.prog 117 #[.string x] w (RetB w (.string (id x))):=by
 refine enter Tryz.func117 rfl rfl (Nat.le_of_ble_eq_true rfl) ?_
 refine Nz 1 ?_
 refine Wd (Qc (Nz 2 ?_))
 exact Wd (Qc (Cr (out1 rfl rfl retB)))
theorem Jqf (x:ByteArray) (tx:ByteArray) (b1 b2:Nat) (e1 e2:TypeId) (w:World) (h1:BlkAt w b1 [.func (.func 117) #[] #[]] e1) (h2:BlkAt w b2 [.string tx] e2) :
  Calls Tryz.prog 185 #[.string x,.pointer (some ⟨b1,0,none⟩),.pointer (some ⟨b2,0,none⟩)] w (RetB w (.bool (seq (id x) tx))):=by
 refine enter Tryz.func185 rfl rfl (Nat.le_of_ble_eq_true rfl) ?_
 refine Nz 1 ?_
 refine Wd (Qc (Cs (Dr mixed 0 ?_)))
 refine Dk 1 Ga ?_
 refine Dk 0 (Cb rfl rfl J15 (fun u hu=>Jmm x u)) ?_
 refine Dk 0 Ga ?_
 refine Dk 1 (Jaw rfl rfl) ?_
 exact Dd (Qc (Cr (out1 rfl rfl retB)))
theorem Jqr (s0:Sl ByteArray) (tx:ByteArray) (w:World) (hk:SlT cStr w s0) :
  Calls Tryz.prog 150 #[s0.v,.string tx,.func (.func 117) #[] #[]] w (RetB w (.int .i64 (idxF (fun x=>seq (id x) tx) s0.l))):=by
 refine enter Tryz.func150 rfl rfl (Nat.le_of_ble_eq_true rfl) ?_
 refine Nz 0 ?_
 refine Wb 0 rfl rfl (fun _=>rfl) (fun _=>rfl) fun b4 hb4=>?_
 refine Wb 1 rfl rfl (fun _=>rfl) (fun _=>rfl) fun b5 hb5=>?_
 refine Wd (Qc (Nz 1 ?_))
 refine Wk 0 (Jai rfl) ?_
 refine Wk 1 (Cb rfl rfl J2g (fun u hu=>Jo5 s0 u (hk.st hu) _ [.pointer (some ⟨b5,0,none⟩),.pointer (some ⟨b4,0,none⟩)] (fun x=>seq (id x) tx) J2j (fun u2 h2 i h0 h1=>Jqf _ _ _ _ _ _ u2 ((Jap hu (j:=0) rfl).ext h2) ((Jap hu (j:=1) rfl).ext h2)))) ?_
 exact Wd (Qc (Cr (out1 rfl rfl retB)))
theorem Jp2 (s0:Sl ByteArray) (tx:ByteArray) (w:World) (g:Sl ByteArray) (hG:GOk w g) (hk:SlT cStr w s0) (hm:(tx.size:Int)≤9223372036854775806) :
  Calls Tryz.prog 116 #[.string tx,s0.v,.func (.func 117) #[] #[]] w (RetB w (.bool (Jax tx && !(s0.l.any fun x=>seq (id x) tx)))):=by
 refine enter Tryz.func116 rfl rfl (Nat.le_of_ble_eq_true rfl) ?_
 refine Nz 1 ?_
 refine Wd (Qc (Nz 1 ?_))
 refine Wk 1 (Cb rfl rfl Jnq (fun u hu=>Joz tx u g (hG.st hu) (by omega))) ?_
 refine Wt 0 rfl rfl (fun hg=>Fm) ?_
 refine Wt 0 rfl rfl (fun hg=>Jbe Tryz.underlying9 (eg_ hg rfl)) ?_
 refine Wt 0 rfl rfl (fun hg=>Fk) ?_
 refine Wk 1 Pa ?_
 refine Wt 0 rfl rfl (fun hg=>Fm) ?_
 refine Wt 0 rfl rfl (fun hg=>Fm) ?_
 refine Wt 0 rfl rfl (fun hg=>Fm) ?_
 refine Wt 0 rfl rfl (fun hg=>Cb rfl (ec_ (eg_ hg rfl) (ec_ (eg_ hg rfl) (ec_ (eg_ hg rfl) en_))) J3i (fun u hu=>Jqr s0 _ u (hk.st hu))) ?_
 refine Wt 0 rfl rfl (fun hg=>Fl) ?_
 refine Wk 1 Pa ?_
 refine Wd (Qc (Cr ?_))
 exact out1 rfl rfl (Jac (by
    rw [← Jbu,Jax]
    congr 1
    rw [Bool.eq_iff_iff]
    simp only [Bool.and_eq_true,decide_eq_true_eq,Bool.not_eq_true',decide_eq_false_iff_not]
    constructor <;> rintro ⟨⟨a,b⟩,c⟩ <;> refine ⟨⟨b,a⟩,by omega⟩))
theorem Jl5 (x:Thing) (w:World) :
  Calls Tryz.prog 119 #[.agg #[.string x.nm,.int .i64 x.pl,.int .i64 x.st,.int .i64 x.sr]] w (RetB w (.string (Thing.nm x))):=by
 refine enter Tryz.func119 rfl rfl (Nat.le_of_ble_eq_true rfl) ?_
 refine Nz 0 ?_
 refine Wb 1 rfl rfl (fun _=>rfl) (fun _=>rfl) fun b1 hb1=>?_
 refine Wd (Qc (Nz 1 ?_))
 refine Wk 1 (Ba 0) ?_
 exact Wd (Qc (Cr (out1 rfl rfl retB)))
theorem Jrg (x:Thing) (tx:ByteArray) (b1 b2:Nat) (e1 e2:TypeId) (w:World) (h1:BlkAt w b1 [.func (.func 119) #[] #[]] e1) (h2:BlkAt w b2 [.string tx] e2) :
  Calls Tryz.prog 187 #[.agg #[.string x.nm,.int .i64 x.pl,.int .i64 x.st,.int .i64 x.sr],.pointer (some ⟨b1,0,none⟩),.pointer (some ⟨b2,0,none⟩)] w (RetB w (.bool (seq (Thing.nm x) tx))):=by
 refine enter Tryz.func187 rfl rfl (Nat.le_of_ble_eq_true rfl) ?_
 refine Nz 0 ?_
 refine Wb 1 rfl rfl (fun _=>rfl) (fun _=>rfl) fun b3 hb3=>?_
 refine Wd (Qc (Cs (Dr mixed 0 ?_)))
 refine Dk 0 Ga ?_
 refine Dk 0 (Bb 0) ?_
 refine Dk 0 (Cb rfl rfl J4t (fun u hu=>Jl5 x u)) ?_
 refine Dk 0 Ga ?_
 refine Dk 1 (Jaw rfl rfl) ?_
 exact Dd (Qc (Cr (out1 rfl rfl retB)))
theorem Jxy (s0:Sl Thing) (tx:ByteArray) (w:World) (hk:SlT Jkz w s0) :
  Calls Tryz.prog 151 #[s0.v,.string tx,.func (.func 119) #[] #[]] w (RetB w (.int .i64 (idxF (fun x=>seq (Thing.nm x) tx) s0.l))):=by
 refine enter Tryz.func151 rfl rfl (Nat.le_of_ble_eq_true rfl) ?_
 refine Nz 0 ?_
 refine Wb 0 rfl rfl (fun _=>rfl) (fun _=>rfl) fun b4 hb4=>?_
 refine Wb 1 rfl rfl (fun _=>rfl) (fun _=>rfl) fun b5 hb5=>?_
 refine Wd (Qc (Nz 1 ?_))
 refine Wk 0 (Jai rfl) ?_
 refine Wk 1 (Cb rfl rfl J3g (fun u hu=>Jtn s0 u (hk.st hu) _ [.pointer (some ⟨b5,0,none⟩),.pointer (some ⟨b4,0,none⟩)] (fun x=>seq (Thing.nm x) tx) J1k (fun u2 h2 i h0 h1=>Jrg _ _ _ _ _ _ u2 ((Jap hu (j:=0) rfl).ext h2) ((Jap hu (j:=1) rfl).ext h2)))) ?_
 exact Wd (Qc (Cr (out1 rfl rfl retB)))
theorem Jr1 (s0:Sl Thing) (tx:ByteArray) (w:World) (g:Sl ByteArray) (hG:GOk w g) (hk:SlT Jkz w s0) (hm:(tx.size:Int)≤9223372036854775806) :
  Calls Tryz.prog 118 #[.string tx,s0.v,.func (.func 119) #[] #[]] w (RetB w (.bool (Jax tx && !(s0.l.any fun x=>seq (Thing.nm x) tx)))):=by
 refine enter Tryz.func118 rfl rfl (Nat.le_of_ble_eq_true rfl) ?_
 refine Nz 1 ?_
 refine Wd (Qc (Nz 1 ?_))
 refine Wk 1 (Cb rfl rfl Jnq (fun u hu=>Joz tx u g (hG.st hu) (by omega))) ?_
 refine Wt 0 rfl rfl (fun hg=>Fm) ?_
 refine Wt 0 rfl rfl (fun hg=>Jbe Tryz.underlying9 (eg_ hg rfl)) ?_
 refine Wt 0 rfl rfl (fun hg=>Fk) ?_
 refine Wk 1 Pa ?_
 refine Wt 0 rfl rfl (fun hg=>Fm) ?_
 refine Wt 0 rfl rfl (fun hg=>Fm) ?_
 refine Wt 0 rfl rfl (fun hg=>Fm) ?_
 refine Wt 0 rfl rfl (fun hg=>Cb rfl (ec_ (eg_ hg rfl) (ec_ (eg_ hg rfl) (ec_ (eg_ hg rfl) en_))) J27 (fun u hu=>Jxy s0 _ u (hk.st hu))) ?_
 refine Wt 0 rfl rfl (fun hg=>Fl) ?_
 refine Wk 1 Pa ?_
 refine Wd (Qc (Cr ?_))
 exact out1 rfl rfl (Jac (by
    rw [← Jbu,Jax]
    congr 1
    rw [Bool.eq_iff_iff]
    simp only [Bool.and_eq_true,decide_eq_true_eq,Bool.not_eq_true',decide_eq_false_iff_not]
    constructor <;> rintro ⟨⟨a,b⟩,c⟩ <;> refine ⟨⟨b,a⟩,by omega⟩))
theorem Jpe (x:Pro) (w:World) (hx:SlT cLit w x.wh) :
  Calls Tryz.prog 121 #[.agg #[.string x.nm,.int .i64 x.pl,x.wh.v]] w (RetB w (.string (Pro.nm x))):=by
 refine enter Tryz.func121 rfl rfl (Nat.le_of_ble_eq_true rfl) ?_
 refine Nz 0 ?_
 refine Wb 1 rfl rfl (fun _=>rfl) (fun _=>rfl) fun b1 hb1=>?_
 refine Wd (Qc (Nz 1 ?_))
 refine Wk 1 (Ba 0) ?_
 exact Wd (Qc (Cr (out1 rfl rfl retB)))
theorem Jt9 (x:Pro) (tx:ByteArray) (b1 b2:Nat) (e1 e2:TypeId) (w:World) (hx:SlT cLit w x.wh) (h1:BlkAt w b1 [.func (.func 121) #[] #[]] e1) (h2:BlkAt w b2 [.string tx] e2) :
  Calls Tryz.prog 189 #[.agg #[.string x.nm,.int .i64 x.pl,x.wh.v],.pointer (some ⟨b1,0,none⟩),.pointer (some ⟨b2,0,none⟩)] w (RetB w (.bool (seq (Pro.nm x) tx))):=by
 refine enter Tryz.func189 rfl rfl (Nat.le_of_ble_eq_true rfl) ?_
 refine Nz 0 ?_
 refine Wb 1 rfl rfl (fun _=>rfl) (fun _=>rfl) fun b3 hb3=>?_
 refine Wd (Qc (Cs (Dr mixed 0 ?_)))
 refine Dk 0 Ga ?_
 refine Dk 0 (Bb 0) ?_
 refine Dk 0 (Cb rfl rfl J2z (fun u hu=>Jpe x u (hx.st hu))) ?_
 refine Dk 0 Ga ?_
 refine Dk 1 (Jaw rfl rfl) ?_
 exact Dd (Qc (Cr (out1 rfl rfl retB)))
theorem Jwi (s0:Sl Pro) (tx:ByteArray) (w:World) (hk:SlT cPro w s0) :
  Calls Tryz.prog 152 #[s0.v,.string tx,.func (.func 121) #[] #[]] w (RetB w (.int .i64 (idxF (fun x=>seq (Pro.nm x) tx) s0.l))):=by
 refine enter Tryz.func152 rfl rfl (Nat.le_of_ble_eq_true rfl) ?_
 refine Nz 0 ?_
 refine Wb 0 rfl rfl (fun _=>rfl) (fun _=>rfl) fun b4 hb4=>?_
 refine Wb 1 rfl rfl (fun _=>rfl) (fun _=>rfl) fun b5 hb5=>?_
 refine Wd (Qc (Nz 1 ?_))
 refine Wk 0 (Jai rfl) ?_
 refine Wk 1 (Cb rfl rfl J49 (fun u hu=>Jsg s0 u (hk.st hu) _ [.pointer (some ⟨b5,0,none⟩),.pointer (some ⟨b4,0,none⟩)] (fun x=>seq (Pro.nm x) tx) J1t (fun u2 h2 i h0 h1=>Jt9 _ _ _ _ _ _ u2 (((hk.st hu).ext h2).at h0 h1) ((Jap hu (j:=0) rfl).ext h2) ((Jap hu (j:=1) rfl).ext h2)))) ?_
 exact Wd (Qc (Cr (out1 rfl rfl retB)))
theorem Jtm (s0:Sl Pro) (tx:ByteArray) (w:World) (g:Sl ByteArray) (hG:GOk w g) (hk:SlT cPro w s0) (hm:(tx.size:Int)≤9223372036854775806) :
  Calls Tryz.prog 120 #[.string tx,s0.v,.func (.func 121) #[] #[]] w (RetB w (.bool (Jax tx && !(s0.l.any fun x=>seq (Pro.nm x) tx)))):=by
 refine enter Tryz.func120 rfl rfl (Nat.le_of_ble_eq_true rfl) ?_
 refine Nz 1 ?_
 refine Wd (Qc (Nz 1 ?_))
 refine Wk 1 (Cb rfl rfl Jnq (fun u hu=>Joz tx u g (hG.st hu) (by omega))) ?_
 refine Wt 0 rfl rfl (fun hg=>Fm) ?_
 refine Wt 0 rfl rfl (fun hg=>Jbe Tryz.underlying9 (eg_ hg rfl)) ?_
 refine Wt 0 rfl rfl (fun hg=>Fk) ?_
 refine Wk 1 Pa ?_
 refine Wt 0 rfl rfl (fun hg=>Fm) ?_
 refine Wt 0 rfl rfl (fun hg=>Fm) ?_
 refine Wt 0 rfl rfl (fun hg=>Fm) ?_
 refine Wt 0 rfl rfl (fun hg=>Cb rfl (ec_ (eg_ hg rfl) (ec_ (eg_ hg rfl) (ec_ (eg_ hg rfl) en_))) J4e (fun u hu=>Jwi s0 _ u (hk.st hu))) ?_
 refine Wt 0 rfl rfl (fun hg=>Fl) ?_
 refine Wk 1 Pa ?_
 refine Wd (Qc (Cr ?_))
 exact out1 rfl rfl (Jac (by
    rw [← Jbu,Jax]
    congr 1
    rw [Bool.eq_iff_iff]
    simp only [Bool.and_eq_true,decide_eq_true_eq,Bool.not_eq_true',decide_eq_false_iff_not]
    constructor <;> rintro ⟨⟨a,b⟩,c⟩ <;> refine ⟨⟨b,a⟩,by omega⟩))
theorem Jss (x:Actn) (w:World) (hx:ActOk w x) :
  Calls Tryz.prog 155 #[.agg #[.string x.nm,.int .i64 x.pl,.int .i64 x.lk,x.us.v,x.wh.v,x.se.v,x.sp.v,x.br.v]] w (RetB w (.string (Actn.nm x))):=by
 refine enter Tryz.func155 rfl rfl (Nat.le_of_ble_eq_true rfl) ?_
 refine Nz 0 ?_
 refine Wb 1 rfl rfl (fun _=>rfl) (fun _=>rfl) fun b1 hb1=>?_
 refine Wd (Qc (Nz 1 ?_))
 refine Wk 1 (Ba 0) ?_
 exact Wd (Qc (Cr (out1 rfl rfl retB)))
theorem Jsn (x:Actn) (tx:ByteArray) (b1 b2:Nat) (e1 e2:TypeId) (w:World) (hx:ActOk w x) (h1:BlkAt w b1 [.func (.func 155) #[] #[]] e1) (h2:BlkAt w b2 [.string tx] e2) :
  Calls Tryz.prog 202 #[.agg #[.string x.nm,.int .i64 x.pl,.int .i64 x.lk,x.us.v,x.wh.v,x.se.v,x.sp.v,x.br.v],.pointer (some ⟨b1,0,none⟩),.pointer (some ⟨b2,0,none⟩)] w (RetB w (.bool (seq (Actn.nm x) tx))):=by
 refine enter Tryz.func202 rfl rfl (Nat.le_of_ble_eq_true rfl) ?_
 refine Nz 0 ?_
 refine Wb 1 rfl rfl (fun _=>rfl) (fun _=>rfl) fun b3 hb3=>?_
 refine Wd (Qc (Cs (Dr mixed 0 ?_)))
 refine Dk 0 Ga ?_
 refine Dk 0 (Bb 0) ?_
 refine Dk 0 (Cb rfl rfl J4q (fun u hu=>Jss x u (hx.ext hu.below))) ?_
 refine Dk 0 Ga ?_
 refine Dk 1 (Jaw rfl rfl) ?_
 exact Dd (Qc (Cr (out1 rfl rfl retB)))
theorem Jva (s0:Sl Actn) (tx:ByteArray) (w:World) (hk:SlT cAct w s0) :
  Calls Tryz.prog 190 #[s0.v,.string tx,.func (.func 155) #[] #[]] w (RetB w (.int .i64 (idxF (fun x=>seq (Actn.nm x) tx) s0.l))):=by
 refine enter Tryz.func190 rfl rfl (Nat.le_of_ble_eq_true rfl) ?_
 refine Nz 0 ?_
 refine Wb 0 rfl rfl (fun _=>rfl) (fun _=>rfl) fun b4 hb4=>?_
 refine Wb 1 rfl rfl (fun _=>rfl) (fun _=>rfl) fun b5 hb5=>?_
 refine Wd (Qc (Nz 1 ?_))
 refine Wk 0 (Jai rfl) ?_
 refine Wk 1 (Cb rfl rfl J3z (fun u hu=>Jtx s0 u (hk.st hu) _ [.pointer (some ⟨b5,0,none⟩),.pointer (some ⟨b4,0,none⟩)] (fun x=>seq (Actn.nm x) tx) J48 (fun u2 h2 i h0 h1=>Jsn _ _ _ _ _ _ u2 (((hk.st hu).ext h2).at h0 h1) ((Jap hu (j:=0) rfl).ext h2) ((Jap hu (j:=1) rfl).ext h2)))) ?_
 exact Wd (Qc (Cr (out1 rfl rfl retB)))
theorem Jr0 (s0:Sl Actn) (tx:ByteArray) (w:World) (g:Sl ByteArray) (hG:GOk w g) (hk:SlT cAct w s0) (hm:(tx.size:Int)≤9223372036854775806) :
  Calls Tryz.prog 154 #[.string tx,s0.v,.func (.func 155) #[] #[]] w (RetB w (.bool (Jax tx && !(s0.l.any fun x=>seq (Actn.nm x) tx)))):=by
 refine enter Tryz.func154 rfl rfl (Nat.le_of_ble_eq_true rfl) ?_
 refine Nz 1 ?_
 refine Wd (Qc (Nz 1 ?_))
 refine Wk 1 (Cb rfl rfl Jnq (fun u hu=>Joz tx u g (hG.st hu) (by omega))) ?_
 refine Wt 0 rfl rfl (fun hg=>Fm) ?_
 refine Wt 0 rfl rfl (fun hg=>Jbe Tryz.underlying9 (eg_ hg rfl)) ?_
 refine Wt 0 rfl rfl (fun hg=>Fk) ?_
 refine Wk 1 Pa ?_
 refine Wt 0 rfl rfl (fun hg=>Fm) ?_
 refine Wt 0 rfl rfl (fun hg=>Fm) ?_
 refine Wt 0 rfl rfl (fun hg=>Fm) ?_
 refine Wt 0 rfl rfl (fun hg=>Cb rfl (ec_ (eg_ hg rfl) (ec_ (eg_ hg rfl) (ec_ (eg_ hg rfl) en_))) J3e (fun u hu=>Jva s0 _ u (hk.st hu))) ?_
 refine Wt 0 rfl rfl (fun hg=>Fl) ?_
 refine Wk 1 Pa ?_
 refine Wd (Qc (Cr ?_))
 exact out1 rfl rfl (Jac (by
    rw [← Jbu,Jax]
    congr 1
    rw [Bool.eq_iff_iff]
    simp only [Bool.and_eq_true,decide_eq_true_eq,Bool.not_eq_true',decide_eq_false_iff_not]
    constructor <;> rintro ⟨⟨a,b⟩,c⟩ <;> refine ⟨⟨b,a⟩,by omega⟩))
theorem Jgl (r:Room) (w:World) (hr:RoomOk w r) (n:Int) (b:Nat) (e:TypeId) (hb:BlkAt w b [r.pls.v,r.ths.v,r.prs.v,r.wys.v,r.acs.v,r.aus.v,.int .i64 r.ply,r.gl.v] e) :
  Calls Tryz.prog 114 #[.int .i64 n,.pointer (some ⟨b,0,none⟩)] w (RetB w (.bool (placeB r n))):=by
 have kpl:=hr.pls
 have lpl:=hr.pls.le
 have kth:=hr.ths
 have lth:=hr.ths.le
 have kpr:=hr.prs
 have lpr:=hr.prs.le
 have kwy:=hr.wys
 have lwy:=hr.wys.le
 have kac:=hr.acs
 have lac:=hr.acs.le
 have kau:=hr.aus
 have lau:=hr.aus.le
 have kgl:=hr.gl
 have lgl:=hr.gl.le
 refine enter Tryz.func114 rfl rfl (Nat.le_of_ble_eq_true rfl) ?_
 refine Nz 1 ?_
 refine Wd (Qc (Nz 2 ?_))
 refine Wk 0 Ga ?_
 refine Wk 0 Nc ?_
 refine Wk 0 Zb ?_
 refine Wk 1 (Cb rfl rfl Jch (fun u hu=>Ja9 _ _ _ u)) ?_
 exact Wd (Qc (Cr (out1 rfl rfl (Jac rfl))))
theorem Ji8 (r:Room) (w:World) (hr:RoomOk w r) (a b:Int) :
  Calls Tryz.prog 124 #[.agg #[r.pls.v,r.ths.v,r.prs.v,r.wys.v,r.acs.v,r.aus.v,.int .i64 r.ply,r.gl.v],.int .i64 a,.int .i64 b] w (RetB w (.bool (putB r.ths.l a b))):=by
 have kpl:=hr.pls
 have lpl:=hr.pls.le
 have kth:=hr.ths
 have lth:=hr.ths.le
 have kpr:=hr.prs
 have lpr:=hr.prs.le
 have kwy:=hr.wys
 have lwy:=hr.wys.le
 have kac:=hr.acs
 have lac:=hr.acs.le
 have kau:=hr.aus
 have lau:=hr.aus.le
 have kgl:=hr.gl
 have lgl:=hr.gl.le
 refine enter Tryz.func124 rfl rfl (Nat.le_of_ble_eq_true rfl) ?_
 refine Nz 0 ?_
 refine Wb 1 rfl rfl (fun _=>rfl) (fun _=>rfl) fun b3 hb3=>?_
 refine Wd (Qc (Nz 2 ?_))
 refine Wk 0 (Ba 0) ?_
 refine Wk 0 Nc ?_
 refine Wk 0 Zb ?_
 refine Wk 1 (Cb rfl rfl Jch (fun u hu=>Ja9 _ _ _ u)) ?_
 refine Wt 0 rfl rfl (fun hg=>Fm) ?_
 refine Wt 0 rfl rfl (fun hg=>Ff) ?_
 refine Wt 0 rfl rfl (fun hg=>Ba 0) ?_
 refine Wt 0 rfl rfl (fun hg=>Fm) ?_
 refine Wt 0 rfl rfl (fun hg=>Xc (eg_ hg rfl)) ?_
 refine Wt 0 rfl rfl (fun hg=>Ff) ?_
 refine Wt 0 rfl rfl (fun hg=>Uc 4 2) ?_
 refine Wt 0 rfl rfl (fun hg=>Jn4 (eg_ hg rfl) rfl) ?_
 refine Wt 0 rfl rfl (fun hg=>Cb rfl (ec_ (eg_ hg rfl) (ec_ rfl (ec_ (eg_ hg rfl) en_))) Jch (fun u hu=>Ja9 _ _ _ u)) ?_
 refine Wk 1 Pa ?_
 exact Wd (Qc (Cr (out1 rfl rfl (Jac rfl))))
theorem Jxz (r:Room) (w:World) (hr:RoomOk w r) (x:Lit) (b:Nat) (e:TypeId) (hb:BlkAt w b [r.pls.v,r.ths.v,r.prs.v,r.wys.v,r.acs.v,r.aus.v,.int .i64 r.ply,r.gl.v] e) :
  Calls Tryz.prog 153 #[.agg #[.int .i64 x.t,.int .i64 x.s,.bool x.nt],.pointer (some ⟨b,0,none⟩)] w (RetB w (.bool (!putB r.ths.l x.t x.s))):=by
 refine enter Tryz.func153 rfl rfl (Nat.le_of_ble_eq_true rfl) ?_
 refine Nz 0 ?_
 refine Wb 1 rfl rfl (fun _=>rfl) (fun _=>rfl) fun b2 hb2=>?_
 refine Wd (Qc (Nz 0 ?_))
 refine Wk 1 Gb ?_
 refine Wk 1 (Ba 0) ?_
 refine Wk 0 (Ba 0) ?_
 refine Wk 2 (Cb rfl rfl Jn2 (fun u hu=>Ji8 r u (hr.st hu) _ _)) ?_
 exact Wd (Qc (Cr (out1 rfl rfl retB)))
theorem Jfu (r:Room) (w:World) (hr:RoomOk w r) (c:Sl Lit) (hk:SlT cLit w c) :
  Calls Tryz.prog 122 #[.agg #[r.pls.v,r.ths.v,r.prs.v,r.wys.v,r.acs.v,r.aus.v,.int .i64 r.ply,r.gl.v],c.v] w (RetB w (.bool (Jev r.ths.l c.l))):=by
 have lcs:=hk.le
 refine enter Tryz.func122 rfl rfl (Nat.le_of_ble_eq_true rfl) ?_
 refine Nz 0 ?_
 refine Wb 1 rfl rfl (fun _=>rfl) (fun _=>rfl) fun b2 hb2=>?_
 refine Wd (Qc (Nz 0 ?_))
 refine Wk 1 (Jai rfl) ?_
 refine Wd (Qc (Nz 1 ?_))
 refine Wk 2 Nc ?_
 refine Wt 0 rfl rfl (fun hg=>Fm) ?_
 refine Wt 0 rfl rfl (fun hg=>Fm) ?_
 refine Wt 0 rfl rfl (fun hg=>Cb rfl (ec_ (eg_ hg rfl) (ec_ (eg_ hg rfl) en_)) Jsm (fun u hu=>Jdw c u (hk.st hu) _ [.pointer (some ⟨b2,0,none⟩)] (fun x => !putB r.ths.l x.t x.s) J2a (fun u2 h2 i h0 h1=>Jxz r u2 ((hr.st hu).ext h2) _ _ _ ((Jap hu (j:=0) rfl).ext h2)))) ?_
 refine Wt 0 rfl rfl (fun hg=>Fn) ?_
 refine Wk 1 Pa ?_
 exact Wd (Qc (Cr (out1 rfl rfl (Jac (by unfold Jev; rw [Bool.and_comm]; congr 1; simp [List.all_eq_not_any_not])))))
theorem Jmk (r:Room) (w:World) (hr:RoomOk w r) (v:Value) (xs:List Int) (hx:SlI w v xs) :
  Calls Tryz.prog 156 #[.agg #[r.pls.v,r.ths.v,r.prs.v,r.wys.v,r.acs.v,r.aus.v,.int .i64 r.ply,r.gl.v],v] w (RetB w (.bool (ascB r.prs.l.length xs))):=by
 have kpl:=hr.pls
 have lpl:=hr.pls.le
 have kth:=hr.ths
 have lth:=hr.ths.le
 have kpr:=hr.prs
 have lpr:=hr.prs.le
 have kwy:=hr.wys
 have lwy:=hr.wys.le
 have kac:=hr.acs
 have lac:=hr.acs.le
 have kau:=hr.aus
 have lau:=hr.aus.le
 have kgl:=hr.gl
 have lgl:=hr.gl.le
 have lxs:=hx.le
 refine enter Tryz.func156 rfl rfl (Nat.le_of_ble_eq_true rfl) ?_
 refine Nz 0 ?_
 refine Wb 1 rfl rfl (fun _=>rfl) (fun _=>rfl) fun b2 hb2=>?_
 refine Wd (Qc (Nz 1 ?_))
 refine Wd (Qc (Cs (Nz 1 ?_)))
 refine Wk 1 Na ?_
 refine Wd (Qc (Ce ?_))
 refine CS.loopM (σ:=Int × Int) [4,7,11,12,13,14,15,16,17,18,19,20,21,22,23,24,25] (fun s=>[(10,.int .i64 s.1),(5,.int .i64 s.2)]) (fun _=>_) (fun s=>0≤s.1∧s.1≤xs.length∧((s.1=0∧s.2 = -1)∨(0 < s.1∧s.2=nth xs (s.1 - 1)∧0≤s.2))∧∀ j:Int,0≤j→j < s.1→((decide (0≤nth xs j) && decide (nth xs j≤(r.prs.l.length:Int) - 1)) && (decide (j=0) || decide (nth xs (j - 1) < nth xs j)))=true) (fun s=>(xs.length - s.1).toNat) (0, -1) (fun _ _=>rfl) rfl rfl ⟨by simp,by simp,.inl ⟨rfl,rfl⟩,fun j h0 h1=>by simp at h1; omega⟩ ?_
 intro s t hs
 obtain ⟨hs1,hs2,hs3,hs4⟩:=hs
 refine Nz 1 ?_
 refine Wd (Qc (Cs (CS.cond rfl ?_ ?_)))<;>intro hc1<;>try simp only [bq] at hc1
 ·
  refine Ck (Qc (Cs (Ce (Nz 0 ?_))))
  refine Wk 0 Xa ?_
  refine Wk 1 Ia ?_
  refine Wd (Qc (Cs (Nz 4 ?_)))
  refine Wf 0 rfl rfl (fun hg=>Fm) ?_
  refine Wf 0 rfl rfl (fun hg=>Ff) ?_
  refine Wf 0 rfl rfl (fun hg=>Ba 0) ?_
  refine Wf 0 rfl rfl (fun hg=>Nc (eg_ hg rfl)) ?_
  refine Wf 0 rfl rfl (fun hg=>Fh) ?_
  refine Wk 0 Po ?_
  refine Wd (Qc (CS.cond rfl ?_ ?_))<;>intro hc2<;>try simp only [bq] at hc2
  ·
   refine Nz 1 ?_
   exact Wd (Qc (Cr (Qr (Qs (Qr (Qr (Qs (Qr (out1 rfl rfl (Jac (by rw [show ascB r.prs.l.length xs=false from Jtq hs1 (by omega) (by simp only [Bool.and_eq_false_iff,Bool.or_eq_false_iff,decide_eq_false_iff_not]; omega)])))))))))))
  refine Ck (Qc (Ny 2 ?_))
  refine Wd (Qb (Qc (Ny 0 ?_)))
  refine Wk 1 Za ?_
  refine Wd ?_
  exact QS.head ((s.1+1,nth xs s.1)) rfl rfl ⟨⟨by simp; omega,by simp; omega,.inr ⟨by simp; omega,by simp,by simp only; omega⟩,fun j h0 h1=>by
     simp only at h1
     rcases (show j < s.1∨j=s.1 by omega) with h | h
     ·
      exact hs4 j h0 h
     rw [h]; simp only [Bool.and_eq_true,Bool.or_eq_true,decide_eq_true_eq]; omega⟩,by simp; omega⟩
 refine Cv (Qe (Qe (Qx (Qc (Nz 1 ?_)))))
 exact Wd (Qc (Cr (out1 rfl rfl (Jac (by rw [show ascB r.prs.l.length xs=true from Ji6 fun j h0 h1=>hs4 j h0 (by omega)])))))
theorem Jvr (s0:Sl Int) (n:Int) (w:World) (hk:SlT cInt w s0) :
  Calls Tryz.prog 135 #[s0.v,.int .i64 n] w (RetB w (.int .i64 (idxF (fun x=>decide (n=x)) s0.l))):=by
 have hl1:=hk.le
 have hki:=hk.ints
 refine enter Tryz.func135 rfl rfl (Nat.le_of_ble_eq_true rfl) ?_
 refine Nz 1 ?_
 refine Wd (Qc (Cs (Nz 1 ?_)))
 refine Wk 1 Na ?_
 refine Wd (Qc (Ce ?_))
 refine CS.loopM (σ:=Int) [4,5,9,10,11,12,13,14,15,16,17,18] (fun s=>[(8,.int .i64 s)]) (fun _=>_) (fun s=>0≤s∧s≤s0.l.length∧∀ j:Int,0≤j→j < s→decide (n=nth s0.l j)=false) (fun s=>(s0.l.length - s).toNat) 0 (fun _ _=>rfl) rfl rfl ⟨by omega,by omega,fun j h1 h2=>by omega⟩ ?_
 intro s t hs
 obtain ⟨hs1,hs2,hs3⟩:=hs
 refine Nz 1 ?_
 refine Wd (Qc (Cs (CS.cond rfl ?_ ?_)))<;>intro hc1<;>try simp only [bq] at hc1
 ·
  refine Ck (Qc (Cs (Ce (Nz 2 ?_))))
  refine Wd (Qc (Nz 3 ?_))
  refine Wk 0 Xa ?_
  refine Wk 1 Ia ?_
  refine Wd (Qc (CS.cond rfl ?_ ?_))<;>intro hc2<;>try simp only [bq] at hc2
  ·
   refine Nz 2 ?_
   exact Wd (Qc (Cr (Qs (Qr (Qr (Qs (Qr (out1 rfl rfl (Jac (by rw [Ja4 (p:=fun x=>decide (n=x)) hs1 (by omega) hs3 (decide_eq_true hc2)]))))))))))
  refine Ck (Qb (Qc (Ny 0 ?_)))
  refine Wk 1 Za ?_
  exact Wd (QS.head (s+1) rfl rfl ⟨⟨by omega,by omega,fun j h1 h2=>if hj:j=s then by rw [hj]; exact decide_eq_false hc2 else hs3 j h1 (by omega)⟩,by omega⟩)
 refine Cv (Qe (Qe (Qx (Qc (Nz 1 ?_)))))
 exact Wd (Qc (Cr (out1 rfl rfl (Jac (by rw [Jba (p:=fun x=>decide (n=x)) fun j h1 h2=>hs3 j h1 (by omega)])))))
theorem Jgx (s0:Sl Int) (n:Int) (w:World) (hk:SlT cInt w s0) :
  Calls Tryz.prog 89 #[s0.v,.int .i64 n] w (RetB w (.bool (decide (n∈s0.l)))):=by
 refine enter Tryz.func89 rfl rfl (Nat.le_of_ble_eq_true rfl) ?_
 refine Nz 1 ?_
 refine Wd (Qc (Nz 2 ?_))
 refine Wk 2 (Cb rfl rfl J1f (fun u hu=>Jvr s0 _ u (hk.st hu))) ?_
 exact Wd (Qc (Cr (out1 rfl rfl (Jac (by rw [Jbu]; congr 1; rw [Bool.eq_iff_iff]; simp)))))
theorem Jlu (l0:Sl ByteArray) (i:Int) (w:World) (g:Sl ByteArray) (hG:GOk w g) (hk:SlT cStr w l0) (h0:0≤i) (h1:i < l0.l.length) (hm:((id (nth l0.l i)).size:Int)≤9223372036854775806) :
  Calls Tryz.prog 116 #[.string (id (nth l0.l i)),(l0.cut 1 0 i.toNat).v,.func (.func 117) #[] #[]] w (RetB w (.bool (Jax (id (nth l0.l i)) && newB id l0.l i))) :=
 Jp2 (l0.cut 1 0 i.toNat) _ w g hG (hk.cut (by omega) (by omega)) hm
theorem Jo7 (l0:Sl Thing) (i:Int) (w:World) (g:Sl ByteArray) (hG:GOk w g) (hk:SlT Jkz w l0) (h0:0≤i) (h1:i < l0.l.length) (hm:((Thing.nm (nth l0.l i)).size:Int)≤9223372036854775806) :
  Calls Tryz.prog 118 #[.string (Thing.nm (nth l0.l i)),(l0.cut 4 0 i.toNat).v,.func (.func 119) #[] #[]] w (RetB w (.bool (Jax (Thing.nm (nth l0.l i)) && newB Thing.nm l0.l i))) :=
 Jr1 (l0.cut 4 0 i.toNat) _ w g hG (hk.cut (by omega) (by omega)) hm
theorem Jpj (l0:Sl Pro) (i:Int) (w:World) (g:Sl ByteArray) (hG:GOk w g) (hk:SlT cPro w l0) (h0:0≤i) (h1:i < l0.l.length) (hm:((Pro.nm (nth l0.l i)).size:Int)≤9223372036854775806) :
  Calls Tryz.prog 120 #[.string (Pro.nm (nth l0.l i)),(l0.cut 3 0 i.toNat).v,.func (.func 121) #[] #[]] w (RetB w (.bool (Jax (Pro.nm (nth l0.l i)) && newB Pro.nm l0.l i))) :=
 Jtm (l0.cut 3 0 i.toNat) _ w g hG (hk.cut (by omega) (by omega)) hm
theorem Jpd (l0:Sl Actn) (i:Int) (w:World) (g:Sl ByteArray) (hG:GOk w g) (hk:SlT cAct w l0) (h0:0≤i) (h1:i < l0.l.length) (hm:((Actn.nm (nth l0.l i)).size:Int)≤9223372036854775806) :
  Calls Tryz.prog 154 #[.string (Actn.nm (nth l0.l i)),(l0.cut 8 0 i.toNat).v,.func (.func 155) #[] #[]] w (RetB w (.bool (Jax (Actn.nm (nth l0.l i)) && newB Actn.nm l0.l i))) :=
 Jr0 (l0.cut 8 0 i.toNat) _ w g hG (hk.cut (by omega) (by omega)) hm
theorem Jnc (a:Actn):act3 a = !(a.sp.l.any fun x => !decide (x∈a.us.l)):=by
 unfold act3
 rw [← Jhi (p:=fun x=>decide (x∈a.us.l)),List.all_eq_not_any_not]
theorem Jn5 (a:Actn):act4 a = !(a.br.l.any fun x=>decide (x∈a.us.l)):=by
 unfold act4
 rw [← Jhi (p:=fun x => !decide (x∈a.us.l)),List.all_eq_not_any_not]
 simp
theorem Jsd (a:Actn) (w:World) (ha:SlT cInt w a.us) (p:Int) (b:Nat) (e:TypeId) (hb:BlkAt w b [.string a.nm,.int .i64 a.pl,.int .i64 a.lk,a.us.v,a.wh.v,a.se.v,a.sp.v,a.br.v] e) :
  Calls Tryz.prog 157 #[.int .i64 p,.pointer (some ⟨b,0,none⟩)] w (RetB w (.bool (decide (p∈a.us.l)))):=by
 refine enter Tryz.func157 rfl rfl (Nat.le_of_ble_eq_true rfl) ?_
 refine Nz 1 ?_
 refine Wd (Qc (Nz 1 ?_))
 refine Wk 1 Ga ?_
 refine Wk 1 (Cb rfl rfl J3l (fun u hu=>Jgx a.us _ u (ha.st hu))) ?_
 exact Wd (Qc (Cr (out1 rfl rfl retB)))
theorem Jup (a:Actn) (w:World) (ha:SlT cInt w a.us) (p:Int) (b b7:Nat) (e e7:TypeId) (hb:BlkAt w b [.string a.nm,.int .i64 a.pl,.int .i64 a.lk,a.us.v,a.wh.v,a.se.v,a.sp.v,a.br.v] e) (h7:BlkAt w b7 [.func (.func 157) #[] #[.pointer (some ⟨b,0,none⟩)]] e7) :
  Calls Tryz.prog 158 #[.int .i64 p,.pointer (some ⟨b7,0,none⟩)] w (RetB w (.bool (!decide (p∈a.us.l)))):=by
 refine enter Tryz.func158 rfl rfl (Nat.le_of_ble_eq_true rfl) ?_
 refine Nz 1 ?_
 refine Wd (Qc (Nz 0 ?_))
 refine Wk 1 Ga ?_
 refine Wk 2 (Cb rfl rfl Jx5 (fun u hu=>Jsd a u (ha.st hu) p b e (hb.st hu))) ?_
 exact Wd (Qc (Cr (out1 rfl rfl retB)))
theorem Jwg (x y:Put) (w:World) (b:Nat) (e:TypeId) (hb:BlkAt w b [.int .i64 y.t,.int .i64 y.s] e) :
  Calls Tryz.prog 161 #[.agg #[.int .i64 x.t,.int .i64 x.s],.pointer (some ⟨b,0,none⟩)] w (RetB w (.bool (decide (x.t=y.t)))):=by
 refine enter Tryz.func161 rfl rfl (Nat.le_of_ble_eq_true rfl) ?_
 refine Nz 0 ?_
 refine Wb 1 rfl rfl (fun _=>rfl) (fun _=>rfl) fun b2 hb2=>?_
 refine Wd (Qc (Nz 1 ?_))
 refine Wk 1 (Ba 0) ?_
 refine Wk 2 Ga ?_
 exact Wd (Qc (Cr (out1 rfl rfl retB)))
theorem J19 (r:Room) (w:World) (hr:RoomOk w r) (g:Sl ByteArray) (hG:GOk w g) (i:Int) (h0:0≤i) (h1:i < r.acs.l.length) (hn:∀ x∈r.acs.l,x.nm.size≤70000) :
  Calls Tryz.prog 123 #[.agg #[r.pls.v,r.ths.v,r.prs.v,r.wys.v,r.acs.v,r.aus.v,.int .i64 r.ply,r.gl.v],.int .i64 i,.agg #[.string (nth r.acs.l i).nm,.int .i64 (nth r.acs.l i).pl,.int .i64 (nth r.acs.l i).lk,(nth r.acs.l i).us.v,(nth r.acs.l i).wh.v,(nth r.acs.l i).se.v,(nth r.acs.l i).sp.v,(nth r.acs.l i).br.v]] w (RetB w (.bool (actB r i))):=by
 have kpl:=hr.pls
 have lpl:=hr.pls.le
 have kth:=hr.ths
 have lth:=hr.ths.le
 have kpr:=hr.prs
 have lpr:=hr.prs.le
 have kwy:=hr.wys
 have lwy:=hr.wys.le
 have kac:=hr.acs
 have lac:=hr.acs.le
 have kau:=hr.aus
 have lau:=hr.aus.le
 have kgl:=hr.gl
 have lgl:=hr.gl.le
 have ha:ActOk w (nth r.acs.l i):=hr.acs.at h0 h1
 have hus:=ha.us.ints
 have hsp:=ha.sp.ints
 have hbr:=ha.br.ints
 have kse:=ha.se
 have lse:=kse.le
 have hnm:=hn _ (Jaj h0 h1)
 refine enter Tryz.func123 rfl rfl (Nat.le_of_ble_eq_true rfl) ?_
 refine Nz 0 ?_
 refine Wb 0 rfl rfl (fun _=>rfl) (fun _=>rfl) fun b3 hb3=>?_
 refine Wb 1 rfl rfl (fun _=>rfl) (fun _=>rfl) fun b5 hb5=>?_
 refine Wd (Qc (Cs (Cs (Dr mixed 1 ?_))))
 refine Dk 1 (Ba 0) ?_
 refine Dk 1 (Ba 1) ?_
 refine Dk 0 (Jdi sl38 rfl rfl (by first | assumption | exact SlL.sp (by assumption) | exact ClS.sp (by assumption) | exact SlT.sp (by assumption)) (by omega) (by omega)) ?_
 refine Dk 2 (Cb rfl rfl J4d (fun u hu=>Jpd r.acs i u g (hG.st hu) (kac.st hu) h0 h1 (by omega))) ?_
 refine Df 0 rfl rfl (fun hg=>Ff) ?_
 refine Df 0 rfl rfl (fun hg=>Ba 0) ?_
 refine Df 0 rfl rfl (fun hg=>Ff) ?_
 refine Df 0 rfl rfl (fun hg=>Ba 1) ?_
 refine Df 0 rfl rfl (fun hg=>Nc (eg_ hg rfl)) ?_
 refine Df 0 rfl rfl (fun hg=>Zb) ?_
 refine Df 0 rfl rfl (fun hg=>Cb rfl (ec_ (eg_ hg rfl) (ec_ rfl (ec_ (eg_ hg rfl) en_))) Jch (fun u hu=>Ja9 _ _ _ u)) ?_
 refine Df 0 rfl rfl (fun hg=>Fn) ?_
 refine Dk 1 Po ?_
 refine Df 0 rfl rfl (fun hg=>Ff) ?_
 refine Df 0 rfl rfl (fun hg=>Ba 0) ?_
 refine Df 0 rfl rfl (fun hg=>Cb rfl (ec_ (eg_ hg rfl) (ec_ rfl (ec_ rfl en_))) Jch (fun u hu=>Ja9 _ _ _ u)) ?_
 refine Df 0 rfl rfl (fun hg=>Fn) ?_
 refine Dk 0 Po ?_
 refine Dd (Qc (CS.cond rfl ?_ ?_))<;>intro hc1<;>try simp only [bq] at hc1
 ·
  refine Nz 1 ?_
  exact Wd (Qc (Cr (Qr (out1 rfl rfl (Jac (by rw [show actB r i=false by (unfold actB act2 placeB; grind)]))))))
 have e1:newB Actn.nm r.acs.l i=true:=by grind
 refine Ck (Qc (Cs (Nz 0 ?_)))
 refine Wk 1 (Bb 1) ?_
 refine Wk 0 (Ba 0) ?_
 refine Wk 2 (Cb rfl rfl Jru (fun u hu=>Jmk r u (hr.st hu) _ _ (hus.st hu))) ?_
 refine Wf 0 rfl rfl (fun hg=>Bb 1) ?_
 refine Wf 0 rfl rfl (fun hg=>Ff) ?_
 refine Wf 0 rfl rfl (fun hg=>Ba 0) ?_
 refine Wf 0 rfl rfl (fun hg=>Cb rfl (ec_ (eg_ hg rfl) (ec_ (eg_ hg rfl) en_)) Jru (fun u hu=>Jmk r u (hr.st hu) _ _ (hsp.st hu))) ?_
 refine Wf 0 rfl rfl (fun hg=>Fn) ?_
 refine Wk 1 Po ?_
 refine Wf 0 rfl rfl (fun hg=>Bb 1) ?_
 refine Wf 0 rfl rfl (fun hg=>Ff) ?_
 refine Wf 0 rfl rfl (fun hg=>Ba 0) ?_
 refine Wf 0 rfl rfl (fun hg=>Cb rfl (ec_ (eg_ hg rfl) (ec_ (eg_ hg rfl) en_)) Jru (fun u hu=>Jmk r u (hr.st hu) _ _ (hbr.st hu))) ?_
 refine Wf 0 rfl rfl (fun hg=>Fn) ?_
 refine Wk 1 Po ?_
 refine Wf 0 rfl rfl (fun hg=>Ff) ?_
 refine Wf 0 rfl rfl (fun hg=>Ba 0) ?_
 refine Wf 0 rfl rfl (fun hg=>Nc (eg_ hg rfl)) ?_
 refine Wf 0 rfl rfl (fun hg=>Fg) ?_
 refine Wk 0 Po ?_
 refine Wd (Qc (CS.cond rfl ?_ ?_))<;>intro hc2<;>try simp only [bq] at hc2
 ·
  refine Nz 1 ?_
  exact Wd (Qc (Cr (Qr (out1 rfl rfl (Jac (by rw [show actB r i=false by (unfold actB act2; grind)]))))))
 have e2:act2 r (nth r.acs.l i)=true:=by (unfold act2 placeB; grind)
 refine Ck (Qc (Nz 0 ?_))
 refine Wk 0 (Jai rfl) ?_
 refine Wl 0 J50 (fun _=>rfl) (fun _=>rfl) fun b7 hb7=>?_
 refine Ws 0 0 ?_
 refine Wd (Qc (Nz 0 ?_))
 refine Wk 1 (Jai rfl) ?_
 refine Wd (Qc (Cs (Nz 1 ?_)))
 refine Wk 1 (Ba 1) ?_
 refine Wk 1 (Cb rfl rfl Jnb (fun u hu=>Jdy (nth r.acs.l i).sp u (ha.sp.st hu) _ [.pointer (some ⟨b7,0,none⟩)] (fun x => !decide (x∈(nth r.acs.l i).us.l)) J3n (fun u2 h2 j a0 a1=>Jup (nth r.acs.l i) u2 ((ha.us.st hu).ext h2) _ _ _ _ _ ((Jap hu (j:=1) rfl).ext h2) ((Jap hu (j:=0) rfl).ext h2)))) ?_
 refine Wf 0 rfl rfl (fun hg=>Ff) ?_
 refine Wf 0 rfl rfl (fun hg=>Ba 1) ?_
 refine Wf 0 rfl rfl (fun hg=>Ba 0) ?_
 refine Wf 0 rfl rfl (fun hg=>Cb rfl (ec_ (eg_ hg rfl) (ec_ (eg_ hg rfl) en_)) Jnb (fun u hu=>Jdy (nth r.acs.l i).br u (ha.br.st hu) _ [.pointer (some ⟨b5,0,none⟩)] (fun x=>decide (x∈(nth r.acs.l i).us.l)) Jx5 (fun u2 h2 j a0 a1=>Jsd (nth r.acs.l i) u2 ((ha.us.st hu).ext h2) _ _ _ ((Jap hu (j:=1) rfl).ext h2)))) ?_
 refine Wk 0 Po ?_
 refine Wd (Qc (CS.cond rfl ?_ ?_))<;>intro hc3<;>try simp only [bq] at hc3
 ·
  refine Nz 1 ?_
  exact Wd (Qc (Cr (Qr (out1 rfl rfl (Jac (by rw [show actB r i=false by (unfold actB; rw [Jnc,Jn5]; rcases hc3 with h | h <;> simp [h])]))))))
 have e3:act3 (nth r.acs.l i)=true:=by (rw [Jnc]; simp only [Bool.not_eq_true']; exact hc3.1)
 have e4:act4 (nth r.acs.l i)=true:=by (rw [Jn5]; simp only [Bool.not_eq_true']; exact hc3.2)
 refine Ck (Qc (Cs (Nz 1 ?_)))
 refine Wk 0 (Ba 1) ?_
 refine Wk 1 Nc ?_
 refine Wd (Qc (Ce ?_))
 refine CS.loopM (σ:=Int) [6,9,10,11,77,78,79,80,81,82,83,84,85,86,87,88,89,90,91,92,93,94,95,96,97] (fun s=>[(76,.int .i64 s)]) (fun _=>_) (fun s=>0≤s∧s≤(nth r.acs.l i).se.l.length∧∀ j:Int,0≤j→j < s→(putB r.ths.l (nth (nth r.acs.l i).se.l j).t (nth (nth r.acs.l i).se.l j).s && !(((nth r.acs.l i).se.l.take j.toNat).any fun x=>decide (x.t=(nth (nth r.acs.l i).se.l j).t)))=true) (fun s=>((nth r.acs.l i).se.l.length - s).toNat) 0 (fun _ _=>rfl) rfl rfl ⟨by omega,by omega,fun j _ _=>by omega⟩ ?_
 intro p t hs
 obtain ⟨hp1,hp2,hp3⟩:=hs
 refine Nz 1 ?_
 refine Wd (Qc (Cs (CS.cond rfl ?_ ?_)))<;>intro hc4<;>try simp only [bq] at hc4
 ·
  refine Ck (Qc (Cs (Ce (Nz 1 ?_))))
  refine Wk 0 Xc ?_
  refine Wk 0 Ua ?_
  refine Wl 1 Jpf (fun _=>rfl) (fun _=>rfl) fun b10 hb10=>?_
  refine Wv 0 0 ?_
  refine Wd (Qc (Nz 1 ?_))
  refine Wk 1 (Ba 2) ?_
  refine Wk 0 (Jdi Jzi rfl rfl (by first | assumption | exact SlL.sp (by assumption) | exact ClS.sp (by assumption) | exact SlT.sp (by assumption)) (by omega) (by omega)) ?_
  refine Wk 0 (Jai rfl) ?_
  refine Wk 1 (Cb rfl rfl J4b (fun u hu=>Jj9 ((nth r.acs.l i).se.cut 2 0 p.toNat) u ((ha.se.cut (by omega) (by omega)).st hu) _ [.pointer (some ⟨b10,0,none⟩)] (fun x=>decide (x.t=(nth (nth r.acs.l i).se.l p).t)) J2o (fun u2 h2 j a0 a1=>Jwg _ (nth (nth r.acs.l i).se.l p) u2 _ _ ((Jap hu (j:=0) rfl).ext h2)))) ?_
  refine Wd (Qc (Nz 0 ?_))
  refine Wk 1 (Bb 3) ?_
  refine Wk 1 (Ba 0) ?_
  refine Wk 0 (Ba 0) ?_
  refine Wk 2 (Cb rfl rfl Jn2 (fun u hu=>Ji8 r u (hr.st hu) _ _)) ?_
  refine Wf 0 rfl rfl (fun hg=>Fm) ?_
  refine Wk 0 Po ?_
  refine Wd (Qc (CS.cond rfl ?_ ?_))<;>intro hc5<;>try simp only [bq] at hc5
  ·
   refine Nz 1 ?_
   exact Wd (Qc (Cr (Qs (Qr (Qr (Qs (Qr (out1 rfl rfl (Jac (by rw [show actB r i=false by (unfold actB; rw [show act5 r (nth r.acs.l i)=false from Jtq hp1 (by omega) (by simp only [Bool.and_eq_false_iff,Bool.not_eq_false']; exact hc5)]; simp)]))))))))))
  refine Ck (Qb (Qc (Ny 0 ?_)))
  refine Wk 1 Za ?_
  refine Wd ?_
  refine QS.sel [1,1,1] rfl ?_
  exact QS.head (p+1) rfl rfl ⟨⟨by omega,by omega,fun j h0 h1=>by
     rcases (show j < p∨j=p by omega) with h | h
     ·
      exact hp3 j h0 h
     rw [h]; simp only [Bool.and_eq_true,Bool.not_eq_true']; exact ⟨hc5.1,hc5.2⟩⟩,by omega⟩
 refine Cv (Qe (Qe (Qx (Qc (Nz 1 ?_)))))
 exact Wd (Qc (Cr (out1 rfl rfl (Jac (by unfold actB; rw [e1,e2,e3,e4,show act5 r (nth r.acs.l i)=true from Ji6 fun j a b=>hp3 j a (by omega)]; rfl)))))
theorem Jrx (r:Room) (w:World) (hr:RoomOk w r) (g:Sl ByteArray) (hG:GOk w g) (hn:NmB r) :
  Calls Tryz.prog 80 #[.agg #[r.pls.v,r.ths.v,r.prs.v,r.wys.v,r.acs.v,r.aus.v,.int .i64 r.ply,r.gl.v]] w (RetB w (.int .i64 (checkE r))):=by
 have kpl:=hr.pls
 have lpl:=hr.pls.le
 have kth:=hr.ths
 have lth:=hr.ths.le
 have kpr:=hr.prs
 have lpr:=hr.prs.le
 have kwy:=hr.wys
 have lwy:=hr.wys.le
 have kac:=hr.acs
 have lac:=hr.acs.le
 have kau:=hr.aus
 have lau:=hr.aus.le
 have kgl:=hr.gl
 have lgl:=hr.gl.le
 refine enter Tryz.func80 rfl rfl (Nat.le_of_ble_eq_true rfl) ?_
 refine Nz 0 ?_
 refine Wb 1 rfl rfl (fun _=>rfl) (fun _=>rfl) fun b1 hb1=>?_
 refine Wd (Qc (Cs (Nz 1 ?_)))
 refine Wk 0 (Ba 0) ?_
 refine Wk 2 Nc ?_
 refine Wf 0 rfl rfl (fun hg=>Ff) ?_
 refine Wf 0 rfl rfl (fun hg=>Ba 0) ?_
 refine Wf 0 rfl rfl (fun hg=>Nc (eg_ hg rfl)) ?_
 refine Wf 0 rfl rfl (fun hg=>Fg) ?_
 refine Wk 1 Po ?_
 refine Wf 0 rfl rfl (fun hg=>Ff) ?_
 refine Wf 0 rfl rfl (fun hg=>Ba 0) ?_
 refine Wf 0 rfl rfl (fun hg=>Nc (eg_ hg rfl)) ?_
 refine Wf 0 rfl rfl (fun hg=>Fg) ?_
 refine Wk 1 Po ?_
 refine Wf 0 rfl rfl (fun hg=>Ff) ?_
 refine Wf 0 rfl rfl (fun hg=>Ba 0) ?_
 refine Wf 0 rfl rfl (fun hg=>Nc (eg_ hg rfl)) ?_
 refine Wf 0 rfl rfl (fun hg=>Fg) ?_
 refine Wk 1 Po ?_
 refine Wf 0 rfl rfl (fun hg=>Ff) ?_
 refine Wf 0 rfl rfl (fun hg=>Ba 0) ?_
 refine Wf 0 rfl rfl (fun hg=>Nc (eg_ hg rfl)) ?_
 refine Wf 0 rfl rfl (fun hg=>Fg) ?_
 refine Wk 1 Po ?_
 refine Wf 0 rfl rfl (fun hg=>Ff) ?_
 refine Wf 0 rfl rfl (fun hg=>Ba 0) ?_
 refine Wf 0 rfl rfl (fun hg=>Nc (eg_ hg rfl)) ?_
 refine Wf 0 rfl rfl (fun hg=>Fg) ?_
 refine Wk 0 Po ?_
 refine Wd (Qc (CS.cond rfl ?_ ?_))<;>intro hc1<;>try simp only [bq] at hc1
 ·
  refine Nz 1 ?_
  exact Wd (Qc (Cr (Qr (out1 rfl rfl (Jac (by rw [show checkE r=2 from if_pos (by (unfold manyB; grind))]))))))
 have e0:manyB r=false:=by (unfold manyB; grind)
 refine Ck (Qc (Nz 0 ?_))
 refine Wk 1 (Jai rfl) ?_
 refine Wd (Qc (Cs (Nz 1 ?_)))
 refine Wk 0 (Ba 0) ?_
 refine Wk 1 Nc ?_
 refine Wd (Qc (Ce ?_))
 refine CS.loopM (σ:=Int) [2,4,5,55,56,57,58,59,60,61,62,63,64,65,66] (fun s=>[(54,.int .i64 s)]) (fun _=>_) (fun s=>0≤s∧s≤r.pls.l.length∧∀ j:Int,0≤j→j < s→plO r j=0) (fun s=>(r.pls.l.length - s).toNat) 0 (fun _ _=>rfl) rfl rfl ⟨by omega,by omega,fun j _ _=>by omega⟩ ?_
 intro a t hs
 obtain ⟨ha1,ha2,ha3⟩:=hs
 refine Nz 1 ?_
 refine Wd (Qc (Cs (CS.cond rfl ?_ ?_)))<;>intro hc2<;>try simp only [bq] at hc2
 ·
  have hnm:=hn.pl _ (Jaj ha1 (by omega))
  refine Ck (Qc (Cs (Ce (Nz 1 ?_))))
  refine Wk 0 Xc ?_
  refine Wk 2 Ub ?_
  refine Wd (Qc (Nz 2 ?_))
  refine Wk 1 (Ba 0) ?_
  refine Wk 0 (Jdi sl34 rfl rfl (by first | assumption | exact SlL.sp (by assumption) | exact ClS.sp (by assumption) | exact SlT.sp (by assumption)) (by omega) (by omega)) ?_
  refine Wk 1 (Cb rfl rfl J1g (fun u hu=>Jlu r.pls a u g (hG.st hu) (kpl.st hu) ha1 (by omega) (by simp only [id]; omega))) ?_
  refine Wd (Qc (CS.cond rfl ?_ ?_))<;>intro hc3<;>try simp only [bq] at hc3
  ·
   refine Nz 1 ?_
   refine Wd (Qc (Cr (Qs (Qr (Qr (Qs (Qr ?_)))))))
   exact out1 rfl rfl (Jac (by
      have e1:checkE r=Jgu r:=by unfold checkE; rw [if_neg (by rw [e0]; decide),if_neg (by omega)]
      have hE:plO r a=22:=by (unfold plO; simp only [id] at hc3; grind)
      rw [e1,show Jgu r=22 from Jcr ((Jaq ha1 (by omega) ha3 (by rw [hE]; decide)).trans hE) (by decide)]))
  refine Ck (Qb (Qc (Ny 0 ?_)))
  refine Wk 1 Za ?_
  refine Wd ?_
  exact QS.head (a+1) rfl rfl ⟨⟨by omega,by omega,fun j h0 h1=>by
     rcases (show j < a∨j=a by omega) with h | h
     ·
      exact ha3 j h0 h
     rw [h]; exact (show plO r a=0 by (unfold plO; simp only [id] at hc3; grind))⟩,by omega⟩
 refine Cv (Qe (Qe (Qx (Qc (Cs (Nz 1 ?_))))))
 refine Wk 0 (Ba 0) ?_
 refine Wk 1 Nc ?_
 refine Wd (Qc (CS.cond rfl ?_ ?_))<;>intro hc4<;>try simp only [bq] at hc4
 ·
  refine Nz 1 ?_
  exact Wd (Qc (Cr (Qr (out1 rfl rfl (Jac (by unfold checkE; rw [if_neg (by rw [e0]; decide),if_pos (by omega)]))))))
 have e1:checkE r=Jgu r:=by unfold checkE; rw [if_neg (by rw [e0]; decide),if_neg (by omega)]
 have e2:checkE r=Jj4 r:=e1.trans (Jb4 (Jao fun j a b=>ha3 j a (by omega)))
 refine Ck (Qc (Cs (Nz 1 ?_)))
 refine Wk 0 (Ba 0) ?_
 refine Wk 1 Nc ?_
 refine Wd (Qc (Ce ?_))
 refine CS.loopM (σ:=Int) [2,6,7,75,76,77,78,79,80,81,82,83,84,85,86,87,88,89,90,91,92,93,94,95,96,97,98,99,100,101,102,103,104,105,106,107,108,109] (fun s=>[(74,.int .i64 s)]) (fun _=>_) (fun s=>0≤s∧s≤r.ths.l.length∧∀ j:Int,0≤j→j < s→thO r j=0) (fun s=>(r.ths.l.length - s).toNat) 0 (fun _ _=>rfl) rfl rfl ⟨by omega,by omega,fun j _ _=>by omega⟩ ?_
 intro b t hs
 obtain ⟨hb1,hb2,hb3⟩:=hs
 refine Nz 1 ?_
 refine Wd (Qc (Cs (CS.cond rfl ?_ ?_)))<;>intro hc5<;>try simp only [bq] at hc5
 ·
  have hnm:=hn.th _ (Jaj hb1 (by omega))
  refine Ck (Qc (Cs (Ce (Nz 1 ?_))))
  refine Wk 0 Xc ?_
  refine Wk 0 Ua ?_
  refine Wl 1 Js2 (fun _=>rfl) (fun _=>rfl) fun b7 hb7=>?_
  refine Wv 0 0 ?_
  refine Wd (Qc (Cs (Dr mixed 1 ?_)))
  refine Dk 1 (Ba 0) ?_
  refine Dk 1 (Ba 1) ?_
  refine Dk 0 (Jdi sl35 rfl rfl (by first | assumption | exact SlL.sp (by assumption) | exact ClS.sp (by assumption) | exact SlT.sp (by assumption)) (by omega) (by omega)) ?_
  refine Dk 2 (Cb rfl rfl J3t (fun u hu=>Jo7 r.ths b u g (hG.st hu) (kth.st hu) hb1 (by omega) (by omega))) ?_
  refine Df 0 rfl rfl (fun hg=>Fm) ?_
  refine Df 0 rfl rfl (fun hg=>Ff) ?_
  refine Df 0 rfl rfl (fun hg=>Ba 0) ?_
  refine Df 0 rfl rfl (fun hg=>Cb (eg_ hg rfl) (ec_ (eg_ hg rfl) en_) Jol (fun u hu=>Jgl r u (hr.st hu) _ b1 _ (Jap hu (j:=1) rfl))) ?_
  refine Df 0 rfl rfl (fun hg=>Fn) ?_
  refine Dk 1 Po ?_
  refine Df 0 rfl rfl (fun hg=>Ff) ?_
  refine Df 0 rfl rfl (fun hg=>Ba 0) ?_
  refine Df 0 rfl rfl (fun hg=>Cb rfl (ec_ (eg_ hg rfl) (ec_ rfl (ec_ rfl en_))) Jch (fun u hu=>Ja9 _ _ _ u)) ?_
  refine Df 0 rfl rfl (fun hg=>Fn) ?_
  refine Dk 1 Po ?_
  refine Df 0 rfl rfl (fun hg=>Ff) ?_
  refine Df 0 rfl rfl (fun hg=>Ba 0) ?_
  refine Df 0 rfl rfl (fun hg=>Ff) ?_
  refine Df 0 rfl rfl (fun hg=>Ba 0) ?_
  refine Df 0 rfl rfl (fun hg=>Zb) ?_
  refine Df 0 rfl rfl (fun hg=>Cb rfl (ec_ (eg_ hg rfl) (ec_ rfl (ec_ (eg_ hg rfl) en_))) Jch (fun u hu=>Ja9 _ _ _ u)) ?_
  refine Df 0 rfl rfl (fun hg=>Fn) ?_
  refine Dk 0 Po ?_
  refine Dd (Qc (CS.cond rfl ?_ ?_))<;>intro hc6<;>try simp only [bq] at hc6
  ·
   refine Nz 1 ?_
   refine Wd (Qc (Cr (Qs (Qr (Qr (Qs (Qr ?_)))))))
   exact out1 rfl rfl (Jac (by
      have hE:thO r b=21:=by (unfold thO thB; grind)
      rw [e2,show Jj4 r=21 from Jcr ((Jaq hb1 (by omega) hb3 (by rw [hE]; decide)).trans hE) (by decide)]))
  refine Ck (Qb (Qc (Ny 0 ?_)))
  refine Wk 1 Za ?_
  refine Wd ?_
  refine QS.sel [1] rfl ?_
  exact QS.head (b+1) rfl rfl ⟨⟨by omega,by omega,fun j h0 h1=>by
     rcases (show j < b∨j=b by omega) with h | h
     ·
      exact hb3 j h0 h
     rw [h]; exact (show thO r b=0 by (unfold thO thB; grind))⟩,by omega⟩
 have e3:checkE r=Jh6 r:=e2.trans (Jb4 (Jao fun j a b=>hb3 j a (by omega)))
 refine Cv (Qe (Qe (Qx (Qc (Cs (Nz 1 ?_))))))
 refine Wk 0 (Ba 0) ?_
 refine Wk 1 Nc ?_
 refine Wd (Qc (Ce ?_))
 refine CS.loopM (σ:=Int) [2,8,9,114,115,116,117,118,119,120,121,122,123,124,125,126,127,128,129,130,131,132,133,134,135,136,137,138,139,140,141,142,143] (fun s=>[(113,.int .i64 s)]) (fun _=>_) (fun s=>0≤s∧s≤r.prs.l.length∧∀ j:Int,0≤j→j < s→prO r j=0) (fun s=>(r.prs.l.length - s).toNat) 0 (fun _ _=>rfl) rfl rfl ⟨by omega,by omega,fun j _ _=>by omega⟩ ?_
 intro d t hs
 obtain ⟨hd1,hd2,hd3⟩:=hs
 refine Nz 1 ?_
 refine Wd (Qc (Cs (CS.cond rfl ?_ ?_)))<;>intro hc7<;>try simp only [bq] at hc7
 ·
  have hnm:=hn.pr _ (Jaj hd1 (by omega))
  have hwh:SlT cLit w (nth r.prs.l d).wh:=hr.prs.at hd1 (by omega)
  refine Ck (Qc (Cs (Ce (Nz 1 ?_))))
  refine Wk 0 Xc ?_
  refine Wk 0 Ua ?_
  refine Wl 1 Jvz (fun _=>rfl) (fun _=>rfl) fun b9 hb9=>?_
  refine Wv 0 0 ?_
  refine Wd (Qc (Cs (Cs (Dr mixed 1 ?_))))
  refine Dk 1 (Ba 0) ?_
  refine Dk 1 (Ba 1) ?_
  refine Dk 0 (Jdi sl36 rfl rfl (by first | assumption | exact SlL.sp (by assumption) | exact ClS.sp (by assumption) | exact SlT.sp (by assumption)) (by omega) (by omega)) ?_
  refine Dk 2 (Cb rfl rfl J3w (fun u hu=>Jpj r.prs d u g (hG.st hu) (kpr.st hu) hd1 (by omega) (by omega))) ?_
  refine Df 0 rfl rfl (fun hg=>Fm) ?_
  refine Df 0 rfl rfl (fun hg=>Ff) ?_
  refine Df 0 rfl rfl (fun hg=>Ba 0) ?_
  refine Df 0 rfl rfl (fun hg=>Cb (eg_ hg rfl) (ec_ (eg_ hg rfl) en_) Jol (fun u hu=>Jgl r u (hr.st hu) _ b1 _ (Jap hu (j:=1) rfl))) ?_
  refine Df 0 rfl rfl (fun hg=>Fn) ?_
  refine Df 0 rfl rfl (fun hg=>Fm (eg_ hg rfl)) ?_
  refine Dn 0 rfl rfl rfl (fun hg=>Ff) ?_
  refine Dn 0 rfl rfl rfl (fun hg=>Ba 0) ?_
  refine Dn 0 rfl rfl rfl (fun hg=>Fr) ?_
  refine Df 0 rfl rfl (fun hg=>Jc0 (eg_ hg rfl) (Jm9 hg rfl) rfl) ?_
  refine Dk 0 Po ?_
  refine Dd (Qc (CS.cond rfl ?_ ?_))<;>intro hc8<;>try simp only [bq] at hc8
  ·
   refine Nz 1 ?_
   refine Wd (Qc (Cr (Qr (Qs (Qr (Qr (Qs (Qr ?_))))))))
   exact out1 rfl rfl (Jac (by
      have hE:prO r d=24:=by (unfold prO or0; grind)
      rw [e3,show Jh6 r=24 from Jcr ((Jaq hd1 (by omega) hd3 (by rw [hE]; decide)).trans hE) (by decide)]))
  refine Ck (Qc (Nz 0 ?_))
  refine Wk 1 (Bb 1) ?_
  refine Wk 0 (Ba 0) ?_
  refine Wk 1 (Cb rfl rfl Jip (fun u hu=>Jfu r u (hr.st hu) _ (hwh.st hu))) ?_
  refine Wd (Qc (CS.cond rfl ?_ ?_))<;>intro hc9<;>try simp only [bq] at hc9
  ·
   refine Nz 1 ?_
   refine Wd (Qc (Cr (Qs (Qr (Qr (Qs (Qr ?_)))))))
   exact out1 rfl rfl (Jac (by
      have hE:prO r d=25:=by (unfold prO or0 whO; grind)
      rw [e3,show Jh6 r=25 from Jcr ((Jaq hd1 (by omega) hd3 (by rw [hE]; decide)).trans hE) (by decide)]))
  refine Ck (Qb (Qc (Ny 0 ?_)))
  refine Wk 1 Za ?_
  refine Wd ?_
  refine QS.sel [1] rfl ?_
  exact QS.head (d+1) rfl rfl ⟨⟨by omega,by omega,fun j h0 h1=>by
     rcases (show j < d∨j=d by omega) with h | h
     ·
      exact hd3 j h0 h
     rw [h]; exact (show prO r d=0 by (unfold prO or0 whO; grind))⟩,by omega⟩
 have e4:checkE r=Jhw r:=e3.trans (Jb4 (Jao fun j a b=>hd3 j a (by omega)))
 refine Cv (Qe (Qe (Qx (Qc (Cs (Nz 1 ?_))))))
 refine Wk 0 (Ba 0) ?_
 refine Wk 1 Nc ?_
 refine Wd (Qc (Ce ?_))
 refine CS.loopM (σ:=Int) [2,11,148,149,150,151,152,153,154,155,156,157,158,159,160,161,162,163,164,165,166,167,168,169,170,171,172,173,174,175] (fun s=>[(147,.int .i64 s)]) (fun _=>_) (fun s=>0≤s∧s≤r.wys.l.length∧∀ j:Int,0≤j→j < s→wyO r j=0) (fun s=>(r.wys.l.length - s).toNat) 0 (fun _ _=>rfl) rfl rfl ⟨by omega,by omega,fun j _ _=>by omega⟩ ?_
 intro e t hs
 obtain ⟨he1,he2,he3⟩:=hs
 refine Nz 1 ?_
 refine Wd (Qc (Cs (CS.cond rfl ?_ ?_)))<;>intro hc10<;>try simp only [bq] at hc10
 ·
  have hwh:SlT cLit w (nth r.wys.l e).wh:=hr.wys.at he1 (by omega)
  refine Ck (Qc (Cs (Ce (Nz 0 ?_))))
  refine Wk 0 Xc ?_
  refine Wk 0 Ua ?_
  refine Wl 0 Jt7 (fun _=>rfl) (fun _=>rfl) fun b11 hb11=>?_
  refine Wv 0 0 ?_
  refine Wd (Qc (Cs (Nz 2 ?_)))
  refine Wk 0 (Ba 0) ?_
  refine Wk 2 (Cb rfl rfl Jol (fun u hu=>Jgl r u (hr.st hu) _ b1 _ (Jap hu (j:=1) rfl))) ?_
  refine Wf 0 rfl rfl (fun hg=>Fm) ?_
  refine Wf 0 rfl rfl (fun hg=>Ff) ?_
  refine Wf 0 rfl rfl (fun hg=>Ba 0) ?_
  refine Wf 0 rfl rfl (fun hg=>Cb (eg_ hg rfl) (ec_ (eg_ hg rfl) en_) Jol (fun u hu=>Jgl r u (hr.st hu) _ b1 _ (Jap hu (j:=1) rfl))) ?_
  refine Wf 0 rfl rfl (fun hg=>Fn) ?_
  refine Wk 1 Po ?_
  refine Wf 0 rfl rfl (fun hg=>Ff) ?_
  refine Wf 0 rfl rfl (fun hg=>Ba 0) ?_
  refine Wf 0 rfl rfl (fun hg=>Ff) ?_
  refine Wf 0 rfl rfl (fun hg=>Ba 0) ?_
  refine Wf 0 rfl rfl (fun hg=>Fq) ?_
  refine Wk 0 Po ?_
  refine Wd (Qc (CS.cond rfl ?_ ?_))<;>intro hc11<;>try simp only [bq] at hc11
  ·
   refine Nz 1 ?_
   refine Wd (Qc (Cr (Qr (Qs (Qr (Qr (Qs (Qr ?_))))))))
   exact out1 rfl rfl (Jac (by
      have hE:wyO r e=23:=by (unfold wyO or0; grind)
      rw [e4,show Jhw r=23 from Jcr ((Jaq he1 (by omega) he3 (by rw [hE]; decide)).trans hE) (by decide)]))
  refine Ck (Qc (Nz 0 ?_))
  refine Wk 1 (Bb 1) ?_
  refine Wk 0 (Ba 0) ?_
  refine Wk 1 (Cb rfl rfl Jip (fun u hu=>Jfu r u (hr.st hu) _ (hwh.st hu))) ?_
  refine Wd (Qc (CS.cond rfl ?_ ?_))<;>intro hc12<;>try simp only [bq] at hc12
  ·
   refine Nz 1 ?_
   refine Wd (Qc (Cr (Qs (Qr (Qr (Qs (Qr ?_)))))))
   exact out1 rfl rfl (Jac (by
      have hE:wyO r e=25:=by (unfold wyO or0 whO; grind)
      rw [e4,show Jhw r=25 from Jcr ((Jaq he1 (by omega) he3 (by rw [hE]; decide)).trans hE) (by decide)]))
  refine Ck (Qb (Qc (Ny 0 ?_)))
  refine Wk 1 Za ?_
  refine Wd ?_
  refine QS.sel [1] rfl ?_
  exact QS.head (e+1) rfl rfl ⟨⟨by omega,by omega,fun j h0 h1=>by
     rcases (show j < e∨j=e by omega) with h | h
     ·
      exact he3 j h0 h
     rw [h]; exact (show wyO r e=0 by (unfold wyO or0 whO; grind))⟩,by omega⟩
 have e5:checkE r=Jie r:=e4.trans (Jb4 (Jao fun j a b=>he3 j a (by omega)))
 refine Cv (Qe (Qe (Qx (Qc (Cs (Nz 1 ?_))))))
 refine Wk 0 (Ba 0) ?_
 refine Wk 1 Nc ?_
 refine Wd (Qc (Ce ?_))
 refine CS.loopM (σ:=Int) [2,12,13,180,181,182,183,184,185,186,187,188,189,190,191,192,193,194] (fun s=>[(179,.int .i64 s)]) (fun _=>_) (fun s=>0≤s∧s≤r.acs.l.length∧∀ j:Int,0≤j→j < s→acO r j=0) (fun s=>(r.acs.l.length - s).toNat) 0 (fun _ _=>rfl) rfl rfl ⟨by omega,by omega,fun j _ _=>by omega⟩ ?_
 intro k t hs
 obtain ⟨hk1,hk2,hk3⟩:=hs
 refine Nz 1 ?_
 refine Wd (Qc (Cs (CS.cond rfl ?_ ?_)))<;>intro hc13<;>try simp only [bq] at hc13
 ·
  have hak:ActOk w (nth r.acs.l k):=hr.acs.at hk1 (by omega)
  have hwh:SlT cLit w (nth r.acs.l k).wh:=hak.wh
  refine Ck (Qc (Cs (Ce (Nz 1 ?_))))
  refine Wk 0 Xc ?_
  refine Wk 0 Ua ?_
  refine Wl 1 Jmn (fun _=>rfl) (fun _=>rfl) fun b13 hb13=>?_
  refine Wv 0 0 ?_
  refine Wd (Qc (Cs (Nz 0 ?_)))
  refine Wk 1 (Bb 1) ?_
  refine Wk 0 (Bb 0) ?_
  refine Wk 1 (Cb rfl rfl J4p (fun u hu=>J19 r u (hr.st hu) g (hG.st hu) _ hk1 (by omega) (fun x hx=>(hn.ac x hx).1))) ?_
  refine Wd (Qc (CS.cond rfl ?_ ?_))<;>intro hc14<;>try simp only [bq] at hc14
  ·
   refine Nz 1 ?_
   refine Wd (Qc (Cr (Qr (Qs (Qr (Qr (Qs (Qr ?_))))))))
   exact out1 rfl rfl (Jac (by
      have hE:acO r k=26:=by (unfold acO or0; grind)
      rw [e5,show Jie r=26 from Jcr ((Jaq hk1 (by omega) hk3 (by rw [hE]; decide)).trans hE) (by decide)]))
  refine Ck (Qc (Nz 0 ?_))
  refine Wk 1 (Bb 1) ?_
  refine Wk 0 (Ba 0) ?_
  refine Wk 1 (Cb rfl rfl Jip (fun u hu=>Jfu r u (hr.st hu) _ (hwh.st hu))) ?_
  refine Wd (Qc (CS.cond rfl ?_ ?_))<;>intro hc15<;>try simp only [bq] at hc15
  ·
   refine Nz 1 ?_
   refine Wd (Qc (Cr (Qs (Qr (Qr (Qs (Qr ?_)))))))
   exact out1 rfl rfl (Jac (by
      have hE:acO r k=25:=by (unfold acO or0 whO; grind)
      rw [e5,show Jie r=25 from Jcr ((Jaq hk1 (by omega) hk3 (by rw [hE]; decide)).trans hE) (by decide)]))
  refine Ck (Qb (Qc (Ny 0 ?_)))
  refine Wk 1 Za ?_
  refine Wd ?_
  refine QS.sel [1] rfl ?_
  exact QS.head (k+1) rfl rfl ⟨⟨by omega,by omega,fun j h0 h1=>by
     rcases (show j < k∨j=k by omega) with h | h
     ·
      exact hk3 j h0 h
     rw [h]; exact (show acO r k=0 by (unfold acO or0 whO; grind))⟩,by omega⟩
 have e6:checkE r=Jig r:=e5.trans (Jb4 (Jao fun j a b=>hk3 j a (by omega)))
 refine Cv (Qe (Qe (Qx (Qc (Cs (Nz 1 ?_))))))
 refine Wk 0 (Ba 0) ?_
 refine Wk 1 Nc ?_
 refine Wd (Qc (Ce ?_))
 refine CS.loopM (σ:=Int) [2,15,199,200,201,202,203,204,205,206,207,208,209,210,211,212,213,214,215,216] (fun s=>[(198,.int .i64 s)]) (fun _=>_) (fun s=>0≤s∧s≤r.aus.l.length∧∀ j:Int,0≤j→j < s→auO r j=0) (fun s=>(r.aus.l.length - s).toNat) 0 (fun _ _=>rfl) rfl rfl ⟨by omega,by omega,fun j _ _=>by omega⟩ ?_
 intro m t hs
 obtain ⟨hm1,hm2,hm3⟩:=hs
 refine Nz 1 ?_
 refine Wd (Qc (Cs (CS.cond rfl ?_ ?_)))<;>intro hc16<;>try simp only [bq] at hc16
 ·
  have hwh:SlT cLit w (nth r.aus.l m).wh:=hr.aus.at hm1 (by omega)
  refine Ck (Qc (Cs (Ce (Nz 0 ?_))))
  refine Wk 0 Xc ?_
  refine Wk 0 Ua ?_
  refine Wl 0 J5y (fun _=>rfl) (fun _=>rfl) fun b15 hb15=>?_
  refine Wv 0 0 ?_
  refine Wd (Qc (Cs (Nz 0 ?_)))
  refine Wk 2 (Bb 1) ?_
  refine Wk 2 (Ba 0) ?_
  refine Wk 0 (Ba 0) ?_
  refine Wk 1 (Cb rfl rfl Jn2 (fun u hu=>Ji8 r u (hr.st hu) _ _)) ?_
  refine Wd (Qc (CS.cond rfl ?_ ?_))<;>intro hc17<;>try simp only [bq] at hc17
  ·
   refine Nz 1 ?_
   refine Wd (Qc (Cr (Qr (Qs (Qr (Qr (Qs (Qr ?_))))))))
   exact out1 rfl rfl (Jac (by
      have hE:auO r m=27:=by (unfold auO or0; grind)
      rw [e6,show Jig r=27 from Jcr ((Jaq hm1 (by omega) hm3 (by rw [hE]; decide)).trans hE) (by decide)]))
  refine Ck (Qc (Nz 0 ?_))
  refine Wk 1 (Bb 1) ?_
  refine Wk 0 (Ba 0) ?_
  refine Wk 1 (Cb rfl rfl Jip (fun u hu=>Jfu r u (hr.st hu) _ (hwh.st hu))) ?_
  refine Wd (Qc (CS.cond rfl ?_ ?_))<;>intro hc18<;>try simp only [bq] at hc18
  ·
   refine Nz 1 ?_
   refine Wd (Qc (Cr (Qs (Qr (Qr (Qs (Qr ?_)))))))
   exact out1 rfl rfl (Jac (by
      have hE:auO r m=25:=by (unfold auO or0 whO; grind)
      rw [e6,show Jig r=25 from Jcr ((Jaq hm1 (by omega) hm3 (by rw [hE]; decide)).trans hE) (by decide)]))
  refine Ck (Qb (Qc (Ny 0 ?_)))
  refine Wk 1 Za ?_
  refine Wd ?_
  refine QS.sel [1] rfl ?_
  exact QS.head (m+1) rfl rfl ⟨⟨by omega,by omega,fun j h0 h1=>by
     rcases (show j < m∨j=m by omega) with h | h
     ·
      exact hm3 j h0 h
     rw [h]; exact (show auO r m=0 by (unfold auO or0 whO; grind))⟩,by omega⟩
 have e7:checkE r=glO r:=e6.trans (Jb4 (Jao fun j a b=>hm3 j a (by omega)))
 refine Cv (Qe (Qe (Qx (Qc (Cs (Nz 1 ?_))))))
 refine Wk 0 (Ba 0) ?_
 refine Wk 1 (Cb rfl rfl Jch (fun u hu=>Ja9 _ _ _ u)) ?_
 refine Wd (Qc (CS.cond rfl ?_ ?_))<;>intro hc19<;>try simp only [bq] at hc19
 ·
  refine Nz 1 ?_
  exact Wd (Qc (Cr (Qr (out1 rfl rfl (Jac (by rw [e7,show glO r=1 by (unfold glO or0; grind)]))))))
 refine Ck (Qc (Cs (Nz 0 ?_)))
 refine Wk 1 (Bb 0) ?_
 refine Wk 0 (Ba 0) ?_
 refine Wk 1 (Cb rfl rfl Jip (fun u hu=>Jfu r u (hr.st hu) _ (kgl.st hu))) ?_
 refine Wd (Qc (CS.cond rfl ?_ ?_))<;>intro hc20<;>try simp only [bq] at hc20
 ·
  refine Nz 1 ?_
  exact Wd (Qc (Cr (Qr (out1 rfl rfl (Jac (by rw [e7,show glO r=25 by (unfold glO or0 whO; grind)]))))))
 refine Ck (Qc (Nz 1 ?_))
 exact Wd (Qc (Cr (out1 rfl rfl (Jac (by rw [e7,show glO r=0 by (unfold glO or0 whO; grind)])))))
theorem Jiu (r:Room) (w:World) (hr:RoomOk w r) (g:Sl ByteArray) (hG:GOk w g) (hn:Near r):Calls Tryz.prog 80 #[.agg #[r.pls.v,r.ths.v,r.prs.v,r.wys.v,r.acs.v,r.aus.v,.int .i64 r.ply,r.gl.v]] w (RetB w (.int .i64 (checkE r))):=Jrx r w hr g hG hn.nm
end Go.Proofs.YtfbfdnoodccgiaaGreatDoor
