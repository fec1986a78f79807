/- Merged texts of this proof (walks and plain laws), printed by a program of the prover. -/
import Derived.Test.YtmoojmgihdgceaaGreatDoorZh
import Derived.Test.YtmoojmgihdgceaaGreatDoorZc
set_option maxHeartbeats 8000000
namespace Go.Proofs.YtmoojmgihdgceaaGreatDoor
open Go.RowKit Go.Proofs Tryz
set_option maxRecDepth 100000
set_option linter.unusedVariables false
set_option linter.unusedSimpArgs false
theorem ActOk.ext {w u:World} {a:Actn} (h:ActOk w a) (hb:Below w.heap.size w u):ActOk u a:=cAct.ext w u a h hb
theorem Lb (x:ByteArray) (w:World):
  Calls prog 175 #[.string x] w (RetB w (.string (id x))):=by
 refine En func175 ?_;refine Nz 1 ?_;refine Nx 2 ?_;exact Wd (Qc (Cr (out1 rfl rfl retB)))
theorem Oc (x:ByteArray) (tx:ByteArray) (b1 b2:Nat) (e1 e2:TypeId) (w:World) (h1:BlkAt w b1 [.func (.func 175) #[] #[]] e1) (h2:BlkAt w b2 [.string tx] e2):
  Calls prog 238 #[.string x,.pointer (some ⟨b1,0,none⟩),.pointer (some ⟨b2,0,none⟩)] w (RetB w (.bool (seq (id x) tx))):=by
 refine En func238 ?_;refine Nz 1 ?_;refine Wd (Qc (Cs (Dr mixed 0 ?_)));refine Dk 1 Ga ?_;refine Dk 0 (Cb rfl rfl XL (fun u hu=>Lb x u)) ?_;refine Dk 0 Ga ?_;refine Dk 1 (AL rfl rfl) ?_;exact Dd (Qc (Cr (out1 rfl rfl retB)))
theorem Q3 (s0:Sl ByteArray) (tx:ByteArray) (w:World) (hk:SlT cStr w s0):
  Calls prog 211 #[s0.v,.string tx,.func (.func 175) #[] #[]] w (RetB w (.int .i64 (idxF (fun x=>seq (id x) tx) s0.l))):=by
 refine En func211 ?_;refine Nz 0 ?_;refine Wr 0 fun b4 hb4=>?_;refine Wr 1 fun b5 hb5=>?_;refine Nx 1 ?_;refine Wk 0 (Al rfl) ?_;refine Wk 1 (Cb rfl rfl Zp (fun u hu=>M6 s0 u (hk.st hu) _ [.pointer (some ⟨b5,0,none⟩),.pointer (some ⟨b4,0,none⟩)] (fun x=>seq (id x) tx) X5 (fun u2 h2 i h0 h1=>Oc _ _ _ _ _ _ u2 ((AD hu (j:=0) rfl).ext h2) ((AD hu (j:=1) rfl).ext h2)))) ?_;exact Wd (Qc (Cr (out1 rfl rfl retB)))
theorem Nr (s0:Sl ByteArray) (tx:ByteArray) (w:World) (g:Sl ByteArray) (hG:GOk w g) (hk:SlT cStr w s0) (hm:(tx.size:Int)≤9223372036854775806):
  Calls prog 174 #[.string tx,s0.v,.func (.func 175) #[] #[]] w (RetB w (.bool (Bs tx&&!(s0.l.any fun x=>seq (id x) tx)))):=by
 refine En func174 ?_;refine Nz 1 ?_;refine Nx 1 ?_;refine Wk 1 (Cb rfl rfl Ms (fun u hu=>Me tx u g (hG.st hu) (by omega))) ?_;refine Wj 0 ?_;refine Wt 0 rfl rfl (fun hg=>A2 underlying9 (eg_ hg rfl)) ?_;refine Wj 0 ?_;refine Wk 1 Pa ?_;refine Wj 0 ?_;refine Wj 0 ?_;refine Wj 0 ?_;refine Wt 0 rfl rfl (fun hg=>Cb rfl (ec_ (eg_ hg rfl) (ec_ (eg_ hg rfl) (ec_ (eg_ hg rfl) en_))) YT (fun u hu=>Q3 s0 _ u (hk.st hu))) ?_;refine Wj 0 ?_;refine Wk 1 Pa ?_;refine Wd (Qc (Cr ?_))
 exact out1 rfl rfl (Ab (by
    rw[←BO,Bs];congr 1;rw[Bool.eq_iff_iff];simp only[Bool.and_eq_true,decide_eq_true_eq,Bool.not_eq_true',decide_eq_false_iff_not]
    constructor<;>rintro⟨⟨a,b⟩,c⟩<;>refine⟨⟨b,a⟩,by omega⟩))
theorem Lk (x:Thing) (w:World):
  Calls prog 177 #[.agg #[.string x.nm,.int .i64 x.pl,.int .i64 x.st,.int .i64 x.sr]] w (RetB w (.string (Thing.nm x))):=by
 refine En func177 ?_;refine Nz 0 ?_;refine Wr 1 fun b1 hb1=>?_;refine Nx 1 ?_;refine Wk 1 (Ba 0) ?_;exact Wd (Qc (Cr (out1 rfl rfl retB)))
theorem Rt (x:Thing) (tx:ByteArray) (b1 b2:Nat) (e1 e2:TypeId) (w:World) (h1:BlkAt w b1 [.func (.func 177) #[] #[]] e1) (h2:BlkAt w b2 [.string tx] e2):
  Calls prog 240 #[.agg #[.string x.nm,.int .i64 x.pl,.int .i64 x.st,.int .i64 x.sr],.pointer (some ⟨b1,0,none⟩),.pointer (some ⟨b2,0,none⟩)] w (RetB w (.bool (seq (Thing.nm x) tx))):=by
 refine En func240 ?_;refine Nz 0 ?_;refine Wr 1 fun b3 hb3=>?_;refine Wd (Qc (Cs (Dr mixed 0 ?_)));refine Dk 0 Ga ?_;refine Dk 0 (Bb 0) ?_;refine Dk 0 (Cb rfl rfl XN (fun u hu=>Lk x u)) ?_;refine Dk 0 Ga ?_;refine Dk 1 (AL rfl rfl) ?_;exact Dd (Qc (Cr (out1 rfl rfl retB)))
theorem S9 (s0:Sl Thing) (tx:ByteArray) (w:World) (hk:SlT cThing w s0):
  Calls prog 212 #[s0.v,.string tx,.func (.func 177) #[] #[]] w (RetB w (.int .i64 (idxF (fun x=>seq (Thing.nm x) tx) s0.l))):=by
 refine En func212 ?_;refine Nz 0 ?_;refine Wr 0 fun b4 hb4=>?_;refine Wr 1 fun b5 hb5=>?_;refine Nx 1 ?_;refine Wk 0 (Al rfl) ?_;refine Wk 1 (Cb rfl rfl YQ (fun u hu=>Oo s0 u (hk.st hu) _ [.pointer (some ⟨b5,0,none⟩),.pointer (some ⟨b4,0,none⟩)] (fun x=>seq (Thing.nm x) tx) ZN (fun u2 h2 i h0 h1=>Rt _ _ _ _ _ _ u2 ((AD hu (j:=0) rfl).ext h2) ((AD hu (j:=1) rfl).ext h2)))) ?_;exact Wd (Qc (Cr (out1 rfl rfl retB)))
theorem Rc (s0:Sl Thing) (tx:ByteArray) (w:World) (g:Sl ByteArray) (hG:GOk w g) (hk:SlT cThing w s0) (hm:(tx.size:Int)≤9223372036854775806):
  Calls prog 176 #[.string tx,s0.v,.func (.func 177) #[] #[]] w (RetB w (.bool (Bs tx&&!(s0.l.any fun x=>seq (Thing.nm x) tx)))):=by
 refine En func176 ?_;refine Nz 1 ?_;refine Nx 1 ?_;refine Wk 1 (Cb rfl rfl Ms (fun u hu=>Me tx u g (hG.st hu) (by omega))) ?_;refine Wj 0 ?_;refine Wt 0 rfl rfl (fun hg=>A2 underlying9 (eg_ hg rfl)) ?_;refine Wj 0 ?_;refine Wk 1 Pa ?_;refine Wj 0 ?_;refine Wj 0 ?_;refine Wj 0 ?_;refine Wt 0 rfl rfl (fun hg=>Cb rfl (ec_ (eg_ hg rfl) (ec_ (eg_ hg rfl) (ec_ (eg_ hg rfl) en_))) W5 (fun u hu=>S9 s0 _ u (hk.st hu))) ?_;refine Wj 0 ?_;refine Wk 1 Pa ?_;refine Wd (Qc (Cr ?_))
 exact out1 rfl rfl (Ab (by
    rw[←BO,Bs];congr 1;rw[Bool.eq_iff_iff];simp only[Bool.and_eq_true,decide_eq_true_eq,Bool.not_eq_true',decide_eq_false_iff_not]
    constructor<;>rintro⟨⟨a,b⟩,c⟩<;>refine⟨⟨b,a⟩,by omega⟩))
theorem Ni (x:Pro) (w:World) (hx:SlT cLit w x.wh):
  Calls prog 179 #[.agg #[.string x.nm,.int .i64 x.pl,x.wh.v]] w (RetB w (.string (Pro.nm x))):=by
 refine En func179 ?_;refine Nz 0 ?_;refine Wr 1 fun b1 hb1=>?_;refine Nx 1 ?_;refine Wk 1 (Ba 0) ?_;exact Wd (Qc (Cr (out1 rfl rfl retB)))
theorem QW (x:Pro) (tx:ByteArray) (b1 b2:Nat) (e1 e2:TypeId) (w:World) (hx:SlT cLit w x.wh) (h1:BlkAt w b1 [.func (.func 179) #[] #[]] e1) (h2:BlkAt w b2 [.string tx] e2):
  Calls prog 242 #[.agg #[.string x.nm,.int .i64 x.pl,x.wh.v],.pointer (some ⟨b1,0,none⟩),.pointer (some ⟨b2,0,none⟩)] w (RetB w (.bool (seq (Pro.nm x) tx))):=by
 refine En func242 ?_;refine Nz 0 ?_;refine Wr 1 fun b3 hb3=>?_;refine Wd (Qc (Cs (Dr mixed 0 ?_)));refine Dk 0 Ga ?_;refine Dk 0 (Bb 0) ?_;refine Dk 0 (Cb rfl rfl ZL (fun u hu=>Ni x u (hx.st hu))) ?_;refine Dk 0 Ga ?_;refine Dk 1 (AL rfl rfl) ?_;exact Dd (Qc (Cr (out1 rfl rfl retB)))
theorem SK (s0:Sl Pro) (tx:ByteArray) (w:World) (hk:SlT cPro w s0):
  Calls prog 213 #[s0.v,.string tx,.func (.func 179) #[] #[]] w (RetB w (.int .i64 (idxF (fun x=>seq (Pro.nm x) tx) s0.l))):=by
 refine En func213 ?_;refine Nz 0 ?_;refine Wr 0 fun b4 hb4=>?_;refine Wr 1 fun b5 hb5=>?_;refine Nx 1 ?_;refine Wk 0 (Al rfl) ?_;refine Wk 1 (Cb rfl rfl XX (fun u hu=>QK s0 u (hk.st hu) _ [.pointer (some ⟨b5,0,none⟩),.pointer (some ⟨b4,0,none⟩)] (fun x=>seq (Pro.nm x) tx) X1 (fun u2 h2 i h0 h1=>QW _ _ _ _ _ _ u2 (((hk.st hu).ext h2).at h0 h1) ((AD hu (j:=0) rfl).ext h2) ((AD hu (j:=1) rfl).ext h2)))) ?_;exact Wd (Qc (Cr (out1 rfl rfl retB)))
theorem PA (s0:Sl Pro) (tx:ByteArray) (w:World) (g:Sl ByteArray) (hG:GOk w g) (hk:SlT cPro w s0) (hm:(tx.size:Int)≤9223372036854775806):
  Calls prog 178 #[.string tx,s0.v,.func (.func 179) #[] #[]] w (RetB w (.bool (Bs tx&&!(s0.l.any fun x=>seq (Pro.nm x) tx)))):=by
 refine En func178 ?_;refine Nz 1 ?_;refine Nx 1 ?_;refine Wk 1 (Cb rfl rfl Ms (fun u hu=>Me tx u g (hG.st hu) (by omega))) ?_;refine Wj 0 ?_;refine Wt 0 rfl rfl (fun hg=>A2 underlying9 (eg_ hg rfl)) ?_;refine Wj 0 ?_;refine Wk 1 Pa ?_;refine Wj 0 ?_;refine Wj 0 ?_;refine Wj 0 ?_;refine Wt 0 rfl rfl (fun hg=>Cb rfl (ec_ (eg_ hg rfl) (ec_ (eg_ hg rfl) (ec_ (eg_ hg rfl) en_))) Zg (fun u hu=>SK s0 _ u (hk.st hu))) ?_;refine Wj 0 ?_;refine Wk 1 Pa ?_;refine Wd (Qc (Cr ?_))
 exact out1 rfl rfl (Ab (by
    rw[←BO,Bs];congr 1;rw[Bool.eq_iff_iff];simp only[Bool.and_eq_true,decide_eq_true_eq,Bool.not_eq_true',decide_eq_false_iff_not]
    constructor<;>rintro⟨⟨a,b⟩,c⟩<;>refine⟨⟨b,a⟩,by omega⟩))
theorem PC (x:Actn) (w:World) (hx:ActOk w x):
  Calls prog 216 #[.agg #[.string x.nm,.int .i64 x.pl,.int .i64 x.lk,x.us.v,x.wh.v,x.se.v,x.sp.v,x.br.v]] w (RetB w (.string (Actn.nm x))):=by
 refine En func216 ?_;refine Nz 0 ?_;refine Wr 1 fun b1 hb1=>?_;refine Nx 1 ?_;refine Wk 1 (Ba 0) ?_;exact Wd (Qc (Cr (out1 rfl rfl retB)))
theorem QB (x:Actn) (tx:ByteArray) (b1 b2:Nat) (e1 e2:TypeId) (w:World) (hx:ActOk w x) (h1:BlkAt w b1 [.func (.func 216) #[] #[]] e1) (h2:BlkAt w b2 [.string tx] e2):
  Calls prog 251 #[.agg #[.string x.nm,.int .i64 x.pl,.int .i64 x.lk,x.us.v,x.wh.v,x.se.v,x.sp.v,x.br.v],.pointer (some ⟨b1,0,none⟩),.pointer (some ⟨b2,0,none⟩)] w (RetB w (.bool (seq (Actn.nm x) tx))):=by
 refine En func251 ?_;refine Nz 0 ?_;refine Wr 1 fun b3 hb3=>?_;refine Wd (Qc (Cs (Dr mixed 0 ?_)));refine Dk 0 Ga ?_;refine Dk 0 (Bb 0) ?_;refine Dk 0 (Cb rfl rfl YN (fun u hu=>PC x u (hx.ext hu.below))) ?_;refine Dk 0 Ga ?_;refine Dk 1 (AL rfl rfl) ?_;exact Dd (Qc (Cr (out1 rfl rfl retB)))
theorem S4 (s0:Sl Actn) (tx:ByteArray) (w:World) (hk:SlT cAct w s0):
  Calls prog 243 #[s0.v,.string tx,.func (.func 216) #[] #[]] w (RetB w (.int .i64 (idxF (fun x=>seq (Actn.nm x) tx) s0.l))):=by
 refine En func243 ?_;refine Nz 0 ?_;refine Wr 0 fun b4 hb4=>?_;refine Wr 1 fun b5 hb5=>?_;refine Nx 1 ?_;refine Wk 0 (Al rfl) ?_;refine Wk 1 (Cb rfl rfl Xo (fun u hu=>OB s0 u (hk.st hu) _ [.pointer (some ⟨b5,0,none⟩),.pointer (some ⟨b4,0,none⟩)] (fun x=>seq (Actn.nm x) tx) Zd (fun u2 h2 i h0 h1=>QB _ _ _ _ _ _ u2 (((hk.st hu).ext h2).at h0 h1) ((AD hu (j:=0) rfl).ext h2) ((AD hu (j:=1) rfl).ext h2)))) ?_;exact Wd (Qc (Cr (out1 rfl rfl retB)))
theorem RH (s0:Sl Actn) (tx:ByteArray) (w:World) (g:Sl ByteArray) (hG:GOk w g) (hk:SlT cAct w s0) (hm:(tx.size:Int)≤9223372036854775806):
  Calls prog 215 #[.string tx,s0.v,.func (.func 216) #[] #[]] w (RetB w (.bool (Bs tx&&!(s0.l.any fun x=>seq (Actn.nm x) tx)))):=by
 refine En func215 ?_;refine Nz 1 ?_;refine Nx 1 ?_;refine Wk 1 (Cb rfl rfl Ms (fun u hu=>Me tx u g (hG.st hu) (by omega))) ?_;refine Wj 0 ?_;refine Wt 0 rfl rfl (fun hg=>A2 underlying9 (eg_ hg rfl)) ?_;refine Wj 0 ?_;refine Wk 1 Pa ?_;refine Wj 0 ?_;refine Wj 0 ?_;refine Wj 0 ?_;refine Wt 0 rfl rfl (fun hg=>Cb rfl (ec_ (eg_ hg rfl) (ec_ (eg_ hg rfl) (ec_ (eg_ hg rfl) en_))) XE (fun u hu=>S4 s0 _ u (hk.st hu))) ?_;refine Wj 0 ?_;refine Wk 1 Pa ?_;refine Wd (Qc (Cr ?_))
 exact out1 rfl rfl (Ab (by
    rw[←BO,Bs];congr 1;rw[Bool.eq_iff_iff];simp only[Bool.and_eq_true,decide_eq_true_eq,Bool.not_eq_true',decide_eq_false_iff_not]
    constructor<;>rintro⟨⟨a,b⟩,c⟩<;>refine⟨⟨b,a⟩,by omega⟩))
theorem Gp (r:Room) (w:World) (hr:RoomOk w r) (n:Int) (b:Nat) (e:TypeId) (hb:BlkAt w b (rcl r) e):
  Calls prog 173 #[.int .i64 n,.pointer (some ⟨b,0,none⟩)] w (RetB w (.bool (placeB r n))):=by
 have kpl:=hr.pls;have lpl:=hr.pls.le;have kth:=hr.ths;have lth:=hr.ths.le;have kpr:=hr.prs;have lpr:=hr.prs.le;have kwy:=hr.wys;have lwy:=hr.wys.le;have kac:=hr.acs;have lac:=hr.acs.le;have kau:=hr.aus;have lau:=hr.aus.le;have kgl:=hr.gl;have lgl:=hr.gl.le;refine En func173 ?_;refine Nz 1 ?_;refine Nx 2 ?_;refine Wk 0 Ga ?_;refine Wk 0 Nc ?_;refine Wk 0 Zb ?_;refine Wk 1 (Cb rfl rfl CA (fun u hu=>Bq _ _ _ u)) ?_;exact Wd (Qc (Cr (out1 rfl rfl (Ab rfl))))
theorem Jn (r:Room) (w:World) (hr:RoomOk w r) (a b:Int):
  Calls prog 169 #[.agg (rcl r).toArray,.int .i64 a,.int .i64 b] w (RetB w (.bool (putB r.ths.l a b))):=by
 have kpl:=hr.pls;have lpl:=hr.pls.le;have kth:=hr.ths;have lth:=hr.ths.le;have kpr:=hr.prs;have lpr:=hr.prs.le;have kwy:=hr.wys;have lwy:=hr.wys.le;have kac:=hr.acs;have lac:=hr.acs.le;have kau:=hr.aus;have lau:=hr.aus.le;have kgl:=hr.gl;have lgl:=hr.gl.le;refine En func169 ?_;refine Nz 0 ?_;refine Wr 1 fun b3 hb3=>?_;refine Nx 2 ?_;refine Wk 0 (Ba 0) ?_;refine Wk 0 Nc ?_;refine Wk 0 Zb ?_;refine Wk 1 (Cb rfl rfl CA (fun u hu=>Bq _ _ _ u)) ?_;refine Wj 0 ?_;refine Wj 0 ?_;refine Wj 0 ?_;refine Wj 0 ?_;refine Wj 0 ?_;refine Wj 0 ?_;refine Wt 0 rfl rfl (fun hg=>Uc 4 2) ?_;refine Wt 0 rfl rfl (fun hg=>IR (eg_ hg rfl) rfl) ?_;refine Wt 0 rfl rfl (fun hg=>Cb rfl (ec_ (eg_ hg rfl) (ec_ rfl (ec_ (eg_ hg rfl) en_))) CA (fun u hu=>Bq _ _ _ u)) ?_;refine Wk 1 Pa ?_;exact Wd (Qc (Cr (out1 rfl rfl (Ab rfl))))
theorem SZ (r:Room) (w:World) (hr:RoomOk w r) (x:Lit) (b:Nat) (e:TypeId) (hb:BlkAt w b (rcl r) e):
  Calls prog 214 #[.agg #[.int .i64 x.t,.int .i64 x.s,.bool x.nt],.pointer (some ⟨b,0,none⟩)] w (RetB w (.bool (!putB r.ths.l x.t x.s))):=by
 refine En func214 ?_;refine Nz 0 ?_;refine Wr 1 fun b2 hb2=>?_;refine Nx 0 ?_;refine Wk 1 Gb ?_;refine Wk 1 (Ba 0) ?_;refine Wk 0 (Ba 0) ?_;refine Wk 2 (Cb rfl rfl Mv (fun u hu=>Jn r u (hr.st hu) _ _)) ?_;exact Wd (Qc (Cr (out1 rfl rfl retB)))
theorem FU (r:Room) (w:World) (hr:RoomOk w r) (c:Sl Lit) (hk:SlT cLit w c):
  Calls prog 180 #[.agg (rcl r).toArray,c.v] w (RetB w (.bool (D6 r.ths.l c.l))):=by
 have lcs:=hk.le;refine En func180 ?_;refine Nz 0 ?_;refine Wr 1 fun b2 hb2=>?_;refine Nx 0 ?_;refine Wk 1 (Al rfl) ?_;refine Nx 1 ?_;refine Wk 2 Nc ?_;refine Wj 0 ?_;refine Wj 0 ?_;refine Wt 0 rfl rfl (fun hg=>Cb rfl (ec_ (eg_ hg rfl) (ec_ (eg_ hg rfl) en_)) QM (fun u hu=>D4 c u (hk.st hu) _ [.pointer (some ⟨b2,0,none⟩)] (fun x=>!putB r.ths.l x.t x.s) XS (fun u2 h2 i h0 h1=>SZ r u2 ((hr.st hu).ext h2) _ _ _ ((AD hu (j:=0) rfl).ext h2)))) ?_;refine Wj 0 ?_;refine Wk 1 Pa ?_;exact Wd (Qc (Cr (out1 rfl rfl (Ab (by unfold D6;rw[Bool.and_comm];congr 1;simp[List.all_eq_not_any_not])))))
theorem KC (r:Room) (w:World) (hr:RoomOk w r) (v:Value) (xs:List Int) (hx:SlI w v xs):
  Calls prog 217 #[.agg (rcl r).toArray,v] w (RetB w (.bool (ascB r.prs.l.length xs))):=by
 have kpl:=hr.pls;have lpl:=hr.pls.le;have kth:=hr.ths;have lth:=hr.ths.le;have kpr:=hr.prs;have lpr:=hr.prs.le;have kwy:=hr.wys;have lwy:=hr.wys.le;have kac:=hr.acs;have lac:=hr.acs.le;have kau:=hr.aus;have lau:=hr.aus.le;have kgl:=hr.gl;have lgl:=hr.gl.le;have lxs:=hx.le;refine En func217 ?_;refine Nz 0 ?_;refine Wr 1 fun b2 hb2=>?_;refine Nx 1 ?_;refine Nv 1 ?_;refine Wk 1 Na ?_;refine Nu ?_;refine CS.loopM (σ:=Int×Int) (rsL [4,4,7,7,11,25]) (fun s=>[(10,.int .i64 s.1),(5,.int .i64 s.2)]) (fun _=>_) (fun s=>0≤s.1∧s.1≤xs.length∧((s.1=0∧s.2 = -1)∨(0<s.1∧s.2=nth xs (s.1-1)∧0≤s.2))∧∀j:Int,0≤j→j<s.1→((decide (0≤nth xs j)&&decide (nth xs j≤(r.prs.l.length:Int)-1))&&(decide (j=0)||decide (nth xs (j-1)<nth xs j)))=true) (fun s=>(xs.length-s.1).toNat) (0,-1) (fun _ _=>rfl) rfl rfl ⟨by simp,by simp,.inl ⟨rfl,rfl⟩,fun j h0 h1=>by simp at h1;omega⟩ ?_;intro s t hs;obtain⟨hs1,hs2,hs3,hs4⟩:=hs;refine Nz 1 ?_;refine Wd (Qc (Cs (Cn ?_ ?_)))<;>intro hc1
 ·refine Ck (Qc (Cs (Ce (Nz 0 ?_))));refine Wk 0 Xa ?_;refine Wk 1 Ia ?_;refine Nv 4 ?_;refine We 0 ?_;refine We 0 ?_;refine We 0 ?_;refine We 0 ?_;refine We 0 ?_;refine Wk 0 Po ?_;refine Wp ?_ ?_<;>intro hc2
  ·refine Nz 1 ?_;exact Wd (Qc (Cr (Qr (Qs (Qr (Qr (Qs (Qr (out1 rfl rfl (Ab (by rw[show ascB r.prs.l.length xs=false from Dp hs1 (by omega) (by simp only[Bool.and_eq_false_iff,Bool.or_eq_false_iff,decide_eq_false_iff_not];omega)])))))))))))
  refine Ck (Qc (Ny 2 ?_));refine Wd (Qb (Qc (Ny 0 ?_)));refine Wk 1 Za ?_;refine Wd ?_
  exact QS.head ((s.1+1,nth xs s.1)) rfl rfl ⟨⟨by simp;omega,by simp;omega,.inr ⟨by simp;omega,by simp,by simp only;omega⟩,fun j h0 h1=>by
     simp only at h1;rcases(show j<s.1∨j=s.1 by omega)with h|h
     ·exact hs4 j h0 h
     rw[h];simp only[Bool.and_eq_true,Bool.or_eq_true,decide_eq_true_eq];omega⟩,by simp;omega⟩
 refine Cv (Qe (Qe (Qx (Qc (Nz 1 ?_)))));exact Wd (Qc (Cr (out1 rfl rfl (Ab (by rw[show ascB r.prs.l.length xs=true from CI fun j h0 h1=>hs4 j h0 (by omega)])))))
theorem R5 (s0:Sl Int) (n:Int) (w:World) (hk:SlT cInt w s0):
  Calls prog 190 #[s0.v,.int .i64 n] w (RetB w (.int .i64 (idxF (fun x=>decide (n=x)) s0.l))):=by
 have hl1:=hk.le;have hki:=hk.ints;refine En func190 ?_;refine Nz 1 ?_;refine Nv 1 ?_;refine Wk 1 Na ?_;refine Nu ?_;refine CS.loopM (σ:=Int) (rsL [4,5,9,18]) (fun s=>[(8,.int .i64 s)]) (fun _=>_) (fun s=>0≤s∧s≤s0.l.length∧∀j:Int,0≤j→j<s→decide (n=nth s0.l j)=false) (fun s=>(s0.l.length-s).toNat) 0 (fun _ _=>rfl) rfl rfl ⟨by omega,by omega,fun j h1 h2=>by omega⟩ ?_;intro s t hs;obtain⟨hs1,hs2,hs3⟩:=hs;refine Nz 1 ?_;refine Wd (Qc (Cs (Cn ?_ ?_)))<;>intro hc1
 ·refine Ck (Qc (Cs (Ce (Nz 2 ?_))));refine Nx 3 ?_;refine Wk 0 Xa ?_;refine Wk 1 Ia ?_;refine Wp ?_ ?_<;>intro hc2
  ·refine Nz 2 ?_;exact Wd (Qc (Cr (Qs (Qr (Qr (Qs (Qr (out1 rfl rfl (Ab (by rw[AR (p:=fun x=>decide (n=x)) hs1 (by omega) hs3 (decide_eq_true hc2)]))))))))))
  refine Ck (Qb (Qc (Ny 0 ?_)));refine Wk 1 Za ?_;exact Wd (QS.head (s+1) rfl rfl ⟨⟨by omega,by omega,fun j h1 h2=>if hj:j=s then by rw[hj];exact decide_eq_false hc2 else hs3 j h1 (by omega)⟩,by omega⟩)
 refine Cv (Qe (Qe (Qx (Qc (Nz 1 ?_)))));exact Wd (Qc (Cr (out1 rfl rfl (Ab (by rw[Bh (p:=fun x=>decide (n=x)) fun j h1 h2=>hs3 j h1 (by omega)])))))
theorem GH (s0:Sl Int) (n:Int) (w:World) (hk:SlT cInt w s0):
  Calls prog 145 #[s0.v,.int .i64 n] w (RetB w (.bool (decide (n∈s0.l)))):=by
 refine En func145 ?_;refine Nz 1 ?_;refine Nx 2 ?_;refine Wk 2 (Cb rfl rfl Yp (fun u hu=>R5 s0 _ u (hk.st hu))) ?_;exact Wd (Qc (Cr (out1 rfl rfl (Ab (by rw[BO];congr 1;rw[Bool.eq_iff_iff];simp)))))
theorem KS (l0:Sl ByteArray) (i:Int) (w:World) (g:Sl ByteArray) (hG:GOk w g) (hk:SlT cStr w l0) (h0:0≤i) (h1:i<l0.l.length) (hm:((id (nth l0.l i)).size:Int)≤9223372036854775806):
  Calls prog 174 #[.string (id (nth l0.l i)),(l0.cut 1 0 i.toNat).v,.func (.func 175) #[] #[]] w (RetB w (.bool (Bs (id (nth l0.l i))&&newB id l0.l i))):=
 Nr (l0.cut 1 0 i.toNat) _ w g hG (hk.cut (by omega) (by omega)) hm
theorem Ng (l0:Sl Thing) (i:Int) (w:World) (g:Sl ByteArray) (hG:GOk w g) (hk:SlT cThing w l0) (h0:0≤i) (h1:i<l0.l.length) (hm:((Thing.nm (nth l0.l i)).size:Int)≤9223372036854775806):
  Calls prog 176 #[.string (Thing.nm (nth l0.l i)),(l0.cut 4 0 i.toNat).v,.func (.func 177) #[] #[]] w (RetB w (.bool (Bs (Thing.nm (nth l0.l i))&&newB Thing.nm l0.l i))):=
 Rc (l0.cut 4 0 i.toNat) _ w g hG (hk.cut (by omega) (by omega)) hm
theorem NZ (l0:Sl Pro) (i:Int) (w:World) (g:Sl ByteArray) (hG:GOk w g) (hk:SlT cPro w l0) (h0:0≤i) (h1:i<l0.l.length) (hm:((Pro.nm (nth l0.l i)).size:Int)≤9223372036854775806):
  Calls prog 178 #[.string (Pro.nm (nth l0.l i)),(l0.cut 3 0 i.toNat).v,.func (.func 179) #[] #[]] w (RetB w (.bool (Bs (Pro.nm (nth l0.l i))&&newB Pro.nm l0.l i))):=
 PA (l0.cut 3 0 i.toNat) _ w g hG (hk.cut (by omega) (by omega)) hm
theorem Og (l0:Sl Actn) (i:Int) (w:World) (g:Sl ByteArray) (hG:GOk w g) (hk:SlT cAct w l0) (h0:0≤i) (h1:i<l0.l.length) (hm:((Actn.nm (nth l0.l i)).size:Int)≤9223372036854775806):
  Calls prog 215 #[.string (Actn.nm (nth l0.l i)),(l0.cut 8 0 i.toNat).v,.func (.func 216) #[] #[]] w (RetB w (.bool (Bs (Actn.nm (nth l0.l i))&&newB Actn.nm l0.l i))):=
 RH (l0.cut 8 0 i.toNat) _ w g hG (hk.cut (by omega) (by omega)) hm
theorem Mf (a:Actn):act3 a = !(a.sp.l.any fun x=>!decide (x∈a.us.l)):=by
 unfold act3;rw[←HA (p:=fun x=>decide (x∈a.us.l)),List.all_eq_not_any_not]
theorem LB (a:Actn):act4 a = !(a.br.l.any fun x=>decide (x∈a.us.l)):=by
 unfold act4;rw[←HA (p:=fun x=>!decide (x∈a.us.l)),List.all_eq_not_any_not];simp
theorem Ou (a:Actn) (w:World) (ha:SlT cInt w a.us) (p:Int) (b:Nat) (e:TypeId) (hb:BlkAt w b [.string a.nm,.int .i64 a.pl,.int .i64 a.lk,a.us.v,a.wh.v,a.se.v,a.sp.v,a.br.v] e):
  Calls prog 218 #[.int .i64 p,.pointer (some ⟨b,0,none⟩)] w (RetB w (.bool (decide (p∈a.us.l)))):=by
 refine En func218 ?_;refine Nz 1 ?_;refine Nx 1 ?_;refine Wk 1 Ga ?_;refine Wk 1 (Cb rfl rfl UB (fun u hu=>GH a.us _ u (ha.st hu))) ?_;exact Wd (Qc (Cr (out1 rfl rfl retB)))
theorem Qj (a:Actn) (w:World) (ha:SlT cInt w a.us) (p:Int) (b b7:Nat) (e e7:TypeId) (hb:BlkAt w b [.string a.nm,.int .i64 a.pl,.int .i64 a.lk,a.us.v,a.wh.v,a.se.v,a.sp.v,a.br.v] e) (h7:BlkAt w b7 [.func (.func 218) #[] #[.pointer (some ⟨b,0,none⟩)]] e7):
  Calls prog 219 #[.int .i64 p,.pointer (some ⟨b7,0,none⟩)] w (RetB w (.bool (!decide (p∈a.us.l)))):=by
 refine En func219 ?_;refine Nz 1 ?_;refine Nx 0 ?_;refine Wk 1 Ga ?_;refine Wk 2 (Cb rfl rfl US (fun u hu=>Ou a u (ha.st hu) p b e (hb.st hu))) ?_;exact Wd (Qc (Cr (out1 rfl rfl retB)))
theorem Sj (x y:Put) (w:World) (b:Nat) (e:TypeId) (hb:BlkAt w b [.int .i64 y.t,.int .i64 y.s] e):
  Calls prog 221 #[.agg #[.int .i64 x.t,.int .i64 x.s],.pointer (some ⟨b,0,none⟩)] w (RetB w (.bool (decide (x.t=y.t)))):=by
 refine En func221 ?_;refine Nz 0 ?_;refine Wr 1 fun b2 hb2=>?_;refine Nx 1 ?_;refine Wk 1 (Ba 0) ?_;refine Wk 2 Ga ?_;exact Wd (Qc (Cr (out1 rfl rfl retB)))
theorem Zs (r:Room) (w:World) (hr:RoomOk w r) (g:Sl ByteArray) (hG:GOk w g) (i:Int) (h0:0≤i) (h1:i<r.acs.l.length) (hn:∀x∈r.acs.l,x.nm.size≤70000):
  Calls prog 181 #[.agg (rcl r).toArray,.int .i64 i,.agg #[.string (nth r.acs.l i).nm,.int .i64 (nth r.acs.l i).pl,.int .i64 (nth r.acs.l i).lk,(nth r.acs.l i).us.v,(nth r.acs.l i).wh.v,(nth r.acs.l i).se.v,(nth r.acs.l i).sp.v,(nth r.acs.l i).br.v]] w (RetB w (.bool (actB r i))):=by
 have kpl:=hr.pls;have lpl:=hr.pls.le;have kth:=hr.ths;have lth:=hr.ths.le;have kpr:=hr.prs;have lpr:=hr.prs.le;have kwy:=hr.wys;have lwy:=hr.wys.le;have kac:=hr.acs;have lac:=hr.acs.le;have kau:=hr.aus;have lau:=hr.aus.le;have kgl:=hr.gl;have lgl:=hr.gl.le;have ha:ActOk w (nth r.acs.l i):=hr.acs.at h0 h1;have hus:=ha.us.ints;have hsp:=ha.sp.ints;have hbr:=ha.br.ints;have kse:=ha.se;have lse:=kse.le;have hnm:=hn _ (Ad h0 h1);refine En func181 ?_;refine Nz 0 ?_;refine Wr 0 fun b3 hb3=>?_;refine Wr 1 fun b5 hb5=>?_;refine Wd (Qc (Cs (Cs (Dr mixed 1 ?_))));refine Dk 1 (Ba 0) ?_;refine Dk 1 (Ba 1) ?_;refine Dk 0 (DI sl26 rfl rfl (by first|assumption|exact SlL.sp (by assumption)|exact ClS.sp (by assumption)|exact SlT.sp (by assumption)) (by omega) (by omega)) ?_;refine Dk 2 (Cb rfl rfl Yx (fun u hu=>Og r.acs i u g (hG.st hu) (kac.st hu) h0 h1 (by omega))) ?_;refine De 0 ?_;refine De 0 ?_;refine De 0 ?_;refine De 0 ?_;refine De 0 ?_;refine De 0 ?_;refine Df 0 rfl rfl (fun hg=>Cb rfl (ec_ (eg_ hg rfl) (ec_ rfl (ec_ (eg_ hg rfl) en_))) CA (fun u hu=>Bq _ _ _ u)) ?_;refine De 0 ?_;refine Dk 1 Po ?_;refine De 0 ?_;refine De 0 ?_;refine Df 0 rfl rfl (fun hg=>Cb rfl (ec_ (eg_ hg rfl) (ec_ rfl (ec_ rfl en_))) CA (fun u hu=>Bq _ _ _ u)) ?_;refine De 0 ?_;refine Dk 0 Po ?_;refine Dd (Qc (Cn ?_ ?_))<;>intro hc1
 ·refine Nz 1 ?_;exact Wd (Qc (Cr (Qr (out1 rfl rfl (Ab (by rw[show actB r i=false by(unfold actB act2 placeB;grind)]))))))
 have e1:newB Actn.nm r.acs.l i=true:=by grind
 refine Ck (Qc (Cs (Nz 0 ?_)));refine Wk 1 (Bb 1) ?_;refine Wk 0 (Ba 0) ?_;refine Wk 2 (Cb rfl rfl PR (fun u hu=>KC r u (hr.st hu) _ _ (hus.st hu))) ?_;refine We 0 ?_;refine We 0 ?_;refine We 0 ?_;refine Wf 0 rfl rfl (fun hg=>Cb rfl (ec_ (eg_ hg rfl) (ec_ (eg_ hg rfl) en_)) PR (fun u hu=>KC r u (hr.st hu) _ _ (hsp.st hu))) ?_;refine We 0 ?_;refine Wk 1 Po ?_;refine We 0 ?_;refine We 0 ?_;refine We 0 ?_;refine Wf 0 rfl rfl (fun hg=>Cb rfl (ec_ (eg_ hg rfl) (ec_ (eg_ hg rfl) en_)) PR (fun u hu=>KC r u (hr.st hu) _ _ (hbr.st hu))) ?_;refine We 0 ?_;refine Wk 1 Po ?_;refine We 0 ?_;refine We 0 ?_;refine We 0 ?_;refine We 0 ?_;refine Wk 0 Po ?_;refine Wp ?_ ?_<;>intro hc2
 ·refine Nz 1 ?_;exact Wd (Qc (Cr (Qr (out1 rfl rfl (Ab (by rw[show actB r i=false by(unfold actB act2;grind)]))))))
 have e2:act2 r (nth r.acs.l i)=true:=by(unfold act2 placeB;grind)
 refine Ck (Qc (Nz 0 ?_));refine Wk 0 (Al rfl) ?_;refine Wq 0 ZR fun b7 hb7=>?_;refine Ws 0 0 ?_;refine Nx 0 ?_;refine Wk 1 (Al rfl) ?_;refine Nv 1 ?_;refine Wk 1 (Ba 1) ?_;refine Wk 1 (Cb rfl rfl MU (fun u hu=>D0 (nth r.acs.l i).sp u (ha.sp.st hu) _ [.pointer (some ⟨b7,0,none⟩)] (fun x=>!decide (x∈(nth r.acs.l i).us.l)) XQ (fun u2 h2 j a0 a1=>Qj (nth r.acs.l i) u2 ((ha.us.st hu).ext h2) _ _ _ _ _ ((AD hu (j:=1) rfl).ext h2) ((AD hu (j:=0) rfl).ext h2)))) ?_;refine We 0 ?_;refine We 0 ?_;refine We 0 ?_;refine Wf 0 rfl rfl (fun hg=>Cb rfl (ec_ (eg_ hg rfl) (ec_ (eg_ hg rfl) en_)) MU (fun u hu=>D0 (nth r.acs.l i).br u (ha.br.st hu) _ [.pointer (some ⟨b5,0,none⟩)] (fun x=>decide (x∈(nth r.acs.l i).us.l)) US (fun u2 h2 j a0 a1=>Ou (nth r.acs.l i) u2 ((ha.us.st hu).ext h2) _ _ _ ((AD hu (j:=1) rfl).ext h2)))) ?_;refine Wk 0 Po ?_;refine Wp ?_ ?_<;>intro hc3
 ·refine Nz 1 ?_;exact Wd (Qc (Cr (Qr (out1 rfl rfl (Ab (by rw[show actB r i=false by(unfold actB;rw[Mf,LB];rcases hc3 with h|h<;>simp[h])]))))))
 have e3:act3 (nth r.acs.l i)=true:=by(rw[Mf];simp only[Bool.not_eq_true'];exact hc3.1)
 have e4:act4 (nth r.acs.l i)=true:=by(rw[LB];simp only[Bool.not_eq_true'];exact hc3.2)
 refine Ck (Qc (Cs (Nz 1 ?_)));refine Wk 0 (Ba 1) ?_;refine Wk 1 Nc ?_;refine Nu ?_;refine CS.loopM (σ:=Int) (rsL [6,6,9,11,77,97]) (fun s=>[(76,.int .i64 s)]) (fun _=>_) (fun s=>0≤s∧s≤(nth r.acs.l i).se.l.length∧∀j:Int,0≤j→j<s→(putB r.ths.l (nth (nth r.acs.l i).se.l j).t (nth (nth r.acs.l i).se.l j).s&&!(((nth r.acs.l i).se.l.take j.toNat).any fun x=>decide (x.t=(nth (nth r.acs.l i).se.l j).t)))=true) (fun s=>((nth r.acs.l i).se.l.length-s).toNat) 0 (fun _ _=>rfl) rfl rfl ⟨by omega,by omega,fun j _ _=>by omega⟩ ?_;intro p t hs;obtain⟨hp1,hp2,hp3⟩:=hs;refine Nz 1 ?_;refine Wd (Qc (Cs (Cn ?_ ?_)))<;>intro hc4
 ·refine Ck (Qc (Cs (Ce (Nz 1 ?_))));refine Wk 0 Xc ?_;refine Wk 0 Ua ?_;refine Wq 1 Sq fun b10 hb10=>?_;refine Wv 0 0 ?_;refine Nx 1 ?_;refine Wk 1 (Ba 2) ?_;refine Wk 0 (DI VM rfl rfl (by first|assumption|exact SlL.sp (by assumption)|exact ClS.sp (by assumption)|exact SlT.sp (by assumption)) (by omega) (by omega)) ?_;refine Wk 0 (Al rfl) ?_;refine Wk 1 (Cb rfl rfl Zt (fun u hu=>J8 ((nth r.acs.l i).se.cut 2 0 p.toNat) u ((ha.se.cut (by omega) (by omega)).st hu) _ [.pointer (some ⟨b10,0,none⟩)] (fun x=>decide (x.t=(nth (nth r.acs.l i).se.l p).t)) Xf (fun u2 h2 j a0 a1=>Sj _ (nth (nth r.acs.l i).se.l p) u2 _ _ ((AD hu (j:=0) rfl).ext h2)))) ?_;refine Nx 0 ?_;refine Wk 1 (Bb 3) ?_;refine Wk 1 (Ba 0) ?_;refine Wk 0 (Ba 0) ?_;refine Wk 2 (Cb rfl rfl Mv (fun u hu=>Jn r u (hr.st hu) _ _)) ?_;refine We 0 ?_;refine Wk 0 Po ?_;refine Wp ?_ ?_<;>intro hc5
  ·refine Nz 1 ?_;exact Wd (Qc (Cr (Qs (Qr (Qr (Qs (Qr (out1 rfl rfl (Ab (by rw[show actB r i=false by(unfold actB;rw[show act5 r (nth r.acs.l i)=false from Dp hp1 (by omega) (by simp only[Bool.and_eq_false_iff,Bool.not_eq_false'];exact hc5)];simp)]))))))))))
  refine Ck (Qb (Qc (Ny 0 ?_)));refine Wk 1 Za ?_;refine Wd ?_;refine QS.sel [1,1,1] rfl ?_
  exact QS.head (p+1) rfl rfl ⟨⟨by omega,by omega,fun j h0 h1=>by
     rcases(show j<p∨j=p by omega)with h|h
     ·exact hp3 j h0 h
     rw[h];simp only[Bool.and_eq_true,Bool.not_eq_true'];exact⟨hc5.1,hc5.2⟩⟩,by omega⟩
 refine Cv (Qe (Qe (Qx (Qc (Nz 1 ?_)))));exact Wd (Qc (Cr (out1 rfl rfl (Ab (by unfold actB;rw[e1,e2,e3,e4,show act5 r (nth r.acs.l i)=true from CI fun j a b=>hp3 j a (by omega)];rfl)))))
theorem Px (r:Room) (w:World) (hr:RoomOk w r) (g:Sl ByteArray) (hG:GOk w g) (hn:NmB r):
  Calls prog 138 #[.agg (rcl r).toArray] w (RetB w (.int .i64 (checkE r))):=by
 have kpl:=hr.pls;have lpl:=hr.pls.le;have kth:=hr.ths;have lth:=hr.ths.le;have kpr:=hr.prs;have lpr:=hr.prs.le;have kwy:=hr.wys;have lwy:=hr.wys.le;have kac:=hr.acs;have lac:=hr.acs.le;have kau:=hr.aus;have lau:=hr.aus.le;have kgl:=hr.gl;have lgl:=hr.gl.le;refine En func138 ?_;refine Nz 0 ?_;refine Wr 1 fun b1 hb1=>?_;refine Nv 1 ?_;refine Wk 0 (Ba 0) ?_;refine Wk 2 Nc ?_;refine We 0 ?_;refine We 0 ?_;refine We 0 ?_;refine We 0 ?_;refine Wk 1 Po ?_;refine We 0 ?_;refine We 0 ?_;refine We 0 ?_;refine We 0 ?_;refine Wk 1 Po ?_;refine We 0 ?_;refine We 0 ?_;refine We 0 ?_;refine We 0 ?_;refine Wk 1 Po ?_;refine We 0 ?_;refine We 0 ?_;refine We 0 ?_;refine We 0 ?_;refine Wk 1 Po ?_;refine We 0 ?_;refine We 0 ?_;refine We 0 ?_;refine We 0 ?_;refine Wk 0 Po ?_;refine Wp ?_ ?_<;>intro hc1
 ·refine Nz 1 ?_;exact Wd (Qc (Cr (Qr (out1 rfl rfl (Ab (by rw[show checkE r=2 from if_pos (by(unfold manyB;grind))]))))))
 have e0:manyB r=false:=by(unfold manyB;grind)
 refine Ck (Qc (Nz 0 ?_));refine Wk 1 (Al rfl) ?_;refine Nv 1 ?_;refine Wk 0 (Ba 0) ?_;refine Wk 1 Nc ?_;refine Nu ?_;refine CS.loopM (σ:=Int) (rsL [2,2,4,5,55,66]) (fun s=>[(54,.int .i64 s)]) (fun _=>_) (fun s=>0≤s∧s≤r.pls.l.length∧∀j:Int,0≤j→j<s→plO r j=0) (fun s=>(r.pls.l.length-s).toNat) 0 (fun _ _=>rfl) rfl rfl ⟨by omega,by omega,fun j _ _=>by omega⟩ ?_;intro a t hs;obtain⟨ha1,ha2,ha3⟩:=hs;refine Nz 1 ?_;refine Wd (Qc (Cs (Cn ?_ ?_)))<;>intro hc2
 ·have hnm:=hn.pl _ (Ad ha1 (by omega));refine Ck (Qc (Cs (Ce (Nz 1 ?_))));refine Wk 0 Xc ?_;refine Wk 2 Ub ?_;refine Nx 2 ?_;refine Wk 1 (Ba 0) ?_;refine Wk 0 (DI sl22 rfl rfl (by first|assumption|exact SlL.sp (by assumption)|exact ClS.sp (by assumption)|exact SlT.sp (by assumption)) (by omega) (by omega)) ?_;refine Wk 1 (Cb rfl rfl Yw (fun u hu=>KS r.pls a u g (hG.st hu) (kpl.st hu) ha1 (by omega) (by simp only[id];omega))) ?_;refine Wp ?_ ?_<;>intro hc3
  ·refine Nz 1 ?_;refine Wd (Qc (Cr (Qs (Qr (Qr (Qs (Qr ?_)))))))
   exact out1 rfl rfl (Ab (by
      have e1:checkE r=F6 r:=by unfold checkE;rw[if_neg (by rw[e0];decide),if_neg (by omega)]
      have hE:plO r a=22:=by(unfold plO;simp only[id]at hc3;grind)
      rw[e1,show F6 r=22 from Bn ((Aq ha1 (by omega) ha3 (by rw[hE];decide)).trans hE) (by decide)]))
  refine Ck (Qb (Qc (Ny 0 ?_)));refine Wk 1 Za ?_;refine Wd ?_
  exact QS.head (a+1) rfl rfl ⟨⟨by omega,by omega,fun j h0 h1=>by
     rcases(show j<a∨j=a by omega)with h|h
     ·exact ha3 j h0 h
     rw[h];exact(show plO r a=0 by(unfold plO;simp only[id]at hc3;grind))⟩,by omega⟩
 refine Cv (Qe (Qe (Qx (Qc (Cs (Nz 1 ?_))))));refine Wk 0 (Ba 0) ?_;refine Wk 1 Nc ?_;refine Wp ?_ ?_<;>intro hc4
 ·refine Nz 1 ?_;exact Wd (Qc (Cr (Qr (out1 rfl rfl (Ab (by unfold checkE;rw[if_neg (by rw[e0];decide),if_pos (by omega)]))))))
 have e1:checkE r=F6 r:=by unfold checkE;rw[if_neg (by rw[e0];decide),if_neg (by omega)]
 have e2:checkE r=HO r:=e1.trans (Bm (As fun j a b=>ha3 j a (by omega)));refine Ck (Qc (Cs (Nz 1 ?_)));refine Wk 0 (Ba 0) ?_;refine Wk 1 Nc ?_;refine Nu ?_;refine CS.loopM (σ:=Int) (rsL [2,2,6,7,75,109]) (fun s=>[(74,.int .i64 s)]) (fun _=>_) (fun s=>0≤s∧s≤r.ths.l.length∧∀j:Int,0≤j→j<s→thO r j=0) (fun s=>(r.ths.l.length-s).toNat) 0 (fun _ _=>rfl) rfl rfl ⟨by omega,by omega,fun j _ _=>by omega⟩ ?_;intro b t hs;obtain⟨hb1,hb2,hb3⟩:=hs;refine Nz 1 ?_;refine Wd (Qc (Cs (Cn ?_ ?_)))<;>intro hc5
 ·have hnm:=hn.th _ (Ad hb1 (by omega));refine Ck (Qc (Cs (Ce (Nz 1 ?_))));refine Wk 0 Xc ?_;refine Wk 0 Ua ?_;refine Wq 1 PL fun b7 hb7=>?_;refine Wv 0 0 ?_;refine Wd (Qc (Cs (Dr mixed 1 ?_)));refine Dk 1 (Ba 0) ?_;refine Dk 1 (Ba 1) ?_;refine Dk 0 (DI sl23 rfl rfl (by first|assumption|exact SlL.sp (by assumption)|exact ClS.sp (by assumption)|exact SlT.sp (by assumption)) (by omega) (by omega)) ?_;refine Dk 2 (Cb rfl rfl Y4 (fun u hu=>Ng r.ths b u g (hG.st hu) (kth.st hu) hb1 (by omega) (by omega))) ?_;refine De 0 ?_;refine De 0 ?_;refine De 0 ?_;refine Df 0 rfl rfl (fun hg=>Cb (eg_ hg rfl) (ec_ (eg_ hg rfl) en_) MA (fun u hu=>Gp r u (hr.st hu) _ b1 _ (AD hu (j:=1) rfl))) ?_;refine De 0 ?_;refine Dk 1 Po ?_;refine De 0 ?_;refine De 0 ?_;refine Df 0 rfl rfl (fun hg=>Cb rfl (ec_ (eg_ hg rfl) (ec_ rfl (ec_ rfl en_))) CA (fun u hu=>Bq _ _ _ u)) ?_;refine De 0 ?_;refine Dk 1 Po ?_;refine De 0 ?_;refine De 0 ?_;refine De 0 ?_;refine De 0 ?_;refine De 0 ?_;refine Df 0 rfl rfl (fun hg=>Cb rfl (ec_ (eg_ hg rfl) (ec_ rfl (ec_ (eg_ hg rfl) en_))) CA (fun u hu=>Bq _ _ _ u)) ?_;refine De 0 ?_;refine Dk 0 Po ?_;refine Dd (Qc (Cn ?_ ?_))<;>intro hc6
  ·refine Nz 1 ?_;refine Wd (Qc (Cr (Qs (Qr (Qr (Qs (Qr ?_)))))))
   exact out1 rfl rfl (Ab (by
      have hE:thO r b=21:=by(unfold thO thB;grind)
      rw[e2,show HO r=21 from Bn ((Aq hb1 (by omega) hb3 (by rw[hE];decide)).trans hE) (by decide)]))
  refine Ck (Qb (Qc (Ny 0 ?_)));refine Wk 1 Za ?_;refine Wd ?_;refine QS.sel [1] rfl ?_
  exact QS.head (b+1) rfl rfl ⟨⟨by omega,by omega,fun j h0 h1=>by
     rcases(show j<b∨j=b by omega)with h|h
     ·exact hb3 j h0 h
     rw[h];exact(show thO r b=0 by(unfold thO thB;grind))⟩,by omega⟩
 have e3:checkE r=Gc r:=e2.trans (Bm (As fun j a b=>hb3 j a (by omega)));refine Cv (Qe (Qe (Qx (Qc (Cs (Nz 1 ?_))))));refine Wk 0 (Ba 0) ?_;refine Wk 1 Nc ?_;refine Nu ?_;refine CS.loopM (σ:=Int) (rsL [2,2,8,9,114,143]) (fun s=>[(113,.int .i64 s)]) (fun _=>_) (fun s=>0≤s∧s≤r.prs.l.length∧∀j:Int,0≤j→j<s→prO r j=0) (fun s=>(r.prs.l.length-s).toNat) 0 (fun _ _=>rfl) rfl rfl ⟨by omega,by omega,fun j _ _=>by omega⟩ ?_;intro d t hs;obtain⟨hd1,hd2,hd3⟩:=hs;refine Nz 1 ?_;refine Wd (Qc (Cs (Cn ?_ ?_)))<;>intro hc7
 ·have hnm:=hn.pr _ (Ad hd1 (by omega));have hwh:SlT cLit w (nth r.prs.l d).wh:=hr.prs.at hd1 (by omega);refine Ck (Qc (Cs (Ce (Nz 1 ?_))));refine Wk 0 Xc ?_;refine Wk 0 Ua ?_;refine Wq 1 P2 fun b9 hb9=>?_;refine Wv 0 0 ?_;refine Wd (Qc (Cs (Cs (Dr mixed 1 ?_))));refine Dk 1 (Ba 0) ?_;refine Dk 1 (Ba 1) ?_;refine Dk 0 (DI sl24 rfl rfl (by first|assumption|exact SlL.sp (by assumption)|exact ClS.sp (by assumption)|exact SlT.sp (by assumption)) (by omega) (by omega)) ?_;refine Dk 2 (Cb rfl rfl YH (fun u hu=>NZ r.prs d u g (hG.st hu) (kpr.st hu) hd1 (by omega) (by omega))) ?_;refine De 0 ?_;refine De 0 ?_;refine De 0 ?_;refine Df 0 rfl rfl (fun hg=>Cb (eg_ hg rfl) (ec_ (eg_ hg rfl) en_) MA (fun u hu=>Gp r u (hr.st hu) _ b1 _ (AD hu (j:=1) rfl))) ?_;refine De 0 ?_;refine Df 0 rfl rfl (fun hg=>Fm (eg_ hg rfl)) ?_;refine Dn 0 rfl rfl rfl (fun hg=>Ff) ?_;refine Dn 0 rfl rfl rfl (fun hg=>Ba 0) ?_;refine Dn 0 rfl rfl rfl (fun hg=>Fr) ?_;refine Df 0 rfl rfl (fun hg=>CD (eg_ hg rfl) (Jd hg rfl) rfl) ?_;refine Dk 0 Po ?_;refine Dd (Qc (Cn ?_ ?_))<;>intro hc8
  ·refine Nz 1 ?_;refine Wd (Qc (Cr (Qr (Qs (Qr (Qr (Qs (Qr ?_))))))))
   exact out1 rfl rfl (Ab (by
      have hE:prO r d=24:=by(unfold prO or0;grind)
      rw[e3,show Gc r=24 from Bn ((Aq hd1 (by omega) hd3 (by rw[hE];decide)).trans hE) (by decide)]))
  refine Ck (Qc (Nz 0 ?_));refine Wk 1 (Bb 1) ?_;refine Wk 0 (Ba 0) ?_;refine Wk 1 (Cb rfl rfl HV (fun u hu=>FU r u (hr.st hu) _ (hwh.st hu))) ?_;refine Wp ?_ ?_<;>intro hc9
  ·refine Nz 1 ?_;refine Wd (Qc (Cr (Qs (Qr (Qr (Qs (Qr ?_)))))))
   exact out1 rfl rfl (Ab (by
      have hE:prO r d=25:=by(unfold prO or0 whO;grind)
      rw[e3,show Gc r=25 from Bn ((Aq hd1 (by omega) hd3 (by rw[hE];decide)).trans hE) (by decide)]))
  refine Ck (Qb (Qc (Ny 0 ?_)));refine Wk 1 Za ?_;refine Wd ?_;refine QS.sel [1] rfl ?_
  exact QS.head (d+1) rfl rfl ⟨⟨by omega,by omega,fun j h0 h1=>by
     rcases(show j<d∨j=d by omega)with h|h
     ·exact hd3 j h0 h
     rw[h];exact(show prO r d=0 by(unfold prO or0 whO;grind))⟩,by omega⟩
 have e4:checkE r=Gh r:=e3.trans (Bm (As fun j a b=>hd3 j a (by omega)));refine Cv (Qe (Qe (Qx (Qc (Cs (Nz 1 ?_))))));refine Wk 0 (Ba 0) ?_;refine Wk 1 Nc ?_;refine Nu ?_;refine CS.loopM (σ:=Int) (rsL [2,2,11,11,148,175]) (fun s=>[(147,.int .i64 s)]) (fun _=>_) (fun s=>0≤s∧s≤r.wys.l.length∧∀j:Int,0≤j→j<s→wyO r j=0) (fun s=>(r.wys.l.length-s).toNat) 0 (fun _ _=>rfl) rfl rfl ⟨by omega,by omega,fun j _ _=>by omega⟩ ?_;intro e t hs;obtain⟨he1,he2,he3⟩:=hs;refine Nz 1 ?_;refine Wd (Qc (Cs (Cn ?_ ?_)))<;>intro hc10
 ·have hwh:SlT cLit w (nth r.wys.l e).wh:=hr.wys.at he1 (by omega);refine Ck (Qc (Cs (Ce (Nz 0 ?_))));refine Wk 0 Xc ?_;refine Wk 0 Ua ?_;refine Wq 0 N6 fun b11 hb11=>?_;refine Wv 0 0 ?_;refine Nv 2 ?_;refine Wk 0 (Ba 0) ?_;refine Wk 2 (Cb rfl rfl MA (fun u hu=>Gp r u (hr.st hu) _ b1 _ (AD hu (j:=1) rfl))) ?_;refine We 0 ?_;refine We 0 ?_;refine We 0 ?_;refine Wf 0 rfl rfl (fun hg=>Cb (eg_ hg rfl) (ec_ (eg_ hg rfl) en_) MA (fun u hu=>Gp r u (hr.st hu) _ b1 _ (AD hu (j:=1) rfl))) ?_;refine We 0 ?_;refine Wk 1 Po ?_;refine We 0 ?_;refine We 0 ?_;refine We 0 ?_;refine We 0 ?_;refine We 0 ?_;refine Wk 0 Po ?_;refine Wp ?_ ?_<;>intro hc11
  ·refine Nz 1 ?_;refine Wd (Qc (Cr (Qr (Qs (Qr (Qr (Qs (Qr ?_))))))))
   exact out1 rfl rfl (Ab (by
      have hE:wyO r e=23:=by(unfold wyO or0;grind)
      rw[e4,show Gh r=23 from Bn ((Aq he1 (by omega) he3 (by rw[hE];decide)).trans hE) (by decide)]))
  refine Ck (Qc (Nz 0 ?_));refine Wk 1 (Bb 1) ?_;refine Wk 0 (Ba 0) ?_;refine Wk 1 (Cb rfl rfl HV (fun u hu=>FU r u (hr.st hu) _ (hwh.st hu))) ?_;refine Wp ?_ ?_<;>intro hc12
  ·refine Nz 1 ?_;refine Wd (Qc (Cr (Qs (Qr (Qr (Qs (Qr ?_)))))))
   exact out1 rfl rfl (Ab (by
      have hE:wyO r e=25:=by(unfold wyO or0 whO;grind)
      rw[e4,show Gh r=25 from Bn ((Aq he1 (by omega) he3 (by rw[hE];decide)).trans hE) (by decide)]))
  refine Ck (Qb (Qc (Ny 0 ?_)));refine Wk 1 Za ?_;refine Wd ?_;refine QS.sel [1] rfl ?_
  exact QS.head (e+1) rfl rfl ⟨⟨by omega,by omega,fun j h0 h1=>by
     rcases(show j<e∨j=e by omega)with h|h
     ·exact he3 j h0 h
     rw[h];exact(show wyO r e=0 by(unfold wyO or0 whO;grind))⟩,by omega⟩
 have e5:checkE r=Ge r:=e4.trans (Bm (As fun j a b=>he3 j a (by omega)));refine Cv (Qe (Qe (Qx (Qc (Cs (Nz 1 ?_))))));refine Wk 0 (Ba 0) ?_;refine Wk 1 Nc ?_;refine Nu ?_;refine CS.loopM (σ:=Int) (rsL [2,2,12,13,180,194]) (fun s=>[(179,.int .i64 s)]) (fun _=>_) (fun s=>0≤s∧s≤r.acs.l.length∧∀j:Int,0≤j→j<s→acO r j=0) (fun s=>(r.acs.l.length-s).toNat) 0 (fun _ _=>rfl) rfl rfl ⟨by omega,by omega,fun j _ _=>by omega⟩ ?_;intro k t hs;obtain⟨hk1,hk2,hk3⟩:=hs;refine Nz 1 ?_;refine Wd (Qc (Cs (Cn ?_ ?_)))<;>intro hc13
 ·have hak:ActOk w (nth r.acs.l k):=hr.acs.at hk1 (by omega);have hwh:SlT cLit w (nth r.acs.l k).wh:=hak.wh;refine Ck (Qc (Cs (Ce (Nz 1 ?_))));refine Wk 0 Xc ?_;refine Wk 0 Ua ?_;refine Wq 1 G1 fun b13 hb13=>?_;refine Wv 0 0 ?_;refine Nv 0 ?_;refine Wk 1 (Bb 1) ?_;refine Wk 0 (Bb 0) ?_;refine Wk 1 (Cb rfl rfl X9 (fun u hu=>Zs r u (hr.st hu) g (hG.st hu) _ hk1 (by omega) (fun x hx=>(hn.ac x hx).1))) ?_;refine Wp ?_ ?_<;>intro hc14
  ·refine Nz 1 ?_;refine Wd (Qc (Cr (Qr (Qs (Qr (Qr (Qs (Qr ?_))))))))
   exact out1 rfl rfl (Ab (by
      have hE:acO r k=26:=by(unfold acO or0;grind)
      rw[e5,show Ge r=26 from Bn ((Aq hk1 (by omega) hk3 (by rw[hE];decide)).trans hE) (by decide)]))
  refine Ck (Qc (Nz 0 ?_));refine Wk 1 (Bb 1) ?_;refine Wk 0 (Ba 0) ?_;refine Wk 1 (Cb rfl rfl HV (fun u hu=>FU r u (hr.st hu) _ (hwh.st hu))) ?_;refine Wp ?_ ?_<;>intro hc15
  ·refine Nz 1 ?_;refine Wd (Qc (Cr (Qs (Qr (Qr (Qs (Qr ?_)))))))
   exact out1 rfl rfl (Ab (by
      have hE:acO r k=25:=by(unfold acO or0 whO;grind)
      rw[e5,show Ge r=25 from Bn ((Aq hk1 (by omega) hk3 (by rw[hE];decide)).trans hE) (by decide)]))
  refine Ck (Qb (Qc (Ny 0 ?_)));refine Wk 1 Za ?_;refine Wd ?_;refine QS.sel [1] rfl ?_
  exact QS.head (k+1) rfl rfl ⟨⟨by omega,by omega,fun j h0 h1=>by
     rcases(show j<k∨j=k by omega)with h|h
     ·exact hk3 j h0 h
     rw[h];exact(show acO r k=0 by(unfold acO or0 whO;grind))⟩,by omega⟩
 have e6:checkE r=Gg r:=e5.trans (Bm (As fun j a b=>hk3 j a (by omega)));refine Cv (Qe (Qe (Qx (Qc (Cs (Nz 1 ?_))))));refine Wk 0 (Ba 0) ?_;refine Wk 1 Nc ?_;refine Nu ?_;refine CS.loopM (σ:=Int) (rsL [2,2,15,15,199,216]) (fun s=>[(198,.int .i64 s)]) (fun _=>_) (fun s=>0≤s∧s≤r.aus.l.length∧∀j:Int,0≤j→j<s→auO r j=0) (fun s=>(r.aus.l.length-s).toNat) 0 (fun _ _=>rfl) rfl rfl ⟨by omega,by omega,fun j _ _=>by omega⟩ ?_;intro m t hs;obtain⟨hm1,hm2,hm3⟩:=hs;refine Nz 1 ?_;refine Wd (Qc (Cs (Cn ?_ ?_)))<;>intro hc16
 ·have hwh:SlT cLit w (nth r.aus.l m).wh:=hr.aus.at hm1 (by omega);refine Ck (Qc (Cs (Ce (Nz 0 ?_))));refine Wk 0 Xc ?_;refine Wk 0 Ua ?_;refine Wq 0 TA fun b15 hb15=>?_;refine Wv 0 0 ?_;refine Nv 0 ?_;refine Wk 2 (Bb 1) ?_;refine Wk 2 (Ba 0) ?_;refine Wk 0 (Ba 0) ?_;refine Wk 1 (Cb rfl rfl Mv (fun u hu=>Jn r u (hr.st hu) _ _)) ?_;refine Wp ?_ ?_<;>intro hc17
  ·refine Nz 1 ?_;refine Wd (Qc (Cr (Qr (Qs (Qr (Qr (Qs (Qr ?_))))))))
   exact out1 rfl rfl (Ab (by
      have hE:auO r m=27:=by(unfold auO or0;grind)
      rw[e6,show Gg r=27 from Bn ((Aq hm1 (by omega) hm3 (by rw[hE];decide)).trans hE) (by decide)]))
  refine Ck (Qc (Nz 0 ?_));refine Wk 1 (Bb 1) ?_;refine Wk 0 (Ba 0) ?_;refine Wk 1 (Cb rfl rfl HV (fun u hu=>FU r u (hr.st hu) _ (hwh.st hu))) ?_;refine Wp ?_ ?_<;>intro hc18
  ·refine Nz 1 ?_;refine Wd (Qc (Cr (Qs (Qr (Qr (Qs (Qr ?_)))))))
   exact out1 rfl rfl (Ab (by
      have hE:auO r m=25:=by(unfold auO or0 whO;grind)
      rw[e6,show Gg r=25 from Bn ((Aq hm1 (by omega) hm3 (by rw[hE];decide)).trans hE) (by decide)]))
  refine Ck (Qb (Qc (Ny 0 ?_)));refine Wk 1 Za ?_;refine Wd ?_;refine QS.sel [1] rfl ?_
  exact QS.head (m+1) rfl rfl ⟨⟨by omega,by omega,fun j h0 h1=>by
     rcases(show j<m∨j=m by omega)with h|h
     ·exact hm3 j h0 h
     rw[h];exact(show auO r m=0 by(unfold auO or0 whO;grind))⟩,by omega⟩
 have e7:checkE r=glO r:=e6.trans (Bm (As fun j a b=>hm3 j a (by omega)));refine Cv (Qe (Qe (Qx (Qc (Cs (Nz 1 ?_))))));refine Wk 0 (Ba 0) ?_;refine Wk 1 (Cb rfl rfl CA (fun u hu=>Bq _ _ _ u)) ?_;refine Wp ?_ ?_<;>intro hc19
 ·refine Nz 1 ?_;exact Wd (Qc (Cr (Qr (out1 rfl rfl (Ab (by rw[e7,show glO r=1 by(unfold glO or0;grind)]))))))
 refine Ck (Qc (Cs (Nz 0 ?_)));refine Wk 1 (Bb 0) ?_;refine Wk 0 (Ba 0) ?_;refine Wk 1 (Cb rfl rfl HV (fun u hu=>FU r u (hr.st hu) _ (kgl.st hu))) ?_;refine Wp ?_ ?_<;>intro hc20
 ·refine Nz 1 ?_;exact Wd (Qc (Cr (Qr (out1 rfl rfl (Ab (by rw[e7,show glO r=25 by(unfold glO or0 whO;grind)]))))))
 refine Ck (Qc (Nz 1 ?_));exact Wd (Qc (Cr (out1 rfl rfl (Ab (by rw[e7,show glO r=0 by(unfold glO or0 whO;grind)])))))
theorem Ir (r:Room) (w:World) (hr:RoomOk w r) (g:Sl ByteArray) (hG:GOk w g) (hn:Near r):Calls prog 138 #[.agg (rcl r).toArray] w (RetB w (.int .i64 (checkE r))):=Px r w hr g hG hn.nm
end Go.Proofs.YtmoojmgihdgceaaGreatDoor
