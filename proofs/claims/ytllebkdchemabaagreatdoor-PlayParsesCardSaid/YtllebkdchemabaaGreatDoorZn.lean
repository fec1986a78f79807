/- Merged texts of this proof. -/
import Derived.Test.YtllebkdchemabaaGreatDoorZn0
import Derived.Test.YtllebkdchemabaaGreatDoorZh4
import Derived.Test.YtllebkdchemabaaGreatDoorZb
import Derived.Test.YtllebkdchemabaaGreatDoorZd
import Derived.Test.YtllebkdchemabaaGreatDoorZh5
import Derived.Test.YtllebkdchemabaaGreatDoorZh3
import Derived.Test.YtllebkdchemabaaGreatDoorZf2
set_option maxHeartbeats 8000000
namespace Go.Proofs.YtllebkdchemabaaGreatDoor
open Go.RowKit Go.Proofs Tryz
set_option maxRecDepth 100000
set_option linter.unusedVariables false
set_option linter.unusedSimpArgs false
theorem Ku (G:Game) (w:World) (hG:GameOk w G) (g:Sl ByteArray) (hW:GOk w g) (hn:NearG G) (p:Pos) (hp:PosOk w p):
  Calls prog 140 #[.agg (gcl G).toArray,.agg #[p.st.ths.v,p.st.prs.v,p.st.pls.v,p.rd.v]] w (RetB w (.int .i64 (posG G.p p.x))):=by
 have knt:=hG.nts;have krd:=hp.rd;refine En func140 ?_;refine Nz 0 ?_;refine Wr 0 fun b2 hb2=>?_;refine Wr 1 fun b3 hb3=>?_;refine Nv 0 ?_;refine Wk 0 (Bb 1) ?_;refine Wk 1 (Cb rfl rfl Yq (fun u hu=>Mn G u (hG.st hu) g (hW.st hu) hn)) ?_;refine Nx 2 ?_;refine Wp ?_ ?_<;>intro hc1
 ·refine Nz 2 ?_;exact Wd (Qc (Cr (Qr (out1 rfl rfl (Af (by rw[LI,Bu rfl hc1]))))))
 refine Ck (Qc (Cs (Nz 1 ?_)));refine Wk 1 (Bc 1) ?_;refine Wk 0 (Bc 0) ?_;refine Wk 1 (Cb rfl rfl Ou (fun u hu=>C2 G.rm u (hG.rm.st hu) g (hW.st hu) hn.rm p.st (hp.st.st hu))) ?_;refine Nx 2 ?_;refine Wp ?_ ?_<;>intro hc2
 ·refine Nz 2 ?_;exact Wd (Qc (Cr (Qr (out1 rfl rfl (Af (by rw[LI,Bx hc1,Bu rfl hc2]))))))
 refine Ck (Qc (Cs (Nz 1 ?_)));refine Wk 0 (Ba 0) ?_;refine Wk 1 Nc ?_;refine Wk 0 (Ba 1) ?_;refine Wk 1 Nc ?_;refine Wp ?_ ?_<;>intro hc3
 ·refine Nz 1 ?_;exact Wd (Qc (Cr (Qr (out1 rfl rfl (Af (by rw[LI,Bx hc1,Bx hc2,if_neg (by omega)]))))))
 refine Ck (Qc (Nz 1 ?_));exact Wd (Qc (Cr (out1 rfl rfl (Af (by rw[LI,Bx hc1,Bx hc2,if_pos (by omega)])))))
theorem Sx (G:Game) (w:World) (hG:GameOk w G) (lk:Int):
  Calls prog 141 #[.agg (gcl G).toArray,.int .i64 lk] w (RetB w (.int .i64 (if(decide (0<=lk)&&decide (lk<=(G.lks.l.length:Int)-1))=true then 0 else 1))):=by
 have klk:=hG.lks;have llk:=hG.lks.le;refine En func141 ?_;refine Nz 0 ?_;refine Wr 1 fun b2 hb2=>?_;refine Nv 2 ?_;refine Wk 0 (Ba 0) ?_;refine Wk 0 Nc ?_;refine Wk 0 Zb ?_;refine Wk 1 (Cb rfl rfl Hm (fun u hu=>BF _ _ _ u)) ?_;refine Wp ?_ ?_<;>intro hc1
 ·refine Nz 1 ?_;exact Wd (Qc (Cr (Qr (out1 rfl rfl (Af (by rw[if_neg (by simp only[Bool.and_eq_true,decide_eq_true_eq];omega)]))))))
 refine Ck (Qc (Nz 1 ?_));exact Wd (Qc (Cr (out1 rfl rfl (Af (by rw[if_pos (by simp only[Bool.and_eq_true,decide_eq_true_eq];omega)])))))
theorem NM (G:Game) (w:World) (hG:GameOk w G) (g:Sl ByteArray) (hW:GOk w g) (hn:NearG G) (p:Pos) (hp:PosOk w p) (lk:Int):
  Calls prog 66 #[.agg (gcl G).toArray,.agg #[p.st.ths.v,p.st.prs.v,p.st.pls.v,p.rd.v],.int .i64 lk] w (RetB w (.int .i64 (Kw G.p p.x lk))):=by
 refine En func66 ?_;refine Nz 0 ?_;refine Wr 0 fun b3 hb3=>?_;refine Wr 1 fun b4 hb4=>?_;refine Nv 0 ?_;refine Wk 0 (Bb 1) ?_;refine Wk 0 (Bb 0) ?_;refine Wk 1 (Cb rfl rfl ST (fun u hu=>Ku G u (hG.st hu) g (hW.st hu) hn p (hp.toSt hu))) ?_;refine Nx 2 ?_;refine Wp ?_ ?_<;>intro hc1
 ·refine Nz 2 ?_;exact Wd (Qc (Cr (Qr (out1 rfl rfl (Af (by rw[Kw,Bu rfl hc1]))))))
 refine Ck (Qc (Nz 0 ?_));refine Wk 1 (Bb 1) ?_;refine Wk 1 (Cb rfl rfl Jem (fun u hu=>Sx G u (hG.st hu) _)) ?_;exact Wd (Qc (Cr (out1 rfl rfl (Af (by rw[Kw,Bx hc1];rfl)))))
theorem DA (s0:Sl Bool) (w:World) (hk:SlT BO w s0) (hm:s0.l.length<=1000000):
  Calls prog 139 #[s0.v] w (fun e w'=>∃v':Value,v'.oneCell'=true/\RetF w v' (oT BO 4 v' s0.l) e w'):=by
 obtain⟨v,l⟩:=s0;obtain⟨⟨hl,p,cap,hv,hcap,hq⟩,he⟩:=hk;simp only at hv hl hcap hq hm⊢;subst hv;have hk:SlT BO w ⟨.slice p l.length cap,l⟩:=⟨⟨hl,p,cap,rfl,hcap,hq⟩,he⟩;clear hl hcap hq he;refine En func139 ?_;refine Nz 1 ?_;refine Nv 1 ?_;refine Wk 0 (LA sl51 rfl rfl) ?_;refine Wp ?_ ?_<;>intro hc1
 ·have hx0:l=[]:=by
   have:p=none:=by simpa using hc1
   subst this;exact List.eq_nil_of_length_eq_zero (SlC.nil hk.sp)
  subst hx0;refine Nz 1 ?_;exact Wd (Qc (Cr (Qr (out1 rfl rfl (fun u hu=>⟨_,rfl,retF (j:=0) rfl u hu.osl0⟩)))))
 refine Ck (Qc (Nz 0 ?_));refine WS.build0 sl51 zv4 (fun _=>rfl) ?_;intro v5;refine Wz 1 ?_;refine WS.append0 (j:=0) (news:=A1 BO l) (m:=l.length) sl51 zv4 rfl (by decide) rfl rfl rfl (fun u hu=>(hk.st hu).sp) hk.one (by omega) (by omega) (fun _=>rfl) (fun _=>rfl) ?_;intro v7;refine WS.oc (j:=0) rfl (fun hv7=>?_);refine Wz 1 ?_;exact Wd (Qc (Cr (out1 rfl rfl (fun u hu=>⟨v7,hv7,retF (j:=0) rfl u hu⟩))))
variable {G:Game}
theorem GoodP.small {p:Pos} (h:GoodP G p):(p.st.ths.l.length<=1000000/\p.st.prs.l.length<=1000000/\p.st.pls.l.length<=1000000)/\p.rd.l.length<=1000000:=by
 have h1:=h.ln;have h2:=h.nn;exact⟨h.inn.small h.ready,by omega⟩
theorem UK {G:GP} {x:PX} {lk:Int} (h:Kw G x lk=0):posG G x=0:=(B1 h).1
theorem Vf {x:PX} {lk:Int} (h:Kw G.p x lk=0):0<=lk/\lk<G.lks.l.length:=by
 have h2:=(B1 h).2;split at h2
 ·rename_i h3
  have h4:0<=lk/\lk<=(G.lks.l.length:Int)-1:=by
   simp only[Bool.and_eq_true,decide_eq_true_eq]at h3;exact h3
  omega
 cases h2
variable {T:TypeId}
section
variable {P:Program} {n0:Nat} {w0:World} {L:List SA} {l:List Value} {d:Option Tmp} {ty:TypeId} {ps:String} {af:Array Edge} {g:Option (Nat×Bool)}
theorem Ob {p:World->Prop} {α:Type} [Inhabited α] {C:Cel α} {z jj:Nat} {x:Operand} {y:Value} {s:Sl α} {i:Int}
  (hj':L[jj]? = some (roS p)) (hp:∀u,p u->SlT C u s) (hx:evo l x=some (.pointer (some (sla s.v (i.toNat*1))))) (hk:C.k=1) (h:0<=i/\i<s.l.length)
  (hc:(C.cells (nth s.l i))[0]? = some y) (hT:tk P T=some (false,z)):Det P (St n0 w0 L) ⟨d,.load T x,ty,ps,af,g⟩ l y:=by
 refine Do hx (fun _ hu=>(hp _ (St.ro hj' hu)).sp) ?_ hT;have:=BW C h.1 h.2 0 (by omega);rw[hk,Nat.add_zero]at this;rw[this];exact hc
end
theorem Ra {r:Room} (hC:checkE r=0) {x:P3} (h:(SettleV r x).1=0):StIn r (SettleV r x).2:=by
 unfold SettleV at h⊢;split
 ·rename_i hs;rw[if_pos hs]at h;have hI:=(E4.1 hs).2;cases hy:settleV r x with
  |none=>rw[hy]at h;cases h
  |some y=>exact GY (D0 hC) hI hy
 rename_i hs;rw[if_neg hs]at h;exact absurd h hs
theorem Uv {r:Room} (hC:checkE r=0) (h:(BeginV r).1=0):StIn r (BeginV r).2:=by
 unfold BeginV at h⊢;rw[if_pos hC]at h⊢;exact Ra hC h
section
variable {P:Program} {ro:Option Nat} {n0:Nat} {w0:World} {ds:List Deferred} {ops:Array Oper} {Q:Exit->Act->World->Prop} {L:List SA}
 {rest:List Oper} {l:List Value} {ty:TypeId} {ps:String} {af:Array Edge}
theorem WS.makeB {e:TypeId} {by_:Nat} {x y:Operand} {i:Nat} {n:Int} (hT:sl P T=some (e,1,by_)) (hx:evo l x=some (.int .i64 n)) (hy:evo l y=some (.int .i64 n)) (hz:zv P e=some [.bool false])
  (h0:0<=n) (hb:(by_:Int)*n<=281474976710656) (hm:n<=9223372036854775807)
  {l':Value->List Value} (hl:∀v,lset l i v=some (l' v)) (k:∀v,WS P ro n0 w0 ds ops Q (oT BO e v (List.replicate n.toNat false)::L) rest (l' v)):
  WS P ro n0 w0 ds ops Q L (⟨some i,.makeSlice T x y,ty,ps,af,none⟩::rest) l:=by
 refine WS.makeSlice (z:=e) hT hx hy hz rfl h0 rfl hb hm hl fun v=>?_;have:=k v;unfold oT A1 at this;rw[List.map_replicate,List.length_replicate]at this;exact this
end
theorem ZB (G:Game) (w:World) (hG:GameOk w G) (hnn:G.nts.l.length<=1000) (lk:Int) (f:FuncId) (cap:List Value) (q:Int->Bool) (hf:Ent prog f)
  (hq:∀u,Below w.heap.size w u->∀i:Int,0<=i->i<G.nts.l.length->Calls prog f ([.int .i64 i]++cap:List Value).toArray u (RetB u (.bool (q i)))):
  Calls prog 142 #[.agg (gcl G).toArray,.int .i64 lk,.func (.func f) #[] cap.toArray] w (fun e w'=>∃x:Value×Value,(x.1.oneCell'=true/\x.2.oneCell'=true)/\RetF w (.tuple #[x.1,x.2]) (star [oints 3 x.1 (E9 G.p lk q),osl 89 7 x.2 (clsG G (E9 G.p lk q)).length (B2 (clsG G (E9 G.p lk q)) (gvsG G (E9 G.p lk q)))]) e w'):=by
 have knt:=hG.nts;have lnt:=hG.nts.le;refine En func142 ?_;refine Nz 0 ?_;refine Wr 2 fun b3 hb3=>?_;refine Nv 1 ?_;refine Wk 0 (Ba 0) ?_;refine Wk 1 Nc ?_;refine Nu ?_;refine CS.weak (fun _ hu=>hu.osl0 (e:=89) (size:=7)) ?_;refine CS.weak (fun _ hu=>hu.osl0 (e:=3) (size:=1)) ?_;refine CS.loopM (σ:=Int×Value×Value) (rsL [8,9,14,36]) (fun s=>[(6,s.2.1),(7,s.2.2),(13,.int .i64 s.1)]) (fun s=>[oints 3 s.2.1 (filI s.1 (fun i=>decide ((nth G.nts.l i).lk=lk)&&q i)),osl 89 7 s.2.2 (clsG G (filI s.1 (fun i=>decide ((nth G.nts.l i).lk=lk)&&q i))).length (B2 (clsG G (filI s.1 (fun i=>decide ((nth G.nts.l i).lk=lk)&&q i))) (gvsG G (filI s.1 (fun i=>decide ((nth G.nts.l i).lk=lk)&&q i)))),blk b3 (gcl G) 37]) (fun s=>0<=s.1/\s.1<=G.nts.l.length) (fun s=>(G.nts.l.length-s.1).toNat) (0,.slice none 0 0,.slice none 0 0) (fun _ _=>rfl) rfl rfl ⟨by simp,by simp⟩ ?_;intro s t hs;obtain⟨hs1,hs2⟩:=hs;have hfl:=PM (n:=s.1) (p:=(fun i=>decide ((nth G.nts.l i).lk=lk)&&q i)) hs1;have hcl:(clsG G (filI s.1 (fun i=>decide ((nth G.nts.l i).lk=lk)&&q i))).length=(filI s.1 (fun i=>decide ((nth G.nts.l i).lk=lk)&&q i)).length:=by simp[clsG]
 refine Nz 1 ?_;refine Wd (Qc (Cs (Cn ?_ ?_)))<;>intro hc1
 ·have hs3:s.1<G.nts.l.length:=by omega
  have hnt:cNote.ok w (nth G.nts.l s.1):=knt.at hs1 hs3;have hg1:=hnt.2.one1;have hwh1:=Sl.one hnt.1;refine Ck (Qc (Cs (Ce (Nz 1 ?_))));refine Wk 0 Xc ?_;refine Wk 0 Ua ?_;refine Wq 1 zv91 fun b9 hb9=>?_;refine Wv 0 0 ?_;refine Nx 1 ?_;refine Wk 3 (Ba 0) ?_;refine Wj 0 ?_;refine Wj 0 ?_;refine Wt 0 rfl rfl (fun hg=>Cb (eg_ hg rfl) (ec_ (eg_ hg rfl) en_) hf (fun u hu=>hq u hu.below s.1 hs1 hs3)) ?_;refine Wk 0 Pa ?_;refine Wp ?_ ?_<;>intro hc2
  ·have hpy:(fun i=>decide ((nth G.nts.l i).lk=lk)&&q i) s.1=true:=by(simp only[Bool.and_eq_true,decide_eq_true_eq];exact hc2)
   refine Nz 2 ?_;refine WS.buildI1 sl48 zv3 rfl (fun _=>rfl) ?_;intro v29;refine WS.appendI (j:=2) sl48 zv3 rfl rfl rfl (fun u hu=>AK hu (j:=0) rfl) (by(simp;omega)) (by(simp;omega)) (fun _=>rfl) (fun _=>rfl) ?_;intro v30;refine WS.oc (j:=2) rfl (fun hv30=>?_);refine Wz 1 ?_;refine Nw 2 ?_;refine Wk 0 (Bc 1) ?_;refine WS.buildC1 SV zv89 (c:=(nth G.nts.l s.1).cl) (gv:=(nth G.nts.l s.1).gv) rfl (fun _=>rfl) ?_;intro v34;refine WS.appendCl (j:=4) (jz:=0) SV zv89 rfl rfl rfl (by simp[clsG,gvsG]) rfl rfl hg1 (by omega) (by omega) (fun _=>rfl) (fun _=>rfl) ?_;intro v35 hv35;refine Wz 1 ?_;refine Wd (Qb (Qc (Ny 0 ?_)));refine Wk 1 Za ?_;refine Wd ?_;refine QS.sel [3,3,3] rfl ?_;exact QS.head ((s.1+1,v30,v35)) rfl (by simp only[<-Xe (p:=(fun i=>decide ((nth G.nts.l i).lk=lk)&&q i)) hs1 hpy,clsG,gvsG,List.map_append,List.map_cons,List.map_nil]) ⟨⟨by simp;omega,by simp;omega⟩,by simp;omega⟩
  have hpn:(fun i=>decide ((nth G.nts.l i).lk=lk)&&q i) s.1=false:=by(simp only[Bool.and_eq_false_iff,decide_eq_false_iff_not];exact hc2)
  refine Ck (Qb (Qc (Ny 0 ?_)));refine Wk 1 Za ?_;refine Wd ?_;refine QS.sel [1,1,1] rfl ?_;exact QS.head ((s.1+1,s.2)) rfl (by simp only[<-ZJ (p:=(fun i=>decide ((nth G.nts.l i).lk=lk)&&q i)) hs1 hpn]) ⟨⟨by simp;omega,by simp;omega⟩,by simp;omega⟩
 have hse:s.1=G.nts.l.length:=by omega
 refine Cv (Qe (Qe (Qx (Qc (Nz 4 ?_)))));refine Wd (Qc (Cr ?_));rw[hse,<-KQ G lk q];refine QS.oc (j:=0) rfl (fun hv6=>?_);refine QS.oc (j:=1) rfl (fun hv7=>?_);exact out2 rfl rfl rfl (fun u hu=>⟨s.2,⟨hv6,hv7⟩,Mu (hu.sel [0,0] rfl) (List.Perm.refl _)⟩)
structure TeamOk (w:World) (bt mb:Nat) (G:Game) (p:Pos):Prop where
 blk:BlkAt w bt [G.rm.pls.v,G.rm.ths.v,G.rm.prs.v,G.rm.wys.v,G.rm.acs.v,G.rm.aus.v,.int .i64 G.rm.ply,G.rm.gl.v,G.lks.v,G.cds.v,G.nts.v,.int .i64 G.tr,p.st.ths.v,p.st.prs.v,p.st.pls.v,p.rd.v,.map (some mb)] 123
 gm:GameOk w G
 ps:PosOk w p
variable {w:World}
theorem TeamOk.ext {u:World} {bt mb:Nat} {p:Pos} (h:TeamOk w bt mb G p) (hb:Below w.heap.size w u):TeamOk u bt mb G p:=⟨h.blk.ext hb,h.gm.ext hb,h.ps.ext hb⟩
theorem TeamOk.toSt {u:World} {L:List SA} {bt mb:Nat} {p:Pos} (h:TeamOk w bt mb G p) (hu:St w.heap.size w L u):TeamOk u bt mb G p:=h.ext hu.below
theorem Qw {P:Program} {w0:World} {L:List SA} {l:List Value} {d:Option Tmp} {ty:TypeId} {ps:String} {af:Array Edge} {g:Option (Nat×Bool)} {x:Operand} {b i n:Nat} {c cs:List Value} {e:TypeId} (hx:evo l x=some (.pointer (some ⟨b,i,none⟩))) (hb:BlkAt w0 b c e) (hv:(c.drop i).take n=cs) (hn:cs.length=n) (hT:tk P T=some (true,n)):
  Det P (St w0.heap.size w0 L) ⟨d,.load T x,ty,ps,af,g⟩ l (.agg cs.toArray):=by
 subst hn;refine FT hT hx fun u hu m v hm=>?_;rw[BT (hb.st hu)];rw[<-hv,List.getElem?_take]at hm;split at hm
 ·rw[List.getElem?_drop]at hm;exact hm
 simp at hm
theorem NI (bt mb:Nat) (G:Game) (p:Pos) (w:World) (hT:TeamOk w bt mb G p) (b1:Nat) (e1:TypeId) (h1:BlkAt w b1 [.pointer (some ⟨bt,0,none⟩)] e1) (i:Int) (h0:0<=i) (hi:i<p.rd.l.length):
  Calls prog 143 #[.int .i64 i,.pointer (some ⟨b1,0,none⟩)] w (RetB w (.bool (nth p.rd.l i))):=by
 have hTb:=hT.blk;have hG:=hT.gm;have hp:=hT.ps;have klk:=hG.lks;have krd:=hp.rd;have llk:=klk.le;refine En func143 ?_;refine Nz 1 ?_;refine Nx 0 ?_;refine Wk 3 Ga ?_;refine Wk 1 Ga ?_;refine Wk 0 Xc ?_;refine Wk 1 Ub ?_;exact Wd (Qc (Cr (out1 rfl rfl retB)))
theorem JL (bt mb:Nat) (G:Game) (p:Pos) (w:World) (hT:TeamOk w bt mb G p) (hV:GoodG G) (hl:p.rd.l.length=G.nts.l.length) (lk:Int) (h0:0<=lk) (h1:lk<G.lks.l.length):
  Calls prog 68 #[.pointer (some ⟨bt,0,none⟩),.int .i64 lk] w (RetB w (.tuple #[.int .i64 (Qg G.p lk (cluN G.p p.rd.l lk)),.int .i64 0])):=by
 have hTb:=hT.blk;have hG:=hT.gm;have hp:=hT.ps;have klk:=hG.lks;have krd:=hp.rd;have llk:=klk.le;have hnn:=hV.nn;have hE:=Sd hV h0 h1 (O2 (p:=fun i=>nth p.rd.l i)) (Nat.le_trans (RA hV _ _) (by decide));refine En func68 ?_;refine Nz 0 ?_;refine Wr 2 fun b2 hb2=>?_;refine Nx 0 ?_;refine Wk 2 (Ba 0) ?_;refine Wk 1 (Qw (n:=12) (cs:=(gcl G)) rfl hTb rfl rfl tk37) ?_;refine Wk 0 (Ax rfl) ?_;refine Wc rfl rfl Jcn (fun u hu=>ZB G u (hG.st hu) (by omega) lk _ [.pointer (some ⟨b2,0,none⟩)] (fun i↦nth p.rd.l i) Jdc (fun u2 h2 i a0 a1↦NI bt mb G p u2 ((hT.toSt hu).ext h2) _ _ ((AN hu (j:=0) rfl).ext h2) i a0 (by omega))) (fun _=>rfl) ?_;rintro⟨v16,v17⟩ ⟨hv16,hv17⟩;refine WS.unpack ?_;refine Wz 5 ?_;refine Nx 0 ?_;refine Wk 3 (Ba 2) ?_;refine Wk 1 Ga ?_;refine Wk 0 Xc ?_;refine Wk 1 Ua ?_;refine Wk 4 (Cb rfl rfl Jbr (fun u hu=>Zx _ _ _ _ _ u (Jf6 (hG.st hu) O2 (BZ hu (j:=1) rfl)))) ?_;exact Wd (Qc (Cr (out2 rfl rfl rfl (Af (by rw[hE,if_pos rfl,<-RF,Y8])))))
theorem LZ (G:Game) (w:World) (hG:GameOk w G) (g:Sl ByteArray) (hW:GOk w g) (hn:NearG G) (p:Pos) (hp:PosOk w p) (hq:posG G.p p.x=0):
  Calls prog 67 #[.agg (gcl G).toArray,.agg #[p.st.ths.v,p.st.prs.v,p.st.pls.v,p.rd.v]] w (fun e w'=>∃x:Nat×Nat×Value,x.2.2.oneCell'=true/\RetF w (.tuple #[.pointer (some ⟨x.1,0,none⟩),.int .i64 0]) (star [blk x.1 [G.rm.pls.v,G.rm.ths.v,G.rm.prs.v,G.rm.wys.v,G.rm.acs.v,G.rm.aus.v,.int .i64 G.rm.ply,G.rm.gl.v,G.lks.v,G.cds.v,G.nts.v,.int .i64 G.tr,p.st.ths.v,p.st.prs.v,p.st.pls.v,x.2.2,.map (some x.2.1)] 123,oT BO 4 x.2.2 p.rd.l,mapI x.2.1 (fun _=>0)]) e w'):=by
 have o1:=Sl.one hG.rm.pls;have o2:=Sl.one hG.rm.ths;have o3:=Sl.one hG.rm.prs;have o4:=Sl.one hG.rm.wys;have o5:=Sl.one hG.rm.acs;have o6:=Sl.one hG.rm.aus;have o7:=Sl.one hG.rm.gl;have o8:=Sl.one hG.lks;have o9:=Sl.one hG.cds;have o10:=Sl.one hG.nts;have o11:=Sl.one hp.st.ths;have o12:=Sl.one hp.st.prs;have o13:=Sl.one hp.st.pls;have o14:=Sl.one hp.rd;have hP:=KO hq;have hsm:=hP.small;refine En func67 ?_;refine Nz 0 ?_;refine Wr 0 fun b2 hb2=>?_;refine Wr 2 fun b3 hb3=>?_;refine Nv 0 ?_;refine Wk 0 (Bb 1) ?_;refine Wk 0 (Bb 0) ?_;refine Wk 1 (Cb rfl rfl ST (fun u hu=>Ku G u (hG.st hu) g (hW.st hu) hn p (hp.toSt hu))) ?_;refine Nx 2 ?_;refine Wp ?_ ?_<;>intro hc1
 ·exact absurd hq hc1
 refine Ck (Qc (Cs ?_));refine CS.drawnAll (k:=12) mixed rfl rfl ?_;refine Ak 0 [1] rfl (Bb 1) ?_;refine Ak 2 [3] rfl (Bc 0) ?_;refine Ak 4 [] rfl (Ba 0) ?_;refine AS.two (i:=5) (j:=7) (by kernel_rfl) rfl rfl (by exact fun _ h=>h) rfl rfl ?_ ?_
 ·refine Wc rfl rfl He (fun u hu=>DA p.rd u (hp.rd.st hu) hsm.2) (fun _=>rfl) ?_;intro v18 hv18;refine Wd (Qa ?_);refine Ak 6 [] rfl (AF Hs zv53 (pcs:=[(0,[p.st.ths.v,p.st.prs.v,p.st.pls.v]),(1,[v18])]) rfl (CellsOf.agg (CellsOf.one hv18 CellsOf.nil)) rfl) ?_;refine Ao 7 rfl ?_;refine WS.makeMap (fun _=>rfl) fun b20 hb20=>?_;refine Wd (Qa ?_);refine Ak 8 [] rfl (AF JK Qv (pcs:=[(0,(gcl G)),(1,[p.st.ths.v,p.st.prs.v,p.st.pls.v,v18]),(2,[.map (some b20)])]) rfl (CellsOf.agg (CellsOf.agg (CellsOf.one rfl CellsOf.nil))) rfl) ?_;refine Ao 9 rfl ?_;refine Wr 0 fun b22 hb22=>?_;refine Wd (Qa ?_);refine Ar [10,11] ?_;refine Ae ?_;exact Qc (Cr (out2 rfl rfl rfl (fun u hu=>⟨(b22,b20,v18),hv18,Mu (hu.sel [0,1,0] rfl) (List.Perm.refl _)⟩)))
 refine WS.makeMap (fun _=>rfl) fun b20 hb20=>?_;refine Wd (Qa ?_);refine Ao 5 rfl ?_;refine Wc rfl rfl He (fun u hu=>DA p.rd u (hp.rd.st hu) hsm.2) (fun _=>rfl) ?_;intro v18 hv18;refine Wd (Qa ?_);refine Ak 6 [] rfl (AF Hs zv53 (pcs:=[(0,[p.st.ths.v,p.st.prs.v,p.st.pls.v]),(1,[v18])]) rfl (CellsOf.agg (CellsOf.one hv18 CellsOf.nil)) rfl) ?_;refine Ak 8 [] rfl (AF JK Qv (pcs:=[(0,(gcl G)),(1,[p.st.ths.v,p.st.prs.v,p.st.pls.v,v18]),(2,[.map (some b20)])]) rfl (CellsOf.agg (CellsOf.agg (CellsOf.one rfl CellsOf.nil))) rfl) ?_;refine Ao 9 rfl ?_;refine Wr 0 fun b22 hb22=>?_;refine Wd (Qa ?_);refine Ar [10,11] ?_;refine Ae ?_;exact Qc (Cr (out2 rfl rfl rfl (fun u hu=>⟨(b22,b20,v18),hv18,Mu (hu.sel [0,0,0] rfl) (List.Perm.refl _)⟩)))
theorem mapT:prog.underlying 121=some (.map 3 3):=underlying121
theorem mapK:prog.underlying 3=some (.int .i64):=underlying3
theorem mapZ:zo prog 3=some (.int .i64 0):=by kernel_rfl
variable {f:Int->Int}
theorem UB {k v:Int}:updI f k v k=v:=if_pos rfl
def KeptO (G:GP) (rd:List Bool) (f:Int->Int):Prop:=∀k,f k=0\/f k=if DZ G rd k=true then 1 else 2
variable {rd:List Bool}
theorem KeptO.zero {G:GP}:KeptO G rd (fun _=>0):=fun _=>.inl rfl
theorem KeptO.upd {G:GP} (h:KeptO G rd f) {k v:Int} (hv:v=if DZ G rd k=true then 1 else 2):KeptO G rd (updI f k v):=fun j=>by
 unfold updI;split
 ·rename_i e;rw[e];exact .inr hv
 exact h j
structure HasZ (w:World) (Z:SA) (z:Stt):Prop where
 get:∀{L:List SA} {u:World} {j:Nat},L[j]? = some Z->St w.heap.size w L u->SttOk u z
theorem HasZ.ro {z:Stt}:HasZ w (roS fun u=>SttOk u z) z:=⟨fun hj hu=>hu.ro hj⟩
theorem HasZ.old {z:Stt} (hz:SttOk w z) (Z:SA):HasZ w Z z:=⟨fun _ hu=>hz.st hu⟩
theorem QO {k a b:Int}:updI (updI f k a) k b=updI f k b:=by
 funext j;unfold updI;split<;>rfl
theorem NR (G:Game) (w:World) (hG:GameOk w G) (g:Sl ByteArray) (hW:GOk w g) (hn:NearG G) (p:Pos) (hp:PosOk w p) (lk:Int):
  Calls prog 16 #[.agg (gcl G).toArray,.agg #[p.st.ths.v,p.st.prs.v,p.st.pls.v,p.rd.v],.int .i64 lk] w (RetB w (.tuple #[.int .i64 (DW G.p p.x lk).2,.int .i64 (DW G.p p.x lk).1])):=by
 refine En func16 ?_;refine Nz 0 ?_;refine Wr 0 fun b3 hb3=>?_;refine Wr 2 fun b4 hb4=>?_;refine Nv 0 ?_;refine Wk 0 (Bb 1) ?_;refine Wk 1 (Bb 0) ?_;refine Wk 1 (Cb rfl rfl Jij (fun u hu=>NM G u (hG.st hu) g (hW.st hu) hn p (hp.toSt hu) _)) ?_;refine Nx 2 ?_;refine Wp ?_ ?_<;>intro hc1
 ·refine Nz 3 ?_;exact Wd (Qc (Cr (Qr (out2 rfl rfl rfl (Af (by rw[show DW G.p p.x lk=(Kw G.p p.x lk,0)from if_neg hc1]))))))
 have hq:=UK hc1;have hP:=KO hq;have hnn:=hP.nn;have hin:=Vf hc1;refine Ck (Qc (Nz 0 ?_));refine Wk 0 (Bb 1) ?_;refine Wk 0 (Bb 0) ?_;refine Wc rfl rfl Zm (fun u hu=>LZ G u (hG.st hu) g (hW.st hu) hn p (hp.toSt hu) hq) (fun _=>rfl) ?_;rintro⟨bt,mb,rv⟩ hrv;refine WS.unpack ?_;refine Wz 5 ?_;refine Nx 2 ?_;refine Wk 4 (Cb rfl rfl Jdy (fun u hu=>JL bt mb G ⟨p.st,⟨rv,p.rd.l⟩⟩ u ⟨AN hu (j:=0) rfl,hG.st hu,⟨hp.st.st hu,Bk hu (j:=1) rfl fun _ _↦trivial⟩⟩ hP.toGoodG hP.ln lk hin.1 hin.2)) ?_;exact Wd (Qc (Cr (out2 rfl rfl rfl (Af (by rw[show DW G.p p.x lk=(0,Qg G.p lk (cluN G.p p.rd.l lk))from if_pos hc1])))))
theorem ZW {u:World} (R:SA) (G:Game) (hG:GameOk w G) (hV:GoodG G) (tb mb:Nat) (z:Stt) (Z:SA) (hZ:HasZ w Z z) (rv:Value) (rd:List Bool) (hl:rd.length=G.nts.l.length) (f:Int->Int) (hf:KeptO G.p rd f) (lk:Int) (h1:lk<G.lks.l.length) (hu:St w.heap.size w [blk tb [G.rm.pls.v,G.rm.ths.v,G.rm.prs.v,G.rm.wys.v,G.rm.acs.v,G.rm.aus.v,.int .i64 G.rm.ply,G.rm.gl.v,G.lks.v,G.cds.v,G.nts.v,.int .i64 G.tr,z.ths.v,z.prs.v,z.pls.v,rv,.map (some mb)] 123,oT BO 4 rv rd,mapI mb f,Z,R] u):
  Calls prog 148 #[.pointer (some ⟨tb,0,none⟩),.int .i64 lk] u (fun e u'=>∃f':Int->Int,KeptO G.p rd f'/\e = .returned (.bool (decide (lk<0)||DZ G.p rd lk))/\St w.heap.size w [blk tb [G.rm.pls.v,G.rm.ths.v,G.rm.prs.v,G.rm.wys.v,G.rm.acs.v,G.rm.aus.v,.int .i64 G.rm.ply,G.rm.gl.v,G.lks.v,G.cds.v,G.nts.v,.int .i64 G.tr,z.ths.v,z.prs.v,z.pls.v,rv,.map (some mb)] 123,oT BO 4 rv rd,mapI mb f',Z,R] u'):=by
 refine Ei hu func148 ?_;refine Nz 1 ?_;refine Nv 2 ?_;refine Wp ?_ ?_<;>intro hc1
 ·refine Nz 1 ?_;exact Wd (Qc (Cr (Qr (out1 rfl rfl (fun u hu=>⟨f,hf,by rw[decide_eq_true (by omega:lk<0)];rfl,hu⟩)))))
 have h0:0<=lk:=by omega
 refine Ck (Qc (Cs (Nz 3 ?_)));refine Wk 1 (Ba 0) ?_;refine Wk 1 (C3 mapT mapK mapZ rfl (j:=2) rfl rfl) ?_;refine Wp ?_ ?_<;>intro hc2
 ·refine Nz 3 ?_;refine Wk 1 (Ba 0) ?_;refine WS.mapUpdate mapT mapK rfl (j:=2) rfl rfl rfl rfl ?_;refine Nx 2 ?_;refine Wk 5 (Cb rfl rfl Jdy (fun u hu=>JL tb mb G ⟨z,⟨rv,rd⟩⟩ u ⟨AN hu (j:=0) rfl,hG.st hu,⟨hZ.get (j:=3) rfl hu,Bk hu (j:=1) rfl fun _ _↦trivial⟩⟩ hV hl lk h0 h1)) ?_;refine Nx 3 ?_;refine Wj 0 ?_;refine Wj 0 ?_;refine Wj 0 ?_;refine Wj 0 ?_;refine Wj 0 ?_;refine Wj 0 ?_;refine Wj 0 ?_;refine Wk 0 Pa ?_;refine Wp ?_ ?_<;>intro hc3
  ·have hop:DZ G.p rd lk=true:=by(unfold DZ;exact decide_eq_true hc3.2)
   refine Ny 3 ?_;refine Wk 1 (Ba 0) ?_;refine WS.mapUpdate mapT mapK rfl (j:=2) rfl rfl rfl rfl ?_;refine Nx 3 ?_;refine Wk 1 (Ba 0) ?_;refine Wk 2 (C3 mapT mapK mapZ rfl (j:=2) rfl rfl) ?_;exact Wd (Qc (Cr (out1 rfl rfl (fun u hu=>⟨updI (updI f lk 2) lk 1,by rw[QO];exact hf.upd (by rw[hop];rfl),by rw[hop,UB,Bool.or_true];rfl,hu⟩))))
  have hop:DZ G.p rd lk=false:=by(unfold DZ;exact decide_eq_false (fun h=>hc3.elim (fun q=>q trivial) fun q=>q h))
  refine Ck (Qc (Nz 3 ?_));refine Wk 1 (Ba 0) ?_;refine Wk 2 (C3 mapT mapK mapZ rfl (j:=2) rfl rfl) ?_;exact Wd (Qc (Cr (out1 rfl rfl (fun u hu=>⟨updI f lk 2,hf.upd (by rw[hop];rfl),by rw[hop,UB,Bool.or_false,decide_eq_false (by omega:¬lk<0)];rfl,hu⟩))))
 refine Ck (Qc (Nz 3 ?_));refine Wk 1 (Ba 0) ?_;refine Wk 2 (C3 mapT mapK mapZ rfl (j:=2) rfl rfl) ?_;exact Wd (Qc (Cr (out1 rfl rfl (fun u hu=>⟨f,hf,by rcases hf lk with h|h;exact absurd h hc2;rw[h,decide_eq_false (by omega:¬lk<0)];cases DZ G.p rd lk<;>rfl,hu⟩))))
end Go.Proofs.YtllebkdchemabaaGreatDoor
