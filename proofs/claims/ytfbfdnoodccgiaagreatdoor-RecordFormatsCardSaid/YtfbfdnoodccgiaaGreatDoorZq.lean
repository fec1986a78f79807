/- Merged texts of this proof (walks and plain laws), printed by a program of the prover. -/
import Derived.Test.YtfbfdnoodccgiaaGreatDoorZp
import Derived.Test.YtfbfdnoodccgiaaGreatDoorZg
import Derived.Test.YtfbfdnoodccgiaaGreatDoorZb
set_option maxHeartbeats 8000000
namespace Go.Proofs.YtfbfdnoodccgiaaGreatDoor
open Go.RowKit Go.Proofs
set_option maxRecDepth 100000
set_option linter.unusedVariables false
set_option linter.unusedSimpArgs false
theorem Jp6 {r:Room} (hC:checkE r=0) {x:P3} (h:(SettleV r x).1=0):StIn r (SettleV r x).2:=by
 unfold SettleV at h ⊢
 split
 ·
  rename_i hs
  rw [if_pos hs] at h
  have hI:=(Jd0.1 hs).2
  cases hy:settleV r x with
  | none=>rw [hy] at h; cases h
  | some y=>exact Jdx (Jdn hC) hI hy
 rename_i hs
 rw [if_neg hs] at h
 exact absurd h hs
theorem Jkt {r:Room} (hC:checkE r=0) (h:(BeginV r).1=0):StIn r (BeginV r).2:=by
 unfold BeginV at h ⊢
 rw [if_pos hC] at h ⊢
 exact Jp6 hC h
section
variable {P:Program} {ro:Option Nat} {n0:Nat} {w0:World} {ds:List Deferred} {ops:Array Oper} {Q:Exit→Act→World→Prop} {L:List SA}
 {rest:List Oper} {l:List Value} {ty:TypeId} {ps:String} {af:Array Edge}
theorem WS.makeB {T e:TypeId} {by_:Nat} {x y:Operand} {i:Nat} {n:Int} (hT:sl P T=some (e,1,by_)) (hx:evo l x=some (.int .i64 n)) (hy:evo l y=some (.int .i64 n)) (hz:zv P e=some [.bool false])
  (h0:0≤n) (hb:(by_:Int) * n≤281474976710656) (hm:n≤9223372036854775807)
  {l':Value→List Value} (hl:∀ v,lset l i v=some (l' v)) (k:∀ v,WS P ro n0 w0 ds ops Q (oT Jb2 e v (List.replicate n.toNat false)::L) rest (l' v)) :
  WS P ro n0 w0 ds ops Q L (⟨some i,.makeSlice T x y,ty,ps,af,none⟩::rest) l:=by
 refine WS.makeSlice (z:=e) hT hx hy hz rfl h0 rfl hb hm hl fun v=>?_
 have:=k v
 unfold oT Ja5 at this
 rw [List.map_replicate,List.length_replicate] at this
 exact this
end
theorem Jze (G:Game) (w:World) (hG:GameOk w G) (hnn:G.nts.l.length≤1000) (lk:Int) (f:FuncId) (cap:List Value) (q:Int→Bool) (hf:Ent Tryz.prog f)
  (hq:∀ u,Below w.heap.size w u→∀ i:Int,0≤i→i < G.nts.l.length→Calls Tryz.prog f ([.int .i64 i]++cap:List Value).toArray u (RetB u (.bool (q i)))) :
  Calls Tryz.prog 171 #[.agg #[G.rm.pls.v,G.rm.ths.v,G.rm.prs.v,G.rm.wys.v,G.rm.acs.v,G.rm.aus.v,.int .i64 G.rm.ply,G.rm.gl.v,G.lks.v,G.cds.v,G.nts.v,.int .i64 G.tr],.int .i64 lk,.func (.func f) #[] cap.toArray] w (fun e w'=>∃ x:Value × Value,(x.1.oneCell'=true∧x.2.oneCell'=true)∧RetF w (.tuple #[x.1,x.2]) (star [oints 3 x.1 (Jea G.p lk q),osl 105 7 x.2 (clsG G (Jea G.p lk q)).length (Jbv (clsG G (Jea G.p lk q)) (gvsG G (Jea G.p lk q)))]) e w'):=by
 have knt:=hG.nts
 have lnt:=hG.nts.le
 refine enter Tryz.func171 rfl rfl (Nat.le_of_ble_eq_true rfl) ?_
 refine Nz 0 ?_
 refine Wb 2 rfl rfl (fun _=>rfl) (fun _=>rfl) fun b3 hb3=>?_
 refine Wd (Qc (Cs (Nz 1 ?_)))
 refine Wk 0 (Ba 0) ?_
 refine Wk 1 Nc ?_
 refine Wd (Qc (Ce ?_))
 refine CS.weak (fun _ hu=>hu.osl0 (e:=105) (size:=7)) ?_
 refine CS.weak (fun _ hu=>hu.osl0 (e:=3) (size:=1)) ?_
 refine CS.loopM (σ:=Int × Value × Value) [8,9,14,15,16,17,18,19,20,21,22,23,24,25,26,27,28,29,30,31,32,33,34,35,36] (fun s=>[(6,s.2.1),(7,s.2.2),(13,.int .i64 s.1)]) (fun s=>[oints 3 s.2.1 (filI s.1 (fun i=>decide ((nth G.nts.l i).lk=lk) && q i)),osl 105 7 s.2.2 (clsG G (filI s.1 (fun i=>decide ((nth G.nts.l i).lk=lk) && q i))).length (Jbv (clsG G (filI s.1 (fun i=>decide ((nth G.nts.l i).lk=lk) && q i))) (gvsG G (filI s.1 (fun i=>decide ((nth G.nts.l i).lk=lk) && q i)))),blk b3 [G.rm.pls.v,G.rm.ths.v,G.rm.prs.v,G.rm.wys.v,G.rm.acs.v,G.rm.aus.v,.int .i64 G.rm.ply,G.rm.gl.v,G.lks.v,G.cds.v,G.nts.v,.int .i64 G.tr] 48]) (fun s=>0≤s.1∧s.1≤G.nts.l.length) (fun s=>(G.nts.l.length - s.1).toNat) (0,.slice none 0 0,.slice none 0 0) (fun _ _=>rfl) rfl rfl ⟨by simp,by simp⟩ ?_
 intro s t hs
 obtain ⟨hs1,hs2⟩:=hs
 have hfl:=Jox (n:=s.1) (p:=(fun i=>decide ((nth G.nts.l i).lk=lk) && q i)) hs1
 have hcl:(clsG G (filI s.1 (fun i=>decide ((nth G.nts.l i).lk=lk) && q i))).length=(filI s.1 (fun i=>decide ((nth G.nts.l i).lk=lk) && q i)).length:=by simp [clsG]
 refine Nz 1 ?_
 refine Wd (Qc (Cs (CS.cond rfl ?_ ?_)))<;>intro hc1<;>try simp only [bq] at hc1
 ·
  have hs3:s.1 < G.nts.l.length:=by omega
  have hnt:cNote.ok w (nth G.nts.l s.1):=knt.at hs1 hs3
  have hg1:=hnt.2.one1
  have hwh1:=Sl.one hnt.1
  refine Ck (Qc (Cs (Ce (Nz 1 ?_))))
  refine Wk 0 Xc ?_
  refine Wk 0 Ua ?_
  refine Wl 1 Jly (fun _=>rfl) (fun _=>rfl) fun b9 hb9=>?_
  refine Wv 0 0 ?_
  refine Wd (Qc (Nz 1 ?_))
  refine Wk 3 (Ba 0) ?_
  refine Wt 0 rfl rfl (fun hg=>Fm) ?_
  refine Wt 0 rfl rfl (fun hg=>Fm) ?_
  refine Wt 0 rfl rfl (fun hg=>Cb (eg_ hg rfl) (ec_ (eg_ hg rfl) en_) hf (fun u hu=>hq u hu.below s.1 hs1 hs3)) ?_
  refine Wk 0 Pa ?_
  refine Wd (Qc (CS.cond rfl ?_ ?_))<;>intro hc2<;>try simp only [bq] at hc2
  ·
   have hpy:(fun i=>decide ((nth G.nts.l i).lk=lk) && q i) s.1=true:=by (simp only [Bool.and_eq_true,decide_eq_true_eq]; exact hc2)
   refine Nz 2 ?_
   refine WS.buildI1 sl86 zv3 rfl (fun _=>rfl) ?_; intro v29
   refine WS.appendI (j:=2) sl86 zv3 rfl rfl rfl (fun u hu=>Jat hu (j:=0) rfl) (by first | omega | (simp; omega) | (simp only [List.length_append,List.length_singleton,List.length_map,List.length_cons,List.length_nil] at *; omega)) (by first | omega | (simp; omega) | (simp only [List.length_append,List.length_singleton,List.length_map,List.length_cons,List.length_nil] at *; omega)) (fun _=>rfl) (fun _=>rfl) ?_; intro v30; refine WS.oc (j:=2) rfl (fun hv30=>?_)
   refine Wz 1 ?_
   refine Wd (Qc (Ny 2 ?_))
   refine Wk 0 (Bc 1) ?_
   refine WS.buildC1 Jto Jpx (c:=(nth G.nts.l s.1).cl) (gv:=(nth G.nts.l s.1).gv) rfl (fun _=>rfl) ?_; intro v34
   refine WS.appendCl (j:=4) (jz:=0) Jto Jpx rfl rfl rfl (by simp [clsG,gvsG]) rfl rfl hg1 (by omega) (by omega) (fun _=>rfl) (fun _=>rfl) ?_; intro v35 hv35
   refine Wz 1 ?_
   refine Wd (Qb (Qc (Ny 0 ?_)))
   refine Wk 1 Za ?_
   refine Wd ?_
   refine QS.sel [3,3,3] rfl ?_
   exact QS.head ((s.1+1,v30,v35)) rfl (by first | simp only [← Joe (p:=(fun i=>decide ((nth G.nts.l i).lk=lk) && q i)) hs1 hpy,clsG,gvsG,List.map_append,List.map_cons,List.map_nil] | simp only [← Jsq (p:=(fun i=>decide ((nth G.nts.l i).lk=lk) && q i)) hs1 hpn]) ⟨⟨by simp; omega,by simp; omega⟩,by simp; omega⟩
  have hpn:(fun i=>decide ((nth G.nts.l i).lk=lk) && q i) s.1=false:=by (simp only [Bool.and_eq_false_iff,decide_eq_false_iff_not]; exact hc2)
  refine Ck (Qb (Qc (Ny 0 ?_)))
  refine Wk 1 Za ?_
  refine Wd ?_
  refine QS.sel [1,1,1] rfl ?_
  exact QS.head ((s.1+1,s.2)) rfl (by first | simp only [← Joe (p:=(fun i=>decide ((nth G.nts.l i).lk=lk) && q i)) hs1 hpy,clsG,gvsG,List.map_append,List.map_cons,List.map_nil] | simp only [← Jsq (p:=(fun i=>decide ((nth G.nts.l i).lk=lk) && q i)) hs1 hpn]) ⟨⟨by simp; omega,by simp; omega⟩,by simp; omega⟩
 have hse:s.1=G.nts.l.length:=by omega
 refine Cv (Qe (Qe (Qx (Qc (Nz 4 ?_)))))
 refine Wd (Qc (Cr ?_))
 rw [hse, ← Jjj G lk q]
 refine QS.oc (j:=0) rfl (fun hv6=>?_)
 refine QS.oc (j:=1) rfl (fun hv7=>?_)
 exact out2 rfl rfl rfl (fun u hu=>⟨s.2,⟨hv6,hv7⟩,Jms (hu.sel [0,0] rfl) (List.Perm.refl _)⟩)
structure TeamOk (w:World) (bt mb:Nat) (G:Game) (p:Pos):Prop where
 blk:BlkAt w bt [G.rm.pls.v,G.rm.ths.v,G.rm.prs.v,G.rm.wys.v,G.rm.acs.v,G.rm.aus.v,.int .i64 G.rm.ply,G.rm.gl.v,G.lks.v,G.cds.v,G.nts.v,.int .i64 G.tr,p.st.ths.v,p.st.prs.v,p.st.pls.v,p.rd.v,.map (some mb)] 143
 gm:GameOk w G
 ps:PosOk w p
theorem TeamOk.ext {w u:World} {bt mb:Nat} {G:Game} {p:Pos} (h:TeamOk w bt mb G p) (hb:Below w.heap.size w u):TeamOk u bt mb G p:=⟨h.blk.ext hb,h.gm.ext hb,h.ps.ext hb⟩
theorem TeamOk.toSt {w u:World} {L:List SA} {bt mb:Nat} {G:Game} {p:Pos} (h:TeamOk w bt mb G p) (hu:St w.heap.size w L u):TeamOk u bt mb G p:=h.ext hu.below
theorem Jfh {P:Program} {w0:World} {L:List SA} {l:List Value} {d:Option Tmp} {ty:TypeId} {ps:String} {af:Array Edge} {g:Option (Nat × Bool)} {T:TypeId} {x:Operand} {b i n:Nat} {c cs:List Value} {e:TypeId} (hx:evo l x=some (.pointer (some ⟨b,i,none⟩))) (hb:BlkAt w0 b c e) (hv:(c.drop i).take n=cs) (hn:cs.length=n) (hT:tk P T=some (true,n)) :
  Det P (St w0.heap.size w0 L) ⟨d,.load T x,ty,ps,af,g⟩ l (.agg cs.toArray):=by
 subst hn
 refine Jes hT hx fun u hu m v hm=>?_
 rw [Jcg (hb.st hu)]
 rw [← hv,List.getElem?_take] at hm
 split at hm
 ·
  rw [List.getElem?_drop] at hm; exact hm
 simp at hm
theorem Jmw (bt mb:Nat) (G:Game) (p:Pos) (w:World) (hT:TeamOk w bt mb G p) (b1:Nat) (e1:TypeId) (h1:BlkAt w b1 [.pointer (some ⟨bt,0,none⟩)] e1) (i:Int) (h0:0≤i) (hi:i < p.rd.l.length) :
  Calls Tryz.prog 172 #[.int .i64 i,.pointer (some ⟨b1,0,none⟩)] w (RetB w (.bool (nth p.rd.l i))):=by
 have hTb:=hT.blk
 have hG:=hT.gm
 have hp:=hT.ps
 have klk:=hG.lks
 have krd:=hp.rd
 have llk:=klk.le
 refine enter Tryz.func172 rfl rfl (Nat.le_of_ble_eq_true rfl) ?_
 refine Nz 1 ?_
 refine Wd (Qc (Nz 0 ?_))
 refine Wk 3 Ga ?_
 refine Wk 1 Ga ?_
 refine Wk 0 Xc ?_
 refine Wk 1 Ub ?_
 exact Wd (Qc (Cr (out1 rfl rfl retB)))
theorem Jp8 (bt mb:Nat) (G:Game) (p:Pos) (w:World) (hT:TeamOk w bt mb G p) (hV:GoodG G) (hl:p.rd.l.length=G.nts.l.length) (lk:Int) (h0:0≤lk) (h1:lk < G.lks.l.length) :
  Calls Tryz.prog 137 #[.pointer (some ⟨bt,0,none⟩),.int .i64 lk] w (RetB w (.tuple #[.int .i64 (Jw4 G.p lk (cluN G.p p.rd.l lk)),.int .i64 0])):=by
 have hTb:=hT.blk
 have hG:=hT.gm
 have hp:=hT.ps
 have klk:=hG.lks
 have krd:=hp.rd
 have llk:=klk.le
 have hnn:=hV.nn
 have hE:=Js3 hV h0 h1 (Jo3 (p:=fun i=>nth p.rd.l i)) (Nat.le_trans (Jtg hV _ _) (by decide))
 refine enter Tryz.func137 rfl rfl (Nat.le_of_ble_eq_true rfl) ?_
 refine Nz 0 ?_
 refine Wb 2 rfl rfl (fun _=>rfl) (fun _=>rfl) fun b2 hb2=>?_
 refine Wd (Qc (Nz 0 ?_))
 refine Wk 2 (Ba 0) ?_
 refine Wk 1 (Jfh (n:=12) (cs:=[G.rm.pls.v,G.rm.ths.v,G.rm.prs.v,G.rm.wys.v,G.rm.acs.v,G.rm.aus.v,.int .i64 G.rm.ply,G.rm.gl.v,G.lks.v,G.cds.v,G.nts.v,.int .i64 G.tr]) rfl hTb rfl rfl tk48) ?_
 refine Wk 0 (Jai rfl) ?_
 refine Wc rfl rfl J2s (fun u hu=>Jze G u (hG.st hu) (by omega) lk _ [.pointer (some ⟨b2,0,none⟩)] (fun i ↦ nth p.rd.l i) J3f (fun u2 h2 i a0 a1 ↦ Jmw bt mb G p u2 ((hT.toSt hu).ext h2) _ _ ((Jap hu (j:=0) rfl).ext h2) i a0 (by omega))) (fun _=>rfl) ?_; rintro ⟨v16,v17⟩ ⟨hv16,hv17⟩
 refine WS.unpack ?_
 refine Wz 5 ?_
 refine Wd (Qc (Nz 0 ?_))
 refine Wk 3 (Ba 2) ?_
 refine Wk 1 Ga ?_
 refine Wk 0 Xc ?_
 refine Wk 1 Ua ?_
 refine Wk 4 (Cb rfl rfl J1y (fun u hu=>Jzm _ _ _ _ _ u (J4x (hG.st hu) Jo3 (Jb1 hu (j:=1) rfl)))) ?_
 exact Wd (Qc (Cr (out2 rfl rfl rfl (Jac (by rw [hE,if_pos rfl, ← Jq8,Jy1])))))
theorem Js5 (G:Game) (w:World) (hG:GameOk w G) (g:Sl ByteArray) (hW:GOk w g) (hn:NearG G) (p:Pos) (hp:PosOk w p) (hq:posG G.p p.x=0) :
  Calls Tryz.prog 60 #[.agg #[G.rm.pls.v,G.rm.ths.v,G.rm.prs.v,G.rm.wys.v,G.rm.acs.v,G.rm.aus.v,.int .i64 G.rm.ply,G.rm.gl.v,G.lks.v,G.cds.v,G.nts.v,.int .i64 G.tr],.agg #[p.st.ths.v,p.st.prs.v,p.st.pls.v,p.rd.v]] w (fun e w'=>∃ x:Nat × Nat × Value,x.2.2.oneCell'=true∧RetF w (.tuple #[.pointer (some ⟨x.1,0,none⟩),.int .i64 0]) (star [blk x.1 [G.rm.pls.v,G.rm.ths.v,G.rm.prs.v,G.rm.wys.v,G.rm.acs.v,G.rm.aus.v,.int .i64 G.rm.ply,G.rm.gl.v,G.lks.v,G.cds.v,G.nts.v,.int .i64 G.tr,p.st.ths.v,p.st.prs.v,p.st.pls.v,x.2.2,.map (some x.2.1)] 143,oT Jb2 4 x.2.2 p.rd.l,mapI x.2.1 (fun _=>0)]) e w'):=by
 have o1:=Sl.one hG.rm.pls
 have o2:=Sl.one hG.rm.ths
 have o3:=Sl.one hG.rm.prs
 have o4:=Sl.one hG.rm.wys
 have o5:=Sl.one hG.rm.acs
 have o6:=Sl.one hG.rm.aus
 have o7:=Sl.one hG.rm.gl
 have o8:=Sl.one hG.lks
 have o9:=Sl.one hG.cds
 have o10:=Sl.one hG.nts
 have o11:=Sl.one hp.st.ths
 have o12:=Sl.one hp.st.prs
 have o13:=Sl.one hp.st.pls
 have o14:=Sl.one hp.rd
 have hP:=Jeu hq
 have hsm:=hP.small
 refine enter Tryz.func60 rfl rfl (Nat.le_of_ble_eq_true rfl) ?_
 refine Nz 0 ?_
 refine Wb 0 rfl rfl (fun _=>rfl) (fun _=>rfl) fun b2 hb2=>?_
 refine Wb 2 rfl rfl (fun _=>rfl) (fun _=>rfl) fun b3 hb3=>?_
 refine Wd (Qc (Cs (Nz 0 ?_)))
 refine Wk 0 (Bb 1) ?_
 refine Wk 0 (Bb 0) ?_
 refine Wk 1 (Cb rfl rfl J47 (fun u hu=>Joy G u (hG.st hu) g (hW.st hu) hn p (hp.toSt hu))) ?_
 refine Wd (Qc (Nz 2 ?_))
 refine Wd (Qc (CS.cond rfl ?_ ?_))<;>intro hc1<;>try simp only [bq] at hc1
 ·
  exact absurd hq hc1
 refine Ck (Qc (Cs ?_))
 refine CS.drawnAll (k:=12) mixed rfl rfl ?_
 refine Ak 0 [1] rfl (Bb 1) ?_
 refine Ak 2 [3] rfl (Bc 0) ?_
 refine Ak 4 [] rfl (Ba 0) ?_
 refine AS.two (i:=5) (j:=7) (by kernel_rfl) rfl rfl (by first | exact fun _ h=>h | exact fun _ h=>h.sub (by repeat first | exact List.Sublist.refl _ | apply List.Sublist.cons_cons | apply List.Sublist.cons)) rfl rfl ?_ ?_
 ·
  refine Wc rfl rfl Jpc (fun u hu=>Jd2 p.rd u (hp.rd.st hu) hsm.2) (fun _=>rfl) ?_; intro v18 hv18
  refine Wd (Qa ?_)
  refine Ak 6 [] rfl (Jas Jgc zv97 (pcs:=[(0,[p.st.ths.v,p.st.prs.v,p.st.pls.v]),(1,[v18])]) rfl (CellsOf.agg (CellsOf.one hv18 CellsOf.nil)) rfl) ?_
  refine Ao 7 rfl ?_
  refine WS.makeMap (fun _=>rfl) fun b20 hb20=>?_
  refine Wd (Qa ?_)
  refine Ak 8 [] rfl (Jas Jm8 Jvd (pcs:=[(0,[G.rm.pls.v,G.rm.ths.v,G.rm.prs.v,G.rm.wys.v,G.rm.acs.v,G.rm.aus.v,.int .i64 G.rm.ply,G.rm.gl.v,G.lks.v,G.cds.v,G.nts.v,.int .i64 G.tr]),(1,[p.st.ths.v,p.st.prs.v,p.st.pls.v,v18]),(2,[.map (some b20)])]) rfl (CellsOf.agg (CellsOf.agg (CellsOf.one rfl CellsOf.nil))) rfl) ?_
  refine Ao 9 rfl ?_
  refine Wb 0 rfl rfl (fun _=>rfl) (fun _=>rfl) fun b22 hb22=>?_
  refine Wd (Qa ?_)
  refine Ar [10,11] ?_
  refine Ae ?_
  exact Qc (Cr (out2 rfl rfl rfl (fun u hu=>⟨(b22,b20,v18),hv18,Jms (hu.sel [0,1,0] rfl) (List.Perm.refl _)⟩)))
 refine WS.makeMap (fun _=>rfl) fun b20 hb20=>?_
 refine Wd (Qa ?_)
 refine Ao 5 rfl ?_
 refine Wc rfl rfl Jpc (fun u hu=>Jd2 p.rd u (hp.rd.st hu) hsm.2) (fun _=>rfl) ?_; intro v18 hv18
 refine Wd (Qa ?_)
 refine Ak 6 [] rfl (Jas Jgc zv97 (pcs:=[(0,[p.st.ths.v,p.st.prs.v,p.st.pls.v]),(1,[v18])]) rfl (CellsOf.agg (CellsOf.one hv18 CellsOf.nil)) rfl) ?_
 refine Ak 8 [] rfl (Jas Jm8 Jvd (pcs:=[(0,[G.rm.pls.v,G.rm.ths.v,G.rm.prs.v,G.rm.wys.v,G.rm.acs.v,G.rm.aus.v,.int .i64 G.rm.ply,G.rm.gl.v,G.lks.v,G.cds.v,G.nts.v,.int .i64 G.tr]),(1,[p.st.ths.v,p.st.prs.v,p.st.pls.v,v18]),(2,[.map (some b20)])]) rfl (CellsOf.agg (CellsOf.agg (CellsOf.one rfl CellsOf.nil))) rfl) ?_
 refine Ao 9 rfl ?_
 refine Wb 0 rfl rfl (fun _=>rfl) (fun _=>rfl) fun b22 hb22=>?_
 refine Wd (Qa ?_)
 refine Ar [10,11] ?_
 refine Ae ?_
 exact Qc (Cr (out2 rfl rfl rfl (fun u hu=>⟨(b22,b20,v18),hv18,Jms (hu.sel [0,0,0] rfl) (List.Perm.refl _)⟩)))
theorem mapT:Tryz.prog.underlying 141=some (.map 3 3):=Tryz.underlying141
theorem mapK:Tryz.prog.underlying 3=some (.int .i64):=Tryz.underlying3
theorem mapZ:zo Tryz.prog 3=some (.int .i64 0):=by kernel_rfl
theorem Js6 {f:Int→Int} {k v:Int}:updI f k v k=v:=if_pos rfl
def KeptO (G:GP) (rd:List Bool) (f:Int→Int):Prop:=∀ k,f k=0∨f k=if Jdj G rd k=true then 1 else 2
theorem KeptO.zero {G:GP} {rd:List Bool}:KeptO G rd (fun _=>0):=fun _=>.inl rfl
theorem KeptO.upd {G:GP} {rd:List Bool} {f:Int→Int} (h:KeptO G rd f) {k v:Int} (hv:v=if Jdj G rd k=true then 1 else 2):KeptO G rd (updI f k v):=fun j=>by
 unfold updI
 split
 ·
  rename_i e; rw [e]; exact .inr hv
 exact h j
structure HasZ (w:World) (Z:SA) (z:Stt):Prop where
 get:∀ {L:List SA} {u:World} {j:Nat},L[j]? = some Z→St w.heap.size w L u→SttOk u z
theorem HasZ.ro {w:World} {z:Stt}:HasZ w (roS fun u=>SttOk u z) z:=⟨fun hj hu=>hu.ro hj⟩
theorem HasZ.old {w:World} {z:Stt} (hz:SttOk w z) (Z:SA):HasZ w Z z:=⟨fun _ hu=>hz.st hu⟩
theorem Jp3 {f:Int→Int} {k a b:Int}:updI (updI f k a) k b=updI f k b:=by
 funext j; unfold updI; split <;> rfl
theorem J0f {w u:World} (R:SA) (G:Game) (hG:GameOk w G) (hV:GoodG G) (tb mb:Nat) (z:Stt) (Z:SA) (hZ:HasZ w Z z) (rv:Value) (rd:List Bool) (hl:rd.length=G.nts.l.length) (f:Int→Int) (hf:KeptO G.p rd f) (lk:Int) (h1:lk < G.lks.l.length) (hu:St w.heap.size w [blk tb [G.rm.pls.v,G.rm.ths.v,G.rm.prs.v,G.rm.wys.v,G.rm.acs.v,G.rm.aus.v,.int .i64 G.rm.ply,G.rm.gl.v,G.lks.v,G.cds.v,G.nts.v,.int .i64 G.tr,z.ths.v,z.prs.v,z.pls.v,rv,.map (some mb)] 143,oT Jb2 4 rv rd,mapI mb f,Z,R] u) :
  Calls Tryz.prog 94 #[.pointer (some ⟨tb,0,none⟩),.int .i64 lk] u (fun e u'=>∃ f':Int→Int,KeptO G.p rd f'∧e = .returned (.bool (decide (lk < 0) || Jdj G.p rd lk))∧St w.heap.size w [blk tb [G.rm.pls.v,G.rm.ths.v,G.rm.prs.v,G.rm.wys.v,G.rm.acs.v,G.rm.aus.v,.int .i64 G.rm.ply,G.rm.gl.v,G.lks.v,G.cds.v,G.nts.v,.int .i64 G.tr,z.ths.v,z.prs.v,z.pls.v,rv,.map (some mb)] 143,oT Jb2 4 rv rd,mapI mb f',Z,R] u'):=by
 refine Jd9 hu Tryz.func94 rfl rfl (Nat.le_of_ble_eq_true rfl) ?_
 refine Nz 1 ?_
 refine Wd (Qc (Cs (Nz 2 ?_)))
 refine Wd (Qc (CS.cond rfl ?_ ?_))<;>intro hc1<;>try simp only [bq] at hc1
 ·
  refine Nz 1 ?_
  exact Wd (Qc (Cr (Qr (out1 rfl rfl (fun u hu=>⟨f,hf,by rw [decide_eq_true (by omega:lk < 0)]; rfl,hu⟩)))))
 have h0:0≤lk:=by omega
 refine Ck (Qc (Cs (Nz 3 ?_)))
 refine Wk 1 (Ba 0) ?_
 refine Wk 1 (Jd5 mapT mapK mapZ rfl (j:=2) rfl rfl) ?_
 refine Wd (Qc (CS.cond rfl ?_ ?_))<;>intro hc2<;>try simp only [bq] at hc2
 ·
  refine Nz 3 ?_
  refine Wk 1 (Ba 0) ?_
  refine WS.mapUpdate mapT mapK rfl (j:=2) rfl rfl rfl rfl ?_
  refine Wd (Qc (Nz 2 ?_))
  refine Wk 5 (Cb rfl rfl J40 (fun u hu=>Jp8 tb mb G ⟨z,⟨rv,rd⟩⟩ u ⟨Jap hu (j:=0) rfl,hG.st hu,⟨hZ.get (j:=3) rfl hu,Jim hu (j:=1) rfl fun _ _ ↦ trivial⟩⟩ hV hl lk h0 h1)) ?_
  refine Wd (Qc (Nz 3 ?_))
  refine Wt 0 rfl rfl (fun hg=>Fm) ?_
  refine Wt 0 rfl rfl (fun hg=>Fm) ?_
  refine Wt 0 rfl rfl (fun hg=>Fc) ?_
  refine Wt 0 rfl rfl (fun hg=>Ff) ?_
  refine Wt 0 rfl rfl (fun hg=>Ff) ?_
  refine Wt 0 rfl rfl (fun hg=>Ba 0) ?_
  refine Wt 0 rfl rfl (fun hg=>Fk) ?_
  refine Wk 0 Pa ?_
  refine Wd (Qc (CS.cond rfl ?_ ?_))<;>intro hc3<;>try simp only [bq] at hc3
  ·
   have hop:Jdj G.p rd lk=true:=by (unfold Jdj; exact decide_eq_true hc3.2)
   refine Ny 3 ?_
   refine Wk 1 (Ba 0) ?_
   refine WS.mapUpdate mapT mapK rfl (j:=2) rfl rfl rfl rfl ?_
   refine Wd (Qc (Nz 3 ?_))
   refine Wk 1 (Ba 0) ?_
   refine Wk 2 (Jd5 mapT mapK mapZ rfl (j:=2) rfl rfl) ?_
   exact Wd (Qc (Cr (out1 rfl rfl (fun u hu=>⟨updI (updI f lk 2) lk 1,by rw [Jp3]; exact hf.upd (by rw [hop]; rfl),by rw [hop,Js6,Bool.or_true]; rfl,hu⟩))))
  have hop:Jdj G.p rd lk=false:=by (unfold Jdj; exact decide_eq_false (fun h=>hc3.elim (fun q=>q trivial) fun q=>q h))
  refine Ck (Qc (Nz 3 ?_))
  refine Wk 1 (Ba 0) ?_
  refine Wk 2 (Jd5 mapT mapK mapZ rfl (j:=2) rfl rfl) ?_
  exact Wd (Qc (Cr (out1 rfl rfl (fun u hu=>⟨updI f lk 2,hf.upd (by rw [hop]; rfl),by rw [hop,Js6,Bool.or_false,decide_eq_false (by omega:¬ lk < 0)]; rfl,hu⟩))))
 refine Ck (Qc (Nz 3 ?_))
 refine Wk 1 (Ba 0) ?_
 refine Wk 2 (Jd5 mapT mapK mapZ rfl (j:=2) rfl rfl) ?_
 exact Wd (Qc (Cr (out1 rfl rfl (fun u hu=>⟨f,hf,by rcases hf lk with h | h; exact absurd h hc2; rw [h,decide_eq_false (by omega:¬ lk < 0)]; cases Jdj G.p rd lk <;> rfl,hu⟩))))
end Go.Proofs.YtfbfdnoodccgiaaGreatDoor
