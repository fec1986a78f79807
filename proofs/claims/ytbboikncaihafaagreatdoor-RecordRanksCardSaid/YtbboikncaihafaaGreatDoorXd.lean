/- Merged texts of this proof (walks and plain laws), printed by a program of the prover. -/
import Derived.Test.YtbboikncaihafaaGreatDoorXc
set_option maxHeartbeats 8000000
namespace Go.Proofs.YtbboikncaihafaaGreatDoor
open Go.RowKit Go.Proofs
set_option maxRecDepth 100000
set_option linter.unusedVariables false
set_option linter.unusedSimpArgs false
theorem Jhl {G:GP} {e:Entr} {l:List Entr} {i last:Int} {f F:Film} (h:Jcp G (e::l) i last f = .ok F):Jco last e=true∧∃ f',Ja2 G f e=some f'∧Jcp G l (i+1) e.t f' = .ok F:=by
 unfold Jcp at h
 split at h
 ·
  rename_i ht
  cases hs:Ja2 G f e with
  | none=>rw [hs] at h; cases h
  | some f'=>rw [hs] at h; exact ⟨ht,f',rfl,h⟩
 cases h
theorem Jgf {G:GP} {e:Entr} {l:List Entr} {i last:Int} {f:Film} (h:(Jco last e && (Ja2 G f e).isSome)=false):Jcp G (e::l) i last f = .error i:=by
 unfold Jcp
 split
 ·
  rename_i ht
  cases hs:Ja2 G f e with
  | none=>rfl
  | some f'=>rw [hs,ht] at h; cases h
 rfl
theorem J1d {G:GP} {e:Entr} {last:Int} {f:Film} (h:(Jco last e && (Ja2 G f e).isSome)=true):Jco last e=true∧∃ f',Ja2 G f e=some f':=by
 rw [Bool.and_eq_true,Option.isSome_iff_exists] at h; exact h
theorem Jrd {G:GP} {l:List Entr} (h:¬ (Jag G).1=0):Jae G l=((Jag G).1,0,Jaz G):=if_neg h
theorem Jqa {G:GP} {l:List Entr} (h:(Jag G).1=0) (h2:500 < (l.length:Int)):Jae G l=(2,0,Jaz G):=(if_pos h).trans (if_pos h2)
theorem Jkx {G:GP} {l:List Entr} {i:Int} (h:(Jag G).1=0) (h2:¬ 500 < (l.length:Int)) (h3:Jcp G l 0 0 (Jaz G) = .error i):Jae G l=(120,i,Jaz G):=by
 unfold Jae; rw [if_pos h,if_neg h2,h3]
theorem Jms {G:GP} {l:List Entr} {f:Film} (h:(Jag G).1=0) (h2:¬ 500 < (l.length:Int)) (h3:Jcp G l 0 0 (Jaz G) = .ok f):Jae G l=(0,0,f):=by
 unfold Jae; rw [if_pos h,if_neg h2,h3]
theorem Jqd {G:GP} {e:Entr} {l:List Entr} {f f':Film} (h:Ja2 G f e=some f') (hk:e.k=1):Jdz G (e::l) f=f'.x.1.1::Jdz G l f':=by
 rw [Jdz,h]; exact if_pos hk
theorem Jps {G:GP} {e:Entr} {l:List Entr} {f f':Film} (h:Ja2 G f e=some f') (hk:¬ e.k=1):Jdz G (e::l) f=Jdz G l f':=by
 rw [Jdz,h]; exact if_neg hk
theorem Jni (G:Game) (w:World) (hG:GameOk w G) (hn:NearG G) :
  Calls Tryz.prog 80 #[.agg #[G.rm.pls.v,G.rm.ths.v,G.rm.prs.v,G.rm.wys.v,G.rm.acs.v,G.rm.aus.v,.int .i64 G.rm.ply,G.rm.gl.v,G.lks.v,G.cds.v,G.nts.v,.int .i64 G.tr]] w (fun e w'=>∃ x:Nat × Pos,(x.2.x=(Jag G.p).2∧∃ u0,PosOk u0 x.2)∧RetF w (.tuple #[.pointer (some ⟨x.1,0,none⟩),.int .i64 (Jag G.p).1]) (star [blk x.1 [G.rm.pls.v,G.rm.ths.v,G.rm.prs.v,G.rm.wys.v,G.rm.acs.v,G.rm.aus.v,.int .i64 G.rm.ply,G.rm.gl.v,G.lks.v,G.cds.v,G.nts.v,.int .i64 G.tr,x.2.st.ths.v,x.2.st.prs.v,x.2.st.pls.v,x.2.rd.v,.bool false,.int .i64 0] 211,roS fun u=>PosOk u x.2]) e w'):=by
 have o1:=Sl.one hG.rm.pls
 have o2:=Sl.one hG.rm.ths
 have o3:=Sl.one hG.rm.prs
 have o4:=Sl.one hG.rm.wys
 have o5:=Sl.one hG.rm.acs
 have o6:=Sl.one hG.rm.aus
 have o7:=Sl.one hG.rm.gl
 have o8:=Sl.one hG.lks
 have o9:=Sl.one hG.cds
 have o10:=Sl.one hG.nts
 refine enter Tryz.func80 rfl rfl (Nat.le_of_ble_eq_true rfl) ?_
 refine Nz 0 ?_
 refine Wb 2 rfl rfl (fun _=>rfl) (fun _=>rfl) fun b1 hb1=>?_
 refine Wd (Qc (Nz 0 ?_))
 refine Wk 0 (Bb 0) ?_
 refine Wc rfl rfl Kaw (fun u hu=>J19 G u (hG.st hu) hn) (fun _=>rfl) ?_; rintro y ⟨hyx,uy,hyok⟩
 obtain ⟨hya,hyb,hyc⟩:=hyok.st.ones
 have hyd:=Sl.one hyok.rd
 refine Wz 3 ?_
 refine Wl 0 zv47 (fun _=>rfl) (fun _=>rfl) fun b4 hb4=>?_
 refine Wv 1 0 ?_
 refine Wd (Qc (Nz 0 ?_))
 refine Wk 0 (Bb 2) ?_
 refine Wk 0 (Bb 0) ?_
 refine Wk 0 (Jav J9z Kb5 (pcs:=[(0,[G.rm.pls.v,G.rm.ths.v,G.rm.prs.v,G.rm.wys.v,G.rm.acs.v,G.rm.aus.v,.int .i64 G.rm.ply,G.rm.gl.v,G.lks.v,G.cds.v,G.nts.v,.int .i64 G.tr]),(1,[y.st.ths.v,y.st.prs.v,y.st.pls.v,y.rd.v])]) rfl (CellsOf.agg (CellsOf.agg CellsOf.nil)) rfl) ?_
 refine Wb 3 rfl rfl (fun _=>rfl) (fun _=>rfl) fun b14 hb14=>?_
 exact Wd (Qc (Cr (out2 rfl rfl rfl (fun u hu=>⟨(b14,y),⟨hyx,uy,hyok⟩,Jj7 (hu.sel [0,1] rfl) (List.Perm.refl _)⟩))))
theorem Jfo (G:Game) (w:World) (hG:GameOk w G) (hn:NearG G) (l:Sl Entr) (hk:SlT cEntry w l) :
  Calls Tryz.prog 81 #[.agg #[G.rm.pls.v,G.rm.ths.v,G.rm.prs.v,G.rm.wys.v,G.rm.acs.v,G.rm.aus.v,.int .i64 G.rm.ply,G.rm.gl.v,G.lks.v,G.cds.v,G.nts.v,.int .i64 G.tr],l.v] w (RetB w (.tuple #[.int .i64 (Jae G.p l.l).2.1,.int .i64 (Jae G.p l.l).1])):=by
 have lls:=hk.le
 refine enter Tryz.func81 rfl rfl (Nat.le_of_ble_eq_true rfl) ?_
 refine Nz 0 ?_
 refine Wb 2 rfl rfl (fun _=>rfl) (fun _=>rfl) fun b2 hb2=>?_
 refine Wd (Qc (Nz 0 ?_))
 refine Wk 0 (Bb 0) ?_
 refine Wc rfl rfl J6g (fun u hu=>Jni G u (hG.st hu) hn) (fun _=>rfl) ?_; rintro ⟨rb,y⟩ ⟨hyx,uy,hyok⟩
 refine WS.unpack ?_
 refine Wz 5 ?_
 refine Wd (Qc (Cs (Nz 2 ?_)))
 refine Wd (Qc (CS.cond rfl ?_ ?_))<;>intro hc1<;>try simp only [bq] at hc1
 ·
  refine Nz 3 ?_
  exact Wd (Qc (Cr (Qr (out2 rfl rfl rfl (Jab (by rw [Jrd hc1]))))))
 have hB:(Jag G.p).1=0:=hc1
 refine Ck (Qc (Cs (Nz 1 ?_)))
 refine Wk 1 Nc ?_
 refine Wd (Qc (CS.cond rfl ?_ ?_))<;>intro hc2<;>try simp only [bq] at hc2
 ·
  refine Nz 2 ?_
  exact Wd (Qc (Cr (Qr (out2 rfl rfl rfl (Jab (by rw [Jqa hB (by omega)]))))))
 have hL:¬ 500 < (l.l.length:Int):=by omega
 refine Ck (Qc (Cs (Nz 1 ?_)))
 refine Wd (Qc (Ce ?_))
 refine CS.loopM (σ:=Int × Pos × Film × Int × Unit) [4,5,20,21,22,23,24,25,26,27,28,29,30,31,32,33] (fun s=>[(8,.int .i64 s.1)]) (fun s=>[blk rb [G.rm.pls.v,G.rm.ths.v,G.rm.prs.v,G.rm.wys.v,G.rm.acs.v,G.rm.aus.v,.int .i64 G.rm.ply,G.rm.gl.v,G.lks.v,G.cds.v,G.nts.v,.int .i64 G.tr,s.2.1.st.ths.v,s.2.1.st.prs.v,s.2.1.st.pls.v,s.2.1.rd.v,.bool s.2.2.1.st,.int .i64 s.2.2.2.1] 211,roS fun u=>PosOk u s.2.1,blk b2 [G.rm.pls.v,G.rm.ths.v,G.rm.prs.v,G.rm.wys.v,G.rm.acs.v,G.rm.aus.v,.int .i64 G.rm.ply,G.rm.gl.v,G.lks.v,G.cds.v,G.nts.v,.int .i64 G.tr] 36]) (fun s=>0≤s.1∧s.1≤l.l.length∧(∃ u0,PosOk u0 s.2.1)∧s.2.1.x=s.2.2.1.x∧posG G.p s.2.2.1.x=0∧Jcp G.p l.l 0 0 (Jaz G.p)=Jcp G.p (l.l.drop s.1.toNat) s.1 s.2.2.2.1 s.2.2.1) (fun s=>(l.l.length - s.1).toNat) (0,y,Jaz G.p,0,()) (fun _ _=>rfl) rfl rfl ⟨by simp,by simp,⟨_,hyok⟩,hyx,Je8 hB,by simp⟩ ?_
 intro s t hs
 obtain ⟨hs1,hs2,⟨us,hsok⟩,hs4,hs5,hs6⟩:=hs
 refine Cs (Nz 2 ?_)
 refine Wk 1 Nc ?_
 refine Wd (Qc (CS.cond rfl ?_ ?_))<;>intro hc3<;>try simp only [bq] at hc3
 ·
  refine Ck (Qc (Cs (Ce (Nz 3 ?_))))
  refine Wk 0 Xc ?_
  refine Wk 0 Ua ?_
  refine WS.callS rfl rfl J3k (fun u hu=>Jov [] [_] G hG hn rb s.2.1 s.2.2.1 hs4 (nth l.l s.1) s.2.2.2.1 hu) (fun _=>rfl) ?_; rintro ⟨y2,f2,t2⟩ ⟨hy2x,⟨uy2,hy2ok⟩,hf2⟩
  dsimp only at hf2 hy2x hy2ok
  refine Wz 1 ?_
  refine Wd (Qc (CS.cond rfl ?_ ?_))<;>intro hc4<;>try simp only [bq] at hc4
  ·
   have hbd:(Jco s.2.2.2.1 (nth l.l s.1) && (Ja2 G.p s.2.2.1 (nth l.l s.1)).isSome)=false:=by rw [Bool.and_eq_false_iff]; exact hc4
   refine Nz 3 ?_
   exact Wd (Qc (Cr (Qs (Qr (Qr (Qs (Qr (out2 rfl rfl rfl (Jab (by rw [Jkx hB hL (by rw [hs6,Jat hs1 (by omega),Jgf hbd])]))))))))))
  have hgd:(Jco s.2.2.2.1 (nth l.l s.1) && (Ja2 G.p s.2.2.1 (nth l.l s.1)).isSome)=true:=by first | exact hc4 | simpa using hc4
  obtain ⟨hT,f3,hf3⟩:=J1d hgd
  obtain ⟨rfl,rfl⟩:=hf2 f3 hT hf3
  refine Ck (Qb (Qc (Ny 1 ?_)))
  refine Wk 1 Za ?_
  exact Wd (QS.head ((s.1+1,y2,f2,(nth l.l s.1).t,())) rfl rfl ⟨⟨by simp; omega,by simp; omega,⟨_,hy2ok⟩,hy2x,Jpi hs5 hf3,by rw [hs6,Jat hs1 (by omega),Jfa hT hf3]⟩,by simp; omega⟩)
 refine Cv (Qe (Qe (Qx (Qc (Nz 2 ?_)))))
 exact Wd (Qc (Cr (out2 rfl rfl rfl (Jab (by rw [Jms hB hL (by rw [hs6,List.drop_of_length_le (by omega),Jcp])])))))
def Jex (t:Int) (old new:List Int) (k:Int):List Entr:=((Jeo k.toNat).filter fun j => !decide (nth new j=nth old j)).map fun j=>⟨t,5,mv0,j,nth new j⟩
theorem Jvd {t:Int} {old new:List Int} {k:Int} (h:k=new.length):Jex t old new k=Jtq t old new:=by subst h; rfl
theorem Jlt {t:Int} {old new:List Int} {k:Int} (h0:0≤k) (h:¬ nth new k=nth old k):Jex t old new k++[⟨t,5,mv0,k,nth new k⟩]=Jex t old new (k+1):=by
 unfold Jex
 rw [Je4 h0,List.filter_append,List.map_append,List.filter_cons,if_pos (by rw [decide_eq_false h]; rfl)]; rfl
theorem Jod {t:Int} {old new:List Int} {k:Int} (h0:0≤k) (h:nth new k=nth old k):Jex t old new k=Jex t old new (k+1):=by
 unfold Jex
 rw [Je4 h0,List.filter_append,List.filter_cons,if_neg (by rw [decide_eq_true h]; decide)]; simp
theorem Jlk {t:Int} {old new:List Int} {k:Int}:(Jex t old new k).length≤k.toNat:=by
 unfold Jex
 rw [List.length_map]
 exact Nat.le_trans (List.length_filter_le _ _) (by rw [J0u]; exact Nat.le_refl _)
theorem Jrt {G:GP} {m:Timed} {ms:List Timed} {i last:Int} {x:PX} {out:List Entr} (ht:last≤m.t∧m.t≤1000000) (hs:(Jan G x m.m).1=0) :
  recF G (m::ms) i last x out=recF G ms (i+1) m.t (Jan G x m.m).2 (out++⟨m.t,1,m.m,0,0⟩::Jtq m.t x.1.1 (Jan G x m.m).2.1.1):=by
 rw [recF,if_pos (by simpa using ht),if_pos hs]
theorem Jvz {G:GP} {m:Timed} {ms:List Timed} {i last:Int} {x:PX} {out:List Entr} (ht:last≤m.t∧m.t≤1000000) (hs:¬ (Jan G x m.m).1=0):recF G (m::ms) i last x out=(29,i,[],x):=by
 rw [recF,if_pos (by simpa using ht),if_neg hs]
theorem Jyj {G:GP} {m:Timed} {ms:List Timed} {i last:Int} {x:PX} {out:List Entr} (ht:¬ (last≤m.t∧m.t≤1000000)):recF G (m::ms) i last x out=(1,i,[],x):=by
 rw [recF,if_neg (by simpa using ht)]
theorem J0v {G:GP} {ms:List Timed} (h:¬ (Jag G).1=0):Jbd G ms=((Jag G).1,0,[]):=if_neg h
theorem Jrz {G:GP} {ms:List Timed} {e i:Int} {o:List Entr} {x:PX} (h:(Jag G).1=0) (he:¬ e=0) (hr:recF G ms 0 0 (Jag G).2 []=(e,i,o,x)):Jbd G ms=(e,i,[]):=by
 unfold Jbd; rw [if_pos h,hr]; exact if_neg he
theorem J1a {G:GP} {ms:List Timed} {o:List Entr} {x:PX} (h:(Jag G).1=0) (hr:recF G ms 0 0 (Jag G).2 []=(0,0,o,x)) (hl:500 < (o.length:Int)):Jbd G ms=(2,0,[]):=by
 unfold Jbd; rw [if_pos h,hr]; exact (if_pos rfl).trans (if_pos hl)
theorem Jrk {G:GP} {ms:List Timed} {o:List Entr} {x:PX} (h:(Jag G).1=0) (hr:recF G ms 0 0 (Jag G).2 []=(0,0,o,x)) (hl:¬ 500 < (o.length:Int)):Jbd G ms=(0,0,o):=by
 unfold Jbd; rw [if_pos h,hr]; exact (if_pos rfl).trans (if_neg hl)
end Go.Proofs.YtbboikncaihafaaGreatDoor
