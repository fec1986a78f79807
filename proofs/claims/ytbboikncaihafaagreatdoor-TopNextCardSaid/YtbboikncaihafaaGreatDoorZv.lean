/- Merged texts of this proof (walks and plain laws), printed by a program of the prover. -/
import Derived.Test.YtbboikncaihafaaGreatDoorZu
set_option maxHeartbeats 8000000
namespace Go.Proofs.YtbboikncaihafaaGreatDoor
open Go.RowKit Go.Proofs
set_option maxRecDepth 100000
set_option linter.unusedVariables false
set_option linter.unusedSimpArgs false
section
variable {P:Program} {ro:Option Nat} {n0:Nat} {w0:World} {ds:List Deferred} {ops:Array Oper} {Q:Exit→Act→World→Prop} {L:List SA} {rest:List Oper} {l:List Value} {d:Option Tmp} {ty:TypeId} {ps:String} {af:Array Edge} {g:Option (Nat × Bool)}
 {α:Type} {C:Cel α}
theorem WS.appendT2 {T e:TypeId} {by_ i j jz:Nat} {x y:Operand} {v z:Value} {a:α} {xs:List α} {zc:List Value} (hT:sl P T=some (e,C.k,by_)) (hz:zv P e=some zc) (hzl:zc.length=C.k) (hk:0 < C.k)
  (hx:evo l x=some v) (hj:L[j]? = some (oT C e v xs)) (hy:evo l y=some z) (hjz:L[jz]? = some (oT C e z [a])) (h1:∀ b∈C.cells a,b.oneCell'=true)
  (hm:xs.length+1≤9223372036854775807) (hb:(xs.length+1) * by_≤140737488355328)
  {l':Value→List Value} (hl:∀ v,lset l i v=some (l' v)) {L':Value→List SA} (hL:∀ v',lset L j (oT C e v' (xs++[a]))=some (L' v')) (k:∀ v',v'.oneCell'=true→WS P ro n0 w0 ds ops Q (L' v') rest (l' v')) :
  WS P ro n0 w0 ds ops Q L (⟨some i,.call ⟨.builtin .append, #[x,y], #[T,T]⟩,ty,ps,af,none⟩::rest) l:=by
 refine WS.append hT hz hzl hk hx hj hy (m:=1) (fun u hu=>Jbi hu hjz) (fun b hb'=>?_) hm hb hl (L':=L') (fun v'=>?_) fun v'=>?_
 ·
  rw [Jea] at hb'; exact h1 b hb'
 ·
  rw [← hL v',oT,Jb5]; simp
 have hjl:=(List.getElem?_eq_some_iff.1 hj).1
 have h2:=(Jaj (hL v')).symm
 refine WS.oc (j:=j) (v:=v') (e:=e) (k:=C.k) (n:=(xs++[a]).length) (xs:=Jas C (xs++[a])) (by rw [h2,List.getElem?_set_self hjl]; rfl) (k v')
variable [Inhabited α]
theorem Jk7 {l:List α} {i f:Nat} {a:α} {vs:List Value} (hi:i < l.length) (hf:f+vs.length≤C.k) (ha:C.cells a=(C.cells (nth l i)).take f++vs++(C.cells (nth l i)).drop (f+vs.length)):(Jas C l).take (i * C.k+f)++vs++(Jas C l).drop (i * C.k+f+vs.length)=Jas C (l.set i a):=by
 have h2:nth l (i:Int)=l[i]:=by simp [nth,List.getD,hi]
 rw [h2] at ha
 have hA:(Jas C (l.take i)).length=i * C.k:=by rw [Jbw,List.length_take,Nat.min_eq_left (by omega)]
 have hE:(C.cells l[i]).length=C.k:=C.len _
 have e:Jas C l=Jas C (l.take i)++(C.cells l[i]++Jas C (l.drop (i+1))):=by
  rw [← Jea C l[i], ← Jb5, ← Jb5,List.singleton_append,List.getElem_cons_drop,List.take_append_drop]
 have e2:Jas C (l.take i++a::l.drop (i+1))=Jas C (l.take i)++(C.cells a++Jas C (l.drop (i+1))):=by
  rw [← Jea C a, ← Jb5, ← Jb5,List.singleton_append]
 rw [List.set_eq_take_append_cons_drop,if_pos hi,e2,ha,e, ← hA,Nat.add_assoc,List.take_length_add_append,List.drop_length_add_append,List.take_append_of_le_length (by omega),List.drop_append_of_le_length (by omega)]
 simp only [List.append_assoc]
theorem WS.storeTn {T e:TypeId} (k f:Nat) {x y:Operand} {v:Value} {vs:List Value} {j:Nat} {q:Bool} {xs:List α} {i:Int} (a:α) (hj:L[j]? = some (oT C e v xs)) (hx:evo l x=some (.pointer (some ⟨slb v,slo v+i.toNat * k+f,none⟩))) (hk:C.k=k) (h:0≤i∧i < xs.length) (hf:f+vs.length≤k) (h0:0 < vs.length)
  (hy:evo l y=some (.agg vs.toArray)) (h1:∀ z∈vs,z.oneCell'=true) (hT:tk P T=some (q,vs.length)) (ha:C.cells a=(C.cells (nth xs i)).take f++vs++(C.cells (nth xs i)).drop (f+vs.length))
  {L':List SA} (hL:lset L j (oT C e v (xs.set i.toNat a))=some L') (kk:WS P ro n0 w0 ds ops Q L' rest l) :
  WS P ro n0 w0 ds ops Q L (⟨none,.store T x y,ty,ps,af,none⟩::rest) l:=by
 subst hk
 have hi:i.toNat < xs.length:=by omega
 have e0:((i.toNat:Nat):Int)=i:=by omega
 refine WS.storeOC (vs:=vs) (m:=i.toNat * C.k+f) (by rw [hx,sla,Nat.add_assoc]) hj ?_ h0 hy (by simp [Value.cells]) h1 hT (Jk7 hi hf (by rw [e0]; exact ha)) (by rw [← hL,oT,List.length_set]) kk
 rw [Jbw]
 calc i.toNat * C.k+f+vs.length≤i.toNat * C.k+C.k:=by omega
  _=(i.toNat+1) * C.k:=by rw [Nat.succ_mul]
  _≤xs.length * C.k:=Nat.mul_le_mul_right _ hi
theorem Jra {T e:TypeId} {k j:Nat} (f:Nat) {x:Operand} {v:Value} {i:Int} {xs:List α} (cs:List Value) (hj:L[j]? = some (oT C e v xs)) (hx:evo l x=some (.pointer (some ⟨slb v,slo v+i.toNat * k+f,none⟩))) (hk:C.k=k) (h:0≤i∧i < xs.length) (hm:f+cs.length≤k)
  (hc:((C.cells (nth xs i)).drop f).take cs.length=cs) (hT:tk P T=some (true,cs.length)):Det P (St n0 w0 L) ⟨d,.load T x,ty,ps,af,g⟩ l (.agg cs.toArray):=by
 subst hk
 refine Jc3 (v:=v) (m:=i.toNat * C.k+f) (by rw [hx,sla,Nat.add_assoc]) (fun _ hu=>Jbi hu hj) (fun jj y hy=>?_) hT
 have hjj:jj < cs.length:=(List.getElem?_eq_some_iff.1 hy).1
 rw [← hc,List.getElem?_take,if_pos hjj,List.getElem?_drop] at hy
 rw [Nat.add_assoc,Jch C h.1 h.2 (f+jj) (by omega)]
 exact hy
end
abbrev Jb9 (c:Room):Value:=.agg #[c.pls.v,c.ths.v,c.prs.v,c.wys.v,c.acs.v,c.aus.v,.int .i64 c.ply,c.gl.v]
theorem Jhe {c d:Room} (h:Jb9 c=Jb9 d):(c.pls.v=d.pls.v∧c.ths.v=d.ths.v∧c.prs.v=d.prs.v∧c.wys.v=d.wys.v)∧c.acs.v=d.acs.v∧c.aus.v=d.aus.v∧c.ply=d.ply∧c.gl.v=d.gl.v:=by
 simp only [Jb9,Value.agg.injEq,Array.mk.injEq,List.cons.injEq,Value.int.injEq,true_and,and_true] at h
 obtain ⟨h1,h2,h3,h4,h5,h6,h7,h8⟩:=h
 exact ⟨⟨h1,h2,h3,h4⟩,h5,h6,h7,h8⟩
theorem Jwg (G:Game) (w:World) (hG:GameOk w G) (hn:NearG G) :
  Calls Tryz.prog 10 #[.agg #[G.rm.pls.v,G.rm.ths.v,G.rm.prs.v,G.rm.wys.v,G.rm.acs.v,G.rm.aus.v,.int .i64 G.rm.ply,G.rm.gl.v,G.lks.v,G.cds.v,G.nts.v,.int .i64 G.tr]] w (Jy7 w G):=by
 have klk:=hG.lks
 have llk:=hG.lks.le
 have kcd:=hG.cds
 have lcd:=hG.cds.le
 have knt:=hG.nts
 have lnt:=hG.nts.le
 have kpl:=hG.rm.pls
 have lpl:=hG.rm.pls.le
 have kth:=hG.rm.ths
 have lth:=hG.rm.ths.le
 have kac:=hG.rm.acs
 have lac:=hG.rm.acs.le
 have n1:=hn.lks
 have n2:=hn.cds
 have n3:=hn.nts
 have hnr:=hn.rm
 refine enter Tryz.func10 rfl rfl (Nat.le_of_ble_eq_true rfl) ?_
 refine Nz 0 ?_
 refine Wb 0 rfl rfl (fun _=>rfl) (fun _=>rfl) fun b1 hb1=>?_
 refine Wl 0 zv36 (fun _=>rfl) (fun _=>rfl) fun b2 hb2=>?_
 refine Wd (Qc (Cs ?_))
 refine CS.drawnAll (k:=16) mixed rfl rfl ?_
 refine Ar [0] ?_
 refine Ak 1 [4] rfl (by first | exact Jac (j:=1) rfl rfl tk31 | exact Jab (j:=1) rfl rfl (by rfl) tk31 | exact Jai rfl (by assumption) (by rfl) tk31 | exact Jad (n:=8) (j:=1) rfl rfl rfl rfl tk31) ?_
 refine Ak 5 [8] rfl (by first | exact Jaa (j:=1) rfl rfl rfl tk32 | exact Jaf rfl (by assumption) rfl tk32) ?_
 refine Ak 9 [11] rfl (by first | exact Jaa (j:=1) rfl rfl rfl tk34 | exact Jaf rfl (by assumption) rfl tk34) ?_
 refine Ak 12 [] rfl (by first | exact Jaa (j:=1) rfl rfl rfl tk3 | exact Jaf rfl (by assumption) rfl tk3) ?_
 refine AS.many (nn:=7) (L':=fun vs=>[(exS fun c:Room=>star [fact (c.e=G.rm.e∧(vs 2)=Jb9 c),roS fun u=>RoomOk u c]),oT cLock 90 (vs 6) G.lks.l,oT cNote 94 (vs 10) G.nts.l,blk (ptrB (vs 14)) [.slice none 0 0,.slice none 0 0,.slice none 0 0,.slice none 0 0,.slice none 0 0,.slice none 0 0,.int .i64 0,.slice none 0 0,.slice none 0 0,.slice none 0 0,.slice none 0 0,.int .i64 0] 36,blk b2 [.slice none 0 0,.slice none 0 0,.slice none 0 0,.slice none 0 0,.slice none 0 0,.slice none 0 0,.int .i64 0,.slice none 0 0,.slice none 0 0,.slice none 0 0,.slice none 0 0,.int .i64 0] 36,blk b1 [G.rm.pls.v,G.rm.ths.v,G.rm.prs.v,G.rm.wys.v,G.rm.acs.v,G.rm.aus.v,.int .i64 G.rm.ply,G.rm.gl.v,G.lks.v,G.cds.v,G.nts.v,.int .i64 G.tr] 36]) [2,3,6,7,10,13,14] (fun i=>match i with | 2=>8 | 3=>9 | 6=>12 | 7=>13 | 10=>16 | 13=>19 | 14=>3 | _=>0) (fun i=>match i with | 6=>[3,2] | 10=>[7,6] | 13=>[2,6,10] | _=>[]) (fun i=>match i with | 6=>some 3 | 10=>some 7 | _=>none) (fun i v=>match i with | 2=>[(exS fun c:Room=>star [fact (c.e=G.rm.e∧v=Jb9 c),roS fun u=>RoomOk u c])] | 3=>[osl 90 cLock.k v 0 []] | 6=>[osl 90 cLock.k v G.lks.l.length (Jas cLock G.lks.l)] | 7=>[osl 94 cNote.k v 0 []] | 10=>[osl 94 cNote.k v G.nts.l.length (Jas cNote G.nts.l)] | 14=>[blk (ptrB v) [.slice none 0 0,.slice none 0 0,.slice none 0 0,.slice none 0 0,.slice none 0 0,.slice none 0 0,.int .i64 0,.slice none 0 0,.slice none 0 0,.slice none 0 0,.slice none 0 0,.int .i64 0] 36] | _=>[]) (fun i vs=>match i with | 2=>∃ c:Room,vs 2=Jb9 c∧c.e=G.rm.e∧∃ u0,RoomOk u0 c | 6=>(vs 6).oneCell'=true | 10=>(vs 10).oneCell'=true | 13=>∃ c:Room,vs 2=Jb9 c∧vs 13 = .agg #[c.pls.v,c.ths.v,c.prs.v,c.wys.v,c.acs.v,c.aus.v,.int .i64 c.ply,c.gl.v,vs 6,.slice none 0 0,vs 10,.int .i64 G.tr] | 14=>∃ b,vs 14 = .pointer (some ⟨b,0,none⟩) | _=>True) (by kernel_rfl) (by decide) rfl rfl (by first | exact fun _ h=>h | exact fun _ h=>h.sub (by repeat first | exact List.Sublist.refl _ | apply List.Sublist.cons_cons | apply List.Sublist.cons)) ?_ (fun _=>rfl) (fun _=>rfl) ?_ ?_
 ·
  intro i hi vs vs' hv h
  simp only [List.mem_cons,List.not_mem_nil,or_false] at hi
  rcases hi with rfl | rfl | rfl | rfl | rfl | rfl | rfl
  ·
   have e:=fun j hj=>(hv j hj).symm; simp only [upd] at h ⊢; rw [e 2 (by decide)]; exact h
  ·
   trivial
  ·
   have e:=fun j hj=>(hv j hj).symm; simp only [upd] at h ⊢; rw [e 6 (by decide)]; exact h
  ·
   trivial
  ·
   have e:=fun j hj=>(hv j hj).symm; simp only [upd] at h ⊢; rw [e 10 (by decide)]; exact h
  ·
   have e:=fun j hj=>(hv j hj).symm; simp only [upd] at h ⊢; rw [e 13 (by decide),e 2 (by decide),e 6 (by decide),e 10 (by decide)]; exact h
  have e:=fun j hj=>(hv j hj).symm; simp only [upd] at h ⊢; rw [e 14 (by decide)]; exact h
 ·
  intro i hi o ho
  simp only [List.mem_cons,List.not_mem_nil,or_false] at hi
  rcases hi with rfl | rfl | rfl | rfl | rfl | rfl | rfl
  ·
   obtain rfl:=Option.some.inj ho -- ref.go:505
   intro Q vs l' M hn hd hb k
   refine Wc (l':=fun (c:Room)=>l'.set 8 (Jb9 c)) rfl (vs:=[.agg #[G.rm.pls.v,G.rm.ths.v,G.rm.prs.v,G.rm.wys.v,G.rm.acs.v,G.rm.aus.v,.int .i64 G.rm.ply,G.rm.gl.v]]) (by simp only [evs,(hb 7 (by decide)).trans rfl,evo]; rfl) J06 (fun u hu=>J0d G.rm u (hG.rm.st hu) hnr) (fun v=>Jan _ _ _) ?_; rintro c ⟨hce,uc,hcok⟩; refine WS.done ?_; exact fun u hu=>k (Jb9 c) ⟨c,rfl,hce,uc,hcok⟩ u (St.exI (f:=fun c':Room=>star [fact (c'.e=G.rm.e∧Jb9 c=Jb9 c'),roS fun u=>RoomOk u c']) c (St.pack (L1:=[_,_]) (St.factI ⟨hce,rfl⟩ hu)))
  ·
   obtain rfl:=Option.some.inj ho -- ref.go:505
   intro Q vs l' M hn hd hb k
   refine WS.build0 sl32 zv90 (l':=fun v=>l'.set 9 v) (fun v=>Jan _ _ _) ?_; intro v; refine WS.done ?_; exact k v trivial
  ·
   obtain rfl:=Option.some.inj ho -- ref.go:505
   intro Q vs l' M hn hd hb k
   refine WS.append0 (j:=0) (news:=Jas cLock G.lks.l) (m:=G.lks.l.length) sl32 zv90 rfl (by decide) (hd 3 (by decide)).1 rfl ((hb 11 (by decide)).trans rfl) (fun u hu=>(hG.lks.st hu).sp) hG.lks.one (by omega) (by omega) (l':=fun v=>l'.set 12 v) (fun v=>Jan _ _ _) (fun _=>rfl) ?_; intro v; refine WS.oc (j:=0) rfl (fun hv=>?_); refine WS.done ?_; exact k v hv
  ·
   obtain rfl:=Option.some.inj ho -- ref.go:505
   intro Q vs l' M hn hd hb k
   refine WS.build0 sl34 zv94 (l':=fun v=>l'.set 13 v) (fun v=>Jan _ _ _) ?_; intro v; refine WS.done ?_; exact k v trivial
  ·
   obtain rfl:=Option.some.inj ho -- ref.go:505
   intro Q vs l' M hn hd hb k
   refine WS.append0 (j:=0) (news:=Jas cNote G.nts.l) (m:=G.nts.l.length) sl34 zv94 rfl (by decide) (hd 7 (by decide)).1 rfl ((hb 15 (by decide)).trans rfl) (fun u hu=>(hG.nts.st hu).sp) hG.nts.one (by omega) (by omega) (l':=fun v=>l'.set 16 v) (fun v=>Jan _ _ _) (fun _=>rfl) ?_; intro v; refine WS.oc (j:=0) rfl (fun hv=>?_); refine WS.done ?_; exact k v hv
  ·
   obtain rfl:=Option.some.inj ho -- ref.go:505
   intro Q vs l' M hn hd hb k
   have a2:l'[8]? = some (vs 2)∧(∃ c:Room,vs 2=Jb9 c∧c.e=G.rm.e∧∃ u0,RoomOk u0 c):=hd 2 (by decide)
   have a6:l'[12]? = some (vs 6)∧(vs 6).oneCell'=true:=hd 6 (by decide)
   have a10:l'[16]? = some (vs 10)∧(vs 10).oneCell'=true:=hd 10 (by decide)
   have a18:l'[18]? = some (.int .i64 G.tr):=(hb 18 (by decide)).trans rfl
   obtain ⟨a2,c,hc,hce,uc,hcok⟩:=a2
   obtain ⟨a6,c6⟩:=a6
   obtain ⟨a10,c10⟩:=a10
   have a2c:=a2.trans (congrArg some hc)
   refine WS.det rfl rfl rfl (Jay J08 zv36 (parts:=[(0,Jb9 c),(1,vs 6),(3,vs 10),(4,.int .i64 G.tr)]) (pcs:=[(0,[c.pls.v,c.ths.v,c.prs.v,c.wys.v,c.acs.v,c.aus.v,.int .i64 c.ply,c.gl.v]),(1,[vs 6]),(3,[vs 10]),(4,[.int .i64 G.tr])]) (by simp only [evp,evo,a2c,a6,a10,a18]) (CellsOf.agg (CellsOf.one c6 (CellsOf.one c10 (CellsOf.one rfl CellsOf.nil)))) rfl) (Jan _ _ _) ?_
   refine Wd ?_
   exact k _ ⟨c,hc,rfl⟩
  obtain rfl:=Option.some.inj ho -- ref.go:505
  intro Q vs l' M hn hd hb k
  refine WS.alloc (l':=fun b=>l'.set 3 (.pointer (some ⟨b,0,none⟩))) zv36 (fun v=>Jan _ _ _) ?_; intro b hbb; refine WS.done ?_; exact k _ ⟨b,rfl⟩
 intro vs hvs
 -- on
 obtain ⟨b3,hb3⟩:∃ b,vs 14 = .pointer (some ⟨b,0,none⟩):=hvs 14 (by decide)
 obtain ⟨c0,hc0,e13⟩:∃ c:Room,vs 2=Jb9 c∧vs 13 = .agg #[c.pls.v,c.ths.v,c.prs.v,c.wys.v,c.acs.v,c.aus.v,.int .i64 c.ply,c.gl.v,vs 6,.slice none 0 0,vs 10,.int .i64 G.tr]:=hvs 13 (by decide)
 obtain ⟨cc,hcc, -, uc,hcok⟩:∃ c:Room,vs 2=Jb9 c∧c.e=G.rm.e∧∃ u0,RoomOk u0 c:=hvs 2 (by decide)
 have c6:(vs 6).oneCell'=true:=hvs 6 (by decide)
 have c10:(vs 10).oneCell'=true:=hvs 10 (by decide)
 obtain ⟨⟨q1,q2,q3,q4⟩,q5,q6,q7,q8⟩:=Jhe (hcc.symm.trans hc0)
 have o1:=Sl.one hcok.pls
 have o2:=Sl.one hcok.ths
 have o3:=Sl.one hcok.prs
 have o4:=Sl.one hcok.wys
 have o5:=Sl.one hcok.acs
 have o6:=Sl.one hcok.aus
 have o7:=Sl.one hcok.gl
 rw [q1] at o1
 rw [q2] at o2
 rw [q3] at o3
 rw [q4] at o4
 rw [q5] at o5
 rw [q6] at o6
 rw [q8] at o7
 rw [e13,hb3]
 refine Ao 15 rfl ?_
 refine Wv 0 3 ?_
 refine Wd (Qa ?_)
 refine Ae ?_
 refine Qc (Cs (Nz 1 ?_))
 refine Wd (Qc (Ce ?_))
 refine CS.ex ?_; intro c
 refine CS.unpack ?_
 refine CS.factE (j:=0) rfl (fun hcf=>?_)
 obtain ⟨hce,hcv⟩:=hcf
 obtain ⟨⟨r1,r2,r3,r4⟩,r5,r6,r7,r8⟩:=Jhe (hc0.symm.trans hcv)
 rw [r1,r2,r3,r4,r5,r6,r7,r8]
 rw [r1] at o1
 rw [r2] at o2
 rw [r3] at o3
 rw [r4] at o4
 rw [r5] at o5
 rw [r6] at o6
 rw [r8] at o7
 refine CS.weak (L':=(roS fun u=>∀ x∈([]:List (Sl Int)),SlT cInt u x)::oT (cSl cInt) 42 (.slice none 0 0) []::_) (fun u hu=>St.roTrue (hu.osl0 (e:=42) (size:=1)) (p:=fun u=>∀ x∈([]:List (Sl Int)),SlT cInt u x) (fun u x h=>absurd h List.not_mem_nil)) ?_
 refine CS.sel [0,0,3,1,1,1,1,1] rfl ?_
 refine CS.loopM (σ:=Int × Value × List (Sl Int)) [20,21,22,23,24,25,26,27,28,29,30,31,32,33,34,35,36,37,38] (fun s=>[(4,.int .i64 s.1)]) (fun s=>[roS fun u=>∀ x∈s.2.2,SlT cInt u x,oT (cSl cInt) 42 s.2.1 s.2.2,oT cNote 94 (vs 10) G.nts.l,roS fun u=>RoomOk u c,oT cLock 90 (vs 6) G.lks.l,blk b3 [c.pls.v,c.ths.v,c.prs.v,c.wys.v,c.acs.v,c.aus.v,.int .i64 c.ply,c.gl.v,vs 6,s.2.1,vs 10,.int .i64 G.tr] 36,blk b2 [.slice none 0 0,.slice none 0 0,.slice none 0 0,.slice none 0 0,.slice none 0 0,.slice none 0 0,.int .i64 0,.slice none 0 0,.slice none 0 0,.slice none 0 0,.slice none 0 0,.int .i64 0] 36,blk b1 [G.rm.pls.v,G.rm.ths.v,G.rm.prs.v,G.rm.wys.v,G.rm.acs.v,G.rm.aus.v,.int .i64 G.rm.ply,G.rm.gl.v,G.lks.v,G.cds.v,G.nts.v,.int .i64 G.tr] 36]) (fun s=>0≤s.1∧s.1≤G.cds.l.length∧s.2.2.map Sl.l=(G.cds.l.take s.1.toNat).map Sl.l) (fun s=>(G.cds.l.length - s.1).toNat) (0,.slice none 0 0,[]) (fun _ _=>rfl) rfl rfl ⟨by simp,by simp,by simp⟩ ?_
 intro a t hs
 obtain ⟨ha1,ha2,ha3⟩:=hs
 have htl:=List.length_take_le a.1.toNat G.cds.l
 have hal:a.2.2.length=(G.cds.l.take a.1.toNat).length:=by simpa using congrArg List.length ha3
 refine Cs (Nz 2 ?_)
 refine Wk 0 (by first | exact Jaa (j:=7) rfl rfl rfl tk33 | exact Jaf rfl (by assumption) rfl tk33) ?_
 refine Wk 1 Nc ?_
 refine Wd (Qc (CS.cond rfl ?_ ?_))<;>intro hc1<;>try simp only [bq] at hc1
 ·
  have hcd:SlT cInt w (nth G.cds.l a.1):=hG.cds.at ha1 (by omega)
  have hcl:=hn.cd _ (Jak (i:=a.1) (xs:=G.cds.l) ha1 (by omega))
  refine Ck (Qc (Cs (Ce ?_)))
  refine CS.drawnTill 10 (k:=13) mixed rfl rfl ?_
  refine Tr 13 [0] ?_
  refine Tk 13 1 [3] rfl (by first | exact Jaa (j:=5) rfl rfl rfl tk33 | exact Jaf rfl (by assumption) rfl tk33) ?_
  refine Tk 13 4 [5] rfl (by first | exact Jaa (j:=7) rfl rfl rfl tk33 | exact Jaf rfl (by assumption) rfl tk33) ?_
  refine Tk 13 6 [] rfl Xc ?_
  refine Tk 13 7 [] rfl (by first | exact Jl9 rfl (by assumption) rfl ⟨(by omega),(by omega)⟩ rfl tk42 | exact Ji3 (jj:=0) rfl rfl rfl rfl ⟨(by omega),(by omega)⟩ rfl tk42 | exact Ji3 (jj:=3) rfl rfl rfl rfl ⟨(by omega),(by omega)⟩ rfl tk42) ?_
  refine To 2 rfl ?_
  refine WS.build0 sl42 zv3 (fun _=>rfl) ?_; intro v29
  refine Wd (Qt ?_)
  refine To 8 rfl ?_
  refine WS.append0 (j:=0) (news:=Jas cInt (nth G.cds.l a.1).l) (m:=(nth G.cds.l a.1).l.length) sl42 zv3 rfl (by decide) rfl rfl rfl (fun u hu=>(hcd.st hu).sp) hcd.one (by omega) (by omega) (fun _=>rfl) (fun _=>rfl) ?_; intro v35; refine WS.oc (j:=0) rfl (fun hv35=>?_)
  refine Wd (Qt ?_)
  refine To 9 rfl ?_
  refine WS.buildSlice1 sl33 zv42 (vs:=[v35]) rfl rfl (by decide) (fun v h=>by simp at h; subst h; exact hv35) (fun _=>rfl) ?_; intro v36
  refine Wd (Qt ?_)
  refine To 10 rfl ?_
  refine WS.appendT2 (C:=cSl cInt) (a:=⟨v35,(nth G.cds.l a.1).l⟩) (j:=3) (jz:=0) sl33 zv42 rfl (by decide) rfl rfl rfl rfl (fun v h=>by simp [cSl] at h; subst h; exact hv35) (by omega) (by omega) (fun _=>rfl) (fun _=>rfl) ?_; intro v37 hv37
  refine Wd (Qt ?_)
  refine To 11 rfl ?_
  refine Wz 1 ?_
  refine Wd (Qt ?_)
  refine To 12 rfl ?_
  refine Ws 0 7 ?_
  refine Wd (Qt ?_)
  refine Te ?_
  refine Qb (Qc (Ny 1 ?_))
  refine Wk 1 Za ?_
  refine Wd ?_
  refine QS.sel [1,1,1,1,1,1,1,1,1] rfl ?_
  refine QS.weak (L':=(roS fun u=>∀ x∈a.2.2++[(⟨v35,(nth G.cds.l a.1).l⟩:Sl Int)],SlT cInt u x)::_) (fun u hu=>St.ro2 (A:=osl 3 1 v35 (nth G.cds.l a.1).l.length (Jas cInt (nth G.cds.l a.1).l)) (p:=fun u=>SlT cInt u ⟨v35,(nth G.cds.l a.1).l⟩) (fun S u h=>⟨Jba h.2,fun _ _=>trivial⟩) (fun S u h=>roS.now h) (fun u hp hq x hx=>by rcases List.mem_append.1 hx with h | h; exact hq x h; rw [List.mem_singleton.1 h]; exact hp) hu) ?_
  exact QS.head ((a.1+1,v37,a.2.2++[⟨v35,(nth G.cds.l a.1).l⟩])) rfl rfl ⟨⟨by simp; omega,by simp; omega,by show (a.2.2++[_]).map Sl.l=_; rw [List.map_append,ha3, ← Jjb Sl.l ha1 (by omega:a.1 < G.cds.l.length)]; rfl⟩,by simp; omega⟩
 have hae:a.2.2.map Sl.l=G.cds.l.map Sl.l:=by rw [ha3,List.take_of_length_le (by omega)]
 refine Cv (Qe (Qe (Qx (Qc (Cs (Nz 1 ?_))))))
 refine Wd (Qc (Ce ?_))
 refine CS.oc (j:=1) rfl (fun hcdv=>?_)
 refine CS.weak (L':=(roS fun u=>∀ j:Int,0≤j→j < (0:Int)→cNote.ok u (nth G.nts.l j))::_) (fun u hu=>St.roTrue hu (p:=fun u=>∀ j:Int,0≤j→j < (0:Int)→cNote.ok u (nth G.nts.l j)) fun u j a b=>by omega) ?_
 refine CS.sel [0,2,0,0,0,0,0,0,0] rfl ?_
 refine CS.loopM (σ:=Int × List NoteD) [39,40,41,42,43,44,45,46,47,48,49,50,51,52,53,54,55,56,57,58,59,60,61,62,63,64,65,66,67,68,69,70] (fun s=>[(5,.int .i64 s.1)]) (fun s=>[roS fun u=>∀ j:Int,0≤j→j < s.1→cNote.ok u (nth s.2 j),oT cNote 94 (vs 10) s.2,roS fun u=>∀ x∈a.2.2,SlT cInt u x,oT (cSl cInt) 42 a.2.1 a.2.2,roS fun u=>RoomOk u c,oT cLock 90 (vs 6) G.lks.l,blk b3 [c.pls.v,c.ths.v,c.prs.v,c.wys.v,c.acs.v,c.aus.v,.int .i64 c.ply,c.gl.v,vs 6,a.2.1,vs 10,.int .i64 G.tr] 36,blk b2 [.slice none 0 0,.slice none 0 0,.slice none 0 0,.slice none 0 0,.slice none 0 0,.slice none 0 0,.int .i64 0,.slice none 0 0,.slice none 0 0,.slice none 0 0,.slice none 0 0,.int .i64 0] 36,blk b1 [G.rm.pls.v,G.rm.ths.v,G.rm.prs.v,G.rm.wys.v,G.rm.acs.v,G.rm.aus.v,.int .i64 G.rm.ply,G.rm.gl.v,G.lks.v,G.cds.v,G.nts.v,.int .i64 G.tr] 36]) (fun s=>0≤s.1∧s.1≤G.nts.l.length∧s.2.map NoteD.p=G.nts.l.map NoteD.p∧∀ j:Int,s.1≤j→j < G.nts.l.length→nth s.2 j=nth G.nts.l j) (fun s=>(G.nts.l.length - s.1).toNat) (0,G.nts.l) (fun _ _=>rfl) rfl rfl ⟨by simp,by simp,rfl,fun _ _ _=>rfl⟩ ?_
 intro p t hs
 obtain ⟨hp1,hp2,hp3,hp4⟩:=hs
 have hlnp:=Jdy hp3
 refine Cs (Nz 2 ?_)
 refine Wk 0 (by first | exact Jaa (j:=6) rfl rfl rfl tk34 | exact Jaf rfl (by assumption) rfl tk34) ?_
 refine Wk 1 (Jb8 (j:=1) sl34 rfl rfl) ?_
 refine Wd (Qc (CS.cond rfl ?_ ?_))<;>intro hc2<;>try simp only [bq] at hc2
 ·
  have hnp:=hn.nt _ (Jak (i:=p.1) (xs:=G.nts.l) hp1 (by omega))
  have hel:=hp4 p.1 (by omega) (by omega)
  have hnk:cNote.ok w (nth p.2 p.1):=by rw [hel]; exact hG.nts.at hp1 (by omega)
  rw [← hel] at hnp
  have hwh:=hnk.1
  have hgv:=hnk.2
  refine Ck (Qc (Cs (Ce (Cs ?_))))
  refine CS.drawnTill 13 (k:=14) mixed rfl rfl ?_
  refine Tr 14 [0] ?_
  refine Tk 14 1 [2,4] rfl (by first | exact Jaa (j:=6) rfl rfl rfl tk34 | exact Jaf rfl (by assumption) rfl tk34) ?_
  refine Tk 14 5 [6] rfl (by first | exact Jaa (j:=6) rfl rfl rfl tk34 | exact Jaf rfl (by assumption) rfl tk34) ?_
  refine Tk 14 7 [8] rfl (Jax (j:=1) sl34 rfl rfl rfl rfl (by omega) (by omega)) ?_
  refine Tk 14 9 [] rfl (Jc5 11 3 (j:=1) rfl rfl rfl ⟨by omega,by omega⟩ (by decide) rfl tk29) ?_
  refine To 3 rfl ?_
  refine WS.build0 sl29 Jto (fun _=>rfl) ?_; intro v49
  refine Wd (Qt ?_)
  refine To 10 rfl ?_
  refine WS.append0 (j:=0) (news:=Jas cLit (nth p.2 p.1).wh.l) (m:=(nth p.2 p.1).wh.l.length) sl29 Jto rfl (by decide) rfl rfl rfl (fun u hu=>(hwh.st hu).sp) hwh.one (by omega) (by omega) (fun _=>rfl) (fun _=>rfl) ?_; intro v56; refine WS.oc (j:=0) rfl (fun hv56=>?_)
  refine Wd (Qt ?_)
  refine Tk 14 11 [12] rfl (Jax (j:=1) sl34 rfl rfl rfl rfl (by omega) (by omega)) ?_
  refine To 13 rfl ?_
  refine WS.storeTc (C:=cNote) 11 3 { nth p.2 p.1 with wh:=⟨v56,(nth p.2 p.1).wh.l⟩ } (j:=2) rfl rfl rfl ⟨by omega,by omega⟩ (by decide) rfl hv56 tk29 rfl rfl ?_
  refine Wd (Qt ?_)
  refine Te ?_
  refine Qc ?_
  refine CS.drawnTill 12 (k:=13) mixed rfl rfl ?_
  refine Tr 13 [0] ?_
  refine Tk 13 1 [2,3] rfl (by first | exact Jaa (j:=7) rfl rfl rfl tk34 | exact Jaf rfl (by assumption) rfl tk34) ?_
  refine Tk 13 4 [5] rfl (by first | exact Jaa (j:=7) rfl rfl rfl tk34 | exact Jaf rfl (by assumption) rfl tk34) ?_
  refine Tk 13 6 [7] rfl (Jax (j:=2) sl34 rfl rfl rfl rfl (by omega) (by rw [List.length_set]; omega)) ?_
  refine Tk 13 8 [] rfl (Jra (C:=cNote) (k:=11) 4 [.int .i64 (nth p.2 p.1).cl.k,.int .i64 (nth p.2 p.1).cl.a,.int .i64 (nth p.2 p.1).cl.b,.int .i64 (nth p.2 p.1).cl.n,.int .i64 (nth p.2 p.1).cl.m,(nth p.2 p.1).gv,.bool (nth p.2 p.1).cl.nt] (j:=2) rfl rfl rfl ⟨by omega,(by rw [List.length_set]; omega)⟩ (Nat.le_refl 11) (by rw [Jcd hp1 (by omega)]; rfl) tk92) ?_
  refine To 9 rfl ?_
  refine Wc rfl rfl J0y (fun u hu=>Joi (nth p.2 p.1).cl (nth p.2 p.1).gv u (hgv.st hu) (by omega)) (fun _=>rfl) ?_; rintro v68 ⟨hv68,u68,hg68⟩
  refine Wd (Qt ?_)
  refine Tk 13 10 [11] rfl (Jax (j:=2) sl34 rfl rfl rfl rfl (by omega) (by rw [List.length_set]; omega)) ?_
  refine To 12 rfl ?_
  refine WS.storeTn (C:=cNote) 11 4 (vs:=[.int .i64 (nth p.2 p.1).cl.k,.int .i64 (nth p.2 p.1).cl.a,.int .i64 (nth p.2 p.1).cl.b,.int .i64 (nth p.2 p.1).cl.n,.int .i64 (nth p.2 p.1).cl.m,v68,.bool (nth p.2 p.1).cl.nt]) { nth p.2 p.1 with wh:=⟨v56,(nth p.2 p.1).wh.l⟩,gv:=v68 } (j:=3) rfl rfl rfl ⟨by omega,(by rw [List.length_set]; omega)⟩ (Nat.le_refl 11) (Nat.zero_lt_succ 6) rfl (by (repeat (refine List.forall_mem_cons.2 ⟨by first | rfl | assumption,?_⟩)); exact fun _ h=>absurd h List.not_mem_nil) tk92 (by rw [Jcd hp1 (by omega)]; rfl) rfl ?_
  refine Wd (Qt ?_)
  refine Te ?_
  refine Qb (Qc (Ny 1 ?_))
  refine Wk 1 Za ?_
  refine Wd ?_
  refine QS.sel [1,0,0,0,0,0,0,0,0,0,0] rfl ?_
  refine QS.weak (L':=(roS fun u=>∀ j:Int,0≤j→j < p.1+1→cNote.ok u (nth (p.2.set p.1.toNat { nth p.2 p.1 with wh:=⟨v56,(nth p.2 p.1).wh.l⟩,gv:=v68 }) j))::_) (fun u hu=>St.ro2 (p:=fun u=>cNote.ok u { nth p.2 p.1 with wh:=⟨v56,(nth p.2 p.1).wh.l⟩,gv:=v68 }) (fun S u h=>roS.now h) (fun S u h=>roS.now h) (fun u hp hq=>Je9 (q:=fun u (x:NoteD)=>cNote.ok u x) hp1 (by omega) hp hq) (St.ro2 (A:=osl 206 3 v56 (nth p.2 p.1).wh.l.length (Jas cLit (nth p.2 p.1).wh.l)) (p:=fun u=>SlT cLit u ⟨v56,(nth p.2 p.1).wh.l⟩) (q:=fun u=>SlI u v68 (nth p.2 p.1).cl.g) (r:=fun u=>cNote.ok u { nth p.2 p.1 with wh:=⟨v56,(nth p.2 p.1).wh.l⟩,gv:=v68 }) (fun S u h=>⟨Jba h.2,fun _ _=>trivial⟩) (fun S u h=>roS.now h) (fun u hp hq=>⟨hp,hq⟩) hu)) ?_
  exact QS.head ((p.1+1,p.2.set p.1.toNat { nth p.2 p.1 with wh:=⟨v56,(nth p.2 p.1).wh.l⟩,gv:=v68 })) rfl (by simp only [List.set_set]) ⟨⟨by simp; omega,by simp; omega,by simp only; rw [Jcw NoteD.p hp1 (by omega) (by rfl)]; exact hp3,fun j a0 a1=>by
      simp only at a0
      rw [Ja9 hp1 (by omega) (by omega)]; exact hp4 j (by omega) a1⟩,by simp; omega⟩
 refine Cv (Qe (Qe (Qx (Qc (Nz 0 ?_)))))
 refine Wk 0 (by first | exact Jac (j:=6) rfl rfl tk36 | exact Jab (j:=6) rfl rfl (by rfl) tk36 | exact Jai rfl (by assumption) (by rfl) tk36 | exact Jad (n:=12) (j:=6) rfl rfl rfl rfl tk36) ?_
 refine Wv 0 7 ?_
 exact Wd (Qc (Cr (outR (resc rfl (Jau (j:=7) rfl rfl tk36)) (fun u hu=>(fun h2:RetF w _ (roS fun u=>GameOk u ⟨c,⟨vs 6,G.lks.l⟩,⟨a.2.1,a.2.2⟩,⟨vs 10,p.2⟩,G.tr⟩) _ u=>(⟨⟨c,⟨vs 6,G.lks.l⟩,⟨a.2.1,a.2.2⟩,⟨vs 10,p.2⟩,G.tr⟩,⟨by unfold Game.p; simp only [hce,hae,hp3],u,h2.now⟩,h2⟩:Jy7 w G _ u)) (retR (fun S u h=>⟨Star.ro (j:=4) rfl h,⟨Star.osl (j:=5) rfl h,fun _ _=>trivial⟩,⟨Star.osl (j:=3) rfl h,Star.ro (j:=2) rfl h⟩,⟨Star.osl (j:=1) rfl h,Jg2 (l:=p.2) (q:=fun u x=>cNote.ok u x) (i:=p.1) (by omega) (Star.ro (j:=0) rfl h)⟩⟩) u hu)))))
end Go.Proofs.YtbboikncaihafaaGreatDoor
