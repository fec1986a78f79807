/- Merged texts of this proof (walks and plain laws), printed by a program of the prover. -/
import Derived.Test.YtbboikncaihafaaGreatDoorXk
set_option maxHeartbeats 8000000
namespace Go.Proofs.YtbboikncaihafaaGreatDoor
open Go.RowKit Go.Proofs
set_option maxRecDepth 100000
set_option linter.unusedVariables false
set_option linter.unusedSimpArgs false
def Jb7 (r:Room) (f:Stt):Cel Stand:=⟨19,fun s=>[r.pls.v,r.ths.v,r.prs.v,r.wys.v,r.acs.v,r.aus.v,.int .i64 r.ply,r.gl.v,f.ths.v,f.prs.v,f.pls.v,s.z.ths.v,s.z.prs.v,s.z.pls.v,.int .i64 s.at_,.int .i64 s.bf,.int .i64 s.tk.k,.int .i64 s.tk.n,.int .i64 s.tk.a],fun u s=>SttOk u s.z∧∀ v∈[r.pls.v,r.ths.v,r.prs.v,r.wys.v,r.acs.v,r.aus.v,.int .i64 r.ply,r.gl.v,f.ths.v,f.prs.v,f.pls.v],v.oneCell'=true,fun _=>rfl,fun _ _ _ h hb=>⟨h.1.ext hb,h.2⟩,fun _ s h v hv=>by
 obtain ⟨p1,p2,p3⟩:=h.1.ones
 have hv2:v∈[r.pls.v,r.ths.v,r.prs.v,r.wys.v,r.acs.v,r.aus.v,.int .i64 r.ply,r.gl.v,f.ths.v,f.prs.v,f.pls.v]++[s.z.ths.v,s.z.prs.v,s.z.pls.v,.int .i64 s.at_,.int .i64 s.bf,.int .i64 s.tk.k,.int .i64 s.tk.n,.int .i64 s.tk.a]:=hv
 rcases List.mem_append.1 hv2 with h1 | h1
 ·
  exact h.2 v h1
 simp only [List.mem_cons,List.not_mem_nil,or_false] at h1
 rcases h1 with rfl | rfl | rfl | rfl | rfl | rfl | rfl | rfl
 ·
  exact p1
 ·
  exact p2
 ·
  exact p3
 all_goals rfl⟩
def EndOk (f:Stt) (ss:List Stand) (e:Int):Prop := -1≤e∧e < ss.length∧(0≤e→(nth ss e).at_=0∧(nth ss e).z.ths.l=f.ths.l∧(nth ss e).z.prs.l=f.prs.l)
theorem EndOk.snoc {f:Stt} {ss:List Stand} {e:Int} {y:Stand} (h:EndOk f ss e):EndOk f (ss++[y]) e:=by
 obtain ⟨h1,h2,h3⟩:=h
 refine ⟨h1,by simp; omega,fun h0=>?_⟩
 rw [Jco h0 h2]; exact h3 h0
section
variable {P:Program} {ro:Option Nat} {n0:Nat} {w0:World} {ds:List Deferred} {ops:Array Oper} {Q:Exit→Act→World→Prop} {L L1 L2:List SA} {rest:List Oper} {l:List Value} {u:World}
theorem WS.known {p:Prop} (h:∀ u,St n0 w0 L u→p) (k:p→WS P ro n0 w0 ds ops Q L rest l):WS P ro n0 w0 ds ops Q L rest l:=fun u hu=>k (h u hu) u hu
theorem Jtv {T F:SA} {e:TypeId} {a b c:Value} {xs ys zs:List Int} {at_ bf:Int} {tk:Task} (h:St n0 w0 (T::F::oints e a xs::oints e b ys::oints e c zs::L) u) :
  St n0 w0 (T::F::roS (fun u=>∀ x∈[(⟨⟨⟨a,xs⟩,⟨b,ys⟩,⟨c,zs⟩⟩,at_,bf,tk⟩:Stand)],SttOk u x.z)::L) u:=by
 have h1:St n0 w0 (oints e a xs::oints e b ys::oints e c zs::(T::F::L)) u:=h.perm (by
  refine (List.perm_append_comm (l₁:=[T,F]) (l₂:=[oints e a xs,oints e b ys,oints e c zs])).append_right L)
 have h2:=St.pack (L1:=[oints e a xs,oints e b ys,oints e c zs]) (L2:=T::F::L) h1
 have h3:St n0 w0 (roS (fun u=>∀ x∈[(⟨⟨⟨a,xs⟩,⟨b,ys⟩,⟨c,zs⟩⟩,at_,bf,tk⟩:Stand)],SttOk u x.z)::T::F::L) u:=St.toRo (fun S u h=>by
  intro x hx
  rw [List.mem_singleton.1 hx]
  exact ⟨(Star.oints (j:=0) rfl h.1).tree,(Star.oints (j:=1) rfl h.1).tree,(Star.oints (j:=2) rfl h.1).tree⟩) h2
 exact h3.perm ((List.perm_append_comm (l₁:=[_]) (l₂:=[T,F])).append_right L)
theorem Jv0 {e:TypeId} {ss:List Stand} {y:Stand} (h:St n0 w0 (roS (fun u=>∀ x∈ss,SttOk u x.z)::oints e y.z.ths.v y.z.ths.l::oints e y.z.prs.v y.z.prs.l::oints e y.z.pls.v y.z.pls.l::L) u) :
  St n0 w0 (roS (fun u=>∀ x∈ss++[y],SttOk u x.z)::L) u:=by
 have h2:=St.pack (L1:=[roS (fun u=>∀ x∈ss,SttOk u x.z),oints e y.z.ths.v y.z.ths.l,oints e y.z.prs.v y.z.prs.l,oints e y.z.pls.v y.z.pls.l]) (L2:=L) h
 refine St.toRo (fun S u h=>?_) h2
 intro x hx
 rcases List.mem_append.1 hx with hx | hx
 ·
  exact (Star.ro (j:=0) rfl h.1) x hx
 rw [List.mem_singleton.1 hx]
 exact ⟨(Star.oints (j:=1) rfl h.1).tree,(Star.oints (j:=2) rfl h.1).tree,(Star.oints (j:=3) rfl h.1).tree⟩
end
theorem Jo4 {r:Room} {f:Stt} {y:Stand} (h:∀ v∈[r.pls.v,r.ths.v,r.prs.v,r.wys.v,r.acs.v,r.aus.v,.int .i64 r.ply,r.gl.v,f.ths.v,f.prs.v,f.pls.v],v.oneCell'=true) (p1:y.z.ths.v.oneCell'=true) (p2:y.z.prs.v.oneCell'=true) (p3:y.z.pls.v.oneCell'=true):∀ v∈Jas (Jb7 r f) [y],v.oneCell'=true:=fun v hv=>by
 have hv2:v∈[r.pls.v,r.ths.v,r.prs.v,r.wys.v,r.acs.v,r.aus.v,.int .i64 r.ply,r.gl.v,f.ths.v,f.prs.v,f.pls.v]++([y.z.ths.v,y.z.prs.v,y.z.pls.v,.int .i64 y.at_,.int .i64 y.bf,.int .i64 y.tk.k,.int .i64 y.tk.n,.int .i64 y.tk.a]++[]):=hv
 rcases List.mem_append.1 hv2 with h1 | h1
 ·
  exact h v h1
 simp only [List.append_nil,List.mem_cons,List.not_mem_nil,or_false] at h1
 rcases h1 with rfl | rfl | rfl | rfl | rfl | rfl | rfl | rfl
 ·
  exact p1
 ·
  exact p2
 ·
  exact p3
 all_goals rfl
theorem Js8 (r:Room) (w:World) (hr:RoomOk w r) (g:Sl ByteArray) (hG:GOk w g) (hn:Near r) (z:Stt) (hz:SttOk w z) (hm:z.ths.l.length≤1000000∧z.prs.l.length≤1000000∧z.pls.l.length≤1000000) (hB:(BeginV r).1=0) (hS:stL r z.x=0) (hR:Ready r) (hl:Len3 r z.x) (hl2:Len3 r (BeginV r).2) (ht:Lib.TabIs Tryz.prog w "internal/strconv.uint64pow10" .u64 Lib.pow10Tab) :
  Calls Tryz.prog 14 #[.agg #[r.pls.v,r.ths.v,r.prs.v,r.wys.v,r.acs.v,r.aus.v,.int .i64 r.ply,r.gl.v],.agg #[z.ths.v,z.prs.v,z.pls.v]] w (fun e w'=>∃ x:Int × Sl Task,((x.1=0→List9 r (BeginV r).2 z.x x.2.l)∧∃ u0,SlT cTask u0 x.2)∧RetF w (.tuple #[x.2.v,.int .i64 x.1]) (roT cTask x.2) e w'):=by
 have o1:=Sl.one hr.pls
 have o2:=Sl.one hr.ths
 have o3:=Sl.one hr.prs
 have o4:=Sl.one hr.wys
 have o5:=Sl.one hr.acs
 have o6:=Sl.one hr.aus
 have o7:=Sl.one hr.gl
 obtain ⟨p1,p2,p3⟩:=hz.ones
 have hRl:=hR.lens
 refine enter Tryz.func14 rfl rfl (Nat.le_of_ble_eq_true rfl) ?_
 refine Nz 0 ?_
 refine Wb 0 rfl rfl (fun _=>rfl) (fun _=>rfl) fun b2 hb2=>?_
 refine Wb 2 rfl rfl (fun _=>rfl) (fun _=>rfl) fun b3 hb3=>?_
 refine Wd (Qc (Nz 0 ?_))
 refine Wk 0 (by first | exact Jac (j:=1) rfl rfl tk31 | exact Jab (j:=1) rfl rfl (by rfl) tk31 | exact Jai rfl (by assumption) (by rfl) tk31 | exact Jad (n:=8) (j:=1) rfl rfl rfl rfl tk31) ?_
 refine Wk 0 (by first | exact Jac (j:=0) rfl rfl tk44 | exact Jab (j:=0) rfl rfl (by rfl) tk44 | exact Jai rfl (by assumption) (by rfl) tk44 | exact Jad (n:=3) (j:=0) rfl rfl rfl rfl tk44) ?_
 refine Wc rfl rfl Jxv (fun u hu=>Jjw r u (hr.st hu) g (hG.st hu) hn z (hz.st hu) hm hB hS) (fun _=>rfl) ?_; rintro ⟨kb,f,a,b,c⟩ ⟨⟨hfx,uf,hfok⟩,oa,ob,oc⟩
 dsimp only at hfx hfok oa ob oc
 rewrite [← hfx]
 replace hl2:Len3 r f.x:=hfx ▸ hl2
 obtain ⟨f1,f2,f3⟩:=hfok.ones
 have hOne:∀ v∈[r.pls.v,r.ths.v,r.prs.v,r.wys.v,r.acs.v,r.aus.v,.int .i64 r.ply,r.gl.v,f.ths.v,f.prs.v,f.pls.v],v.oneCell'=true:=by intro v hv; simp only [List.mem_cons,List.not_mem_nil,or_false] at hv; rcases hv with rfl | rfl | rfl | rfl | rfl | rfl | rfl | rfl | rfl | rfl | rfl <;> first | assumption | rfl
 refine WS.unpack ?_
 refine WS.weak (fun u hu=>Jtv (at_:=0) (bf := -1) (tk:=⟨0,0,0⟩) hu) ?_
 refine Wz 5 ?_
 refine Wd (Qc (Cs (Nz 2 ?_)))
 refine Wd (Qc (CS.cond rfl ?_ ?_))<;>intro hc1<;>try simp only [bq] at hc1
 ·
  exact absurd trivial hc1
 refine Ck (Qc (Nz 0 ?_))
 refine Wk 0 (by first | exact Jac (j:=4) rfl rfl tk31 | exact Jab (j:=4) rfl rfl (by rfl) tk31 | exact Jai rfl (by assumption) (by rfl) tk31 | exact Jad (n:=8) (j:=4) rfl rfl rfl rfl tk31) ?_
 refine Wc rfl rfl J09 (fun u hu=>Jw4 r u (hr.st hu) hR) (fun _=>rfl) ?_; rintro ks ⟨hks,uk,hkok⟩
 refine Wz 1 ?_
 refine Wd (Qc (Nz 1 ?_))
 refine Wd (Qc (Nz 2 ?_))
 refine Wk 0 (Bc 1) ?_
 refine Wk 0 (Db Jmc Jfo) ?_
 refine Wk 0 (Jay Jus Jpo (pcs:=[(0,[r.pls.v,r.ths.v,r.prs.v,r.wys.v,r.acs.v,r.aus.v,.int .i64 r.ply,r.gl.v,f.ths.v,f.prs.v,f.pls.v,a,b,c,.int .i64 0]),(1,[.int .i64 (-1)]),(2,[.int .i64 0,.int .i64 0,.int .i64 0])]) rfl (CellsOf.agg (CellsOf.one rfl (CellsOf.agg CellsOf.nil))) rfl) ?_
 refine WS.buildT1 (Jb7 r f) (a:=(⟨⟨⟨a,z.ths.l⟩,⟨b,z.prs.l⟩,⟨c,z.pls.l⟩⟩,0, -1,⟨0,0,0⟩⟩:Stand)) Jji Jpo rfl (show 0 < 19∧19≤1000 by decide) (fun _=>rfl) ?_; intro v38
 refine Wz 1 ?_
 refine Wd (Qc (Nz 0 ?_))
 refine WS.makeMapS (fun _=>rfl) ?_; intro b39 hb39
 refine Wz 3 ?_
 refine Wk 0 (Bc 3) ?_
 refine WS.callE (β:=ByteArray) (p:=fun _=>True) (v:=fun t=>.string t) rfl rfl Jvo (fun u hu=>Jwv r u (hr.st hu) f ⟨⟨a,z.ths.l⟩,⟨b,z.prs.l⟩,⟨c,z.pls.l⟩⟩ 0 (hu.ro (j:=5) rfl _ (List.mem_singleton.2 rfl)) (Jol ht hu) (by decide) hl hR) (fun _=>rfl) ?_; rintro t44 -
 refine WS.insS Tryz.underlying126 Tryz.underlying9 rfl (j:=0) rfl rfl rfl ?_
 refine Wz 2 ?_
 refine Wd (Qc (Nz 1 ?_))
 refine Wd (Qc (Cs (Nz 1 ?_)))
 refine Wd (Qc (Ce ?_))
 refine CS.sel [1,4,0,0,1] rfl ?_
 refine CS.loopM (σ:=Int × Int × Value × List Stand) [4,5,14,16,17,18,19,46,47,48,49,50,51,52,53,54,55,56,57,58,59,60,61,62,63,64,65,66,67,68,69,70,71,72,73,74,75,76,77,78,79,80,81,82,83,84,85,86,87,88,89,90,91,92,93,94,95,96,97,98,99,100,101,102,103,104,105,106,107,108,109] (fun s=>[(13,.int .i64 s.1),(12,.int .i64 s.2.1),(10,s.2.2.1)]) (fun s=>[oT (Jb7 r f) 124 s.2.2.1 s.2.2.2,roS fun u=>∀ x∈s.2.2.2,SttOk u x.z,mapS b39,roT cTask ks,roS fun u=>SttOk u f]) (fun s=>0≤s.1∧s.1≤s.2.2.2.length∧s.2.2.2.length≤4000∧Reach r f.x z.x s.2.2.2∧EndOk f s.2.2.2 s.2.1) (fun s=>(4000 - s.1).toNat) (0, -1,v38,[(⟨⟨⟨a,z.ths.l⟩,⟨b,z.prs.l⟩,⟨c,z.pls.l⟩⟩,0, -1,⟨0,0,0⟩⟩:Stand)]) (fun _ _=>rfl) rfl rfl ⟨by simp,by simp,by simp,Reach.one (s:=(⟨⟨⟨a,z.ths.l⟩,⟨b,z.prs.l⟩,⟨c,z.pls.l⟩⟩,0, -1,⟨0,0,0⟩⟩:Stand)) hl rfl,by unfold EndOk; simp⟩ ?_
 intro a t hs
 obtain ⟨ha1,ha2,ha3,ha4,ha5⟩:=hs
 have hend1:=ha5.1
 have hend2:=ha5.2.1
 refine Cs (Nz 2 ?_)
 refine Wk 1 (Jb8 (C:=Jb7 r f) (j:=0) Jji rfl rfl) ?_
 refine Wd (Qc (CS.cond rfl ?_ ?_))<;>intro hc2<;>try simp only [bq] at hc2
 ·
  have ham:(nth a.2.2.2 a.1)∈a.2.2.2:=Jak ha1 (by omega)
  refine Ck (Qc (Cs (Ce (Nz 2 ?_))))
  refine Wk 1 (Jax (C:=Jb7 r f) (j:=0) Jji rfl rfl rfl rfl (by omega) (by omega)) ?_
  refine Wk 0 (Jjs (C:=Jb7 r f) (j:=0) 19 0 15 (cs:=[r.pls.v,r.ths.v,r.prs.v,r.wys.v,r.acs.v,r.aus.v,.int .i64 r.ply,r.gl.v,f.ths.v,f.prs.v,f.pls.v,(nth a.2.2.2 a.1).z.ths.v,(nth a.2.2.2 a.1).z.prs.v,(nth a.2.2.2 a.1).z.pls.v,.int .i64 (nth a.2.2.2 a.1).at_]) rfl rfl rfl ⟨by omega,by omega⟩ rfl rfl Jd7) ?_
  refine WS.known (fun u hu=>(hu.ro (j:=1) rfl _ ham).ones) fun ⟨o8,o9,o10⟩=>?_
  refine WS.alloc Jwn (fun _=>rfl) ?_; intro b14 hb14
  refine Wv 0 0 ?_
  refine Wd (Qc ?_)
  refine CS.cut (σ:=Int) [57,58,59,60,61,62,63,64,65,66,67] (fun s=>[(12,.int .i64 s)]) (fun s=>[oT (Jb7 r f) 124 a.2.2.1 a.2.2.2,roS fun u=>∀ x∈a.2.2.2,SttOk u x.z,mapS b39,roT cTask ks,roS fun u=>SttOk u f,blk b14 [r.pls.v,r.ths.v,r.prs.v,r.wys.v,r.acs.v,r.aus.v,.int .i64 r.ply,r.gl.v,f.ths.v,f.prs.v,f.pls.v,(nth a.2.2.2 a.1).z.ths.v,(nth a.2.2.2 a.1).z.prs.v,(nth a.2.2.2 a.1).z.pls.v,.int .i64 (nth a.2.2.2 a.1).at_] 117]) (fun s=>EndOk f a.2.2.2 s) (fun _ _=>rfl) ?_ ?_
  ·
   refine Nz 3 ?_
   refine Wt 0 rfl rfl (fun hg=>Ff) ?_
   refine Wt 0 rfl rfl (fun hg=>by first | exact Jaa (j:=0) (eg_ hg rfl) rfl rfl tk3 | exact Jaf (eg_ hg rfl) (by assumption) rfl tk3) ?_
   refine Wt 0 rfl rfl (fun hg=>Fq) ?_
   refine Wk 1 Pa ?_
   refine Wt 0 rfl rfl (fun hg=>Cb rfl rfl Jyu (fun u hu=>Jnf r u (hr.st hu) f (nth a.2.2.2 a.1).z (nth a.2.2.2 a.1).at_ b14 _ (Jaw hu (j:=0) rfl) (hu.ro (j:=5) rfl) (hu.ro (j:=2) rfl _ ham))) ?_
   refine Wk 0 Pa ?_
   refine Wd (Qc (CS.cond rfl ?_ ?_))<;>intro hc3<;>try simp only [bq] at hc3
   ·
    have he9:(nth a.2.2.2 a.1).at_=0∧(nth a.2.2.2 a.1).z.ths.l=f.ths.l∧(nth a.2.2.2 a.1).z.prs.l=f.prs.l:=by grind
    refine Ny 2 ?_
    refine Wd ?_
    refine QS.sel [1,1,1,1,1,0] rfl ?_
    exact QS.head (a.1) rfl rfl ⟨by omega,by omega,fun _=>he9⟩
   refine Ck ?_
   refine QS.sel [1,1,1,1,1,0] rfl ?_
   exact QS.head (a.2.1) rfl rfl ha5
  intro e t hs
  refine Nz 1 ?_
  refine Wk 1 (Jds (s:=ks) sl55 rfl hkok) ?_
  refine Wd (Qc (Ce ?_))
  refine CS.loopM (σ:=Int × Value × List Stand) [4,5,16,17,18,19,71,72,73,74,75,76,77,78,79,80,81,82,83,84,85,86,87,88,89,90,91,92,93,94,95,96,97,98,99,100,101,102,103,104,105,106,107,108,109] (fun s=>[(70,.int .i64 s.1),(10,s.2.1)]) (fun s=>[oT (Jb7 r f) 124 s.2.1 s.2.2,roS fun u=>∀ x∈s.2.2,SttOk u x.z,mapS b39,roT cTask ks,roS fun u=>SttOk u f,blk b14 [r.pls.v,r.ths.v,r.prs.v,r.wys.v,r.acs.v,r.aus.v,.int .i64 r.ply,r.gl.v,f.ths.v,f.prs.v,f.pls.v,(nth a.2.2.2 a.1).z.ths.v,(nth a.2.2.2 a.1).z.prs.v,(nth a.2.2.2 a.1).z.pls.v,.int .i64 (nth a.2.2.2 a.1).at_] 117]) (fun s=>0≤s.1∧s.1≤ks.l.length∧a.1 < s.2.2.length∧s.2.2.length≤4000∧Reach r f.x z.x s.2.2∧nth s.2.2 a.1=(nth a.2.2.2 a.1)∧EndOk f s.2.2 e) (fun s=>(ks.l.length - s.1).toNat) (0,a.2.2.1,a.2.2.2) (fun _ _=>rfl) rfl rfl ⟨by simp,by simp,by omega,ha3,ha4,rfl,hs⟩ ?_
  intro q t hs
  obtain ⟨hq1,hq2,hq3,hq4,hq5,hq6,hq7⟩:=hs
  have hmem:(nth a.2.2.2 a.1)∈q.2.2:=by rw [← hq6]; exact Jak ha1 hq3
  have hlen:=ha4.len a.1 ha1 (by omega)
  obtain ⟨hlA,hplA,hatA⟩:=hlen
  have hmA:(nth a.2.2.2 a.1).z.ths.l.length≤1000000∧(nth a.2.2.2 a.1).z.prs.l.length≤1000000∧(nth a.2.2.2 a.1).z.pls.l.length≤1000000:=by
   have e1:(nth a.2.2.2 a.1).z.ths.l.length=r.ths.l.length:=hlA.th
   have e2:(nth a.2.2.2 a.1).z.prs.l.length=r.prs.l.length:=hlA.pr
   have e3:(nth a.2.2.2 a.1).z.pls.l.length=z.pls.l.length:=congrArg List.length hplA
   omega
  refine Nz 1 ?_
  refine Wd (Qc (Cs (CS.cond rfl ?_ ?_)))<;>intro hc4<;>try simp only [bq] at hc4
  ·
   refine Ck (Qc (Cs (Ce (Nz 0 ?_))))
   refine Wk 0 (Jip (s:=ks) sl55 rfl rfl hkok rfl (by omega) (by omega)) ?_
   refine Wk 0 (Va 3 rfl) ?_
   refine Wl 0 Jfo (fun _=>rfl) (fun _=>rfl) fun b16 hb16=>?_
   refine Wv 0 0 ?_
   refine Wd (Qc (Cs (Nz 0 ?_)))
   refine Wk 0 (by first | exact Jac (j:=0) rfl rfl Jcn | exact Jab (j:=0) rfl rfl (by rfl) Jcn | exact Jai rfl (by assumption) (by rfl) Jcn | exact Jad (n:=3) (j:=0) rfl rfl rfl rfl Jcn) ?_
   refine Wk 1 (Cb rfl rfl Jzv (fun u hu=>Jup r u (hr.st hu) g (hG.st hu) hn f (nth a.2.2.2 a.1).z (nth a.2.2.2 a.1).at_ b14 _ (Jaw hu (j:=6) rfl) (hu.ro (j:=5) rfl) (hu.ro (j:=2) rfl _ hmem) (nth ks.l q.1) hR hlA hl2)) ?_
   refine Wd (Qc (CS.cond rfl ?_ ?_))<;>intro hc5<;>try simp only [bq] at hc5
   ·
    refine Cv (Qe (Qx (Qc (Ny 0 ?_))))
    refine Wk 1 Za ?_
    refine Wd ?_
    refine QS.sel [1,1,1,1,1,1] rfl ?_
    exact QS.head ((q.1+1,q.2.1,q.2.2)) rfl rfl ⟨⟨by simp; omega,by simp; omega,hq3,hq4,hq5,hq6,hq7⟩,by simp; omega⟩
   have hcn:canT r f.x (nth a.2.2.2 a.1).z.x (nth a.2.2.2 a.1).at_ (nth ks.l q.1)=true:=by first | exact hc5 | simpa using hc5
   refine Ck (Qc (Nz 0 ?_))
   refine Wk 0 (by first | exact Jac (j:=6) rfl rfl Jd7 | exact Jab (j:=6) rfl rfl (by rfl) Jd7 | exact Jai rfl (by assumption) (by rfl) Jd7 | exact Jad (n:=15) (j:=6) rfl rfl rfl rfl Jd7) ?_
   refine Wl 0 Jwn (fun _=>rfl) (fun _=>rfl) fun b17 hb17=>?_
   refine Wv 0 0 ?_
   refine Wd (Qc (Nz 1 ?_))
   refine Wk 0 (by first | exact Jac (j:=7) rfl rfl tk44 | exact Jab (j:=7) rfl rfl (by rfl) tk44 | exact Jai rfl (by assumption) (by rfl) tk44 | exact Jad (n:=3) (j:=7) rfl rfl rfl rfl tk44) ?_
   refine Wc rfl rfl Jzl (fun u hu=>Jm4 (nth a.2.2.2 a.1).z u (hu.ro (j:=3) rfl _ hmem) hmA) (fun _=>rfl) ?_; rintro ⟨va,vb,vc⟩ ⟨ova,ovb,ovc⟩
   dsimp only at ova ovb ovc
   refine WS.unpack ?_
   refine Wz 1 ?_
   refine WS.storeP (j:=3) rfl rfl rfl rfl (by intro v hv; simp only [List.mem_cons,List.not_mem_nil,or_false] at hv; rcases hv with rfl | rfl | rfl <;> assumption) tk44 rfl rfl ?_
   refine Wd (Qc (Nz 0 ?_))
   refine Wk 0 (by first | exact Jac (j:=4) rfl rfl Jcn | exact Jab (j:=4) rfl rfl (by rfl) Jcn | exact Jai rfl (by assumption) (by rfl) Jcn | exact Jad (n:=3) (j:=4) rfl rfl rfl rfl Jcn) ?_
   refine WS.callS (β:=Unit) (p:=fun _=>True) (v:=fun _=>.tuple #[]) (L':=fun _=>[oT (Jb7 r f) 124 q.2.1 q.2.2,(roS fun u=>∀ x∈q.2.2,SttOk u x.z),mapS b39,roT cTask ks,blk b14 [r.pls.v,r.ths.v,r.prs.v,r.wys.v,r.acs.v,r.aus.v,.int .i64 r.ply,r.gl.v,f.ths.v,f.prs.v,f.pls.v,(nth a.2.2.2 a.1).z.ths.v,(nth a.2.2.2 a.1).z.prs.v,(nth a.2.2.2 a.1).z.pls.v,.int .i64 (nth a.2.2.2 a.1).at_] 117,blk b16 [.int .i64 (nth ks.l q.1).k,.int .i64 (nth ks.l q.1).n,.int .i64 (nth ks.l q.1).a] 122,blk b17 [r.pls.v,r.ths.v,r.prs.v,r.wys.v,r.acs.v,r.aus.v,.int .i64 r.ply,r.gl.v,f.ths.v,f.prs.v,f.pls.v,va,vb,vc,.int .i64 (doT r f.x (nth a.2.2.2 a.1).z.x (nth a.2.2.2 a.1).at_ (nth ks.l q.1)).2] 117,oints 3 va (doT r f.x (nth a.2.2.2 a.1).z.x (nth a.2.2.2 a.1).at_ (nth ks.l q.1)).1.1,oints 3 vb (doT r f.x (nth a.2.2.2 a.1).z.x (nth a.2.2.2 a.1).at_ (nth ks.l q.1)).1.2.1,oints 3 vc (doT r f.x (nth a.2.2.2 a.1).z.x (nth a.2.2.2 a.1).at_ (nth ks.l q.1)).1.2.2,roS fun u=>SttOk u f]) rfl rfl J0c (fun u hu=>Calls.mono (Jx5 r hr (star [oT (Jb7 r f) 124 q.2.1 q.2.2,(roS fun u=>∀ x∈q.2.2,SttOk u x.z),mapS b39,roT cTask ks,blk b14 [r.pls.v,r.ths.v,r.prs.v,r.wys.v,r.acs.v,r.aus.v,.int .i64 r.ply,r.gl.v,f.ths.v,f.prs.v,f.pls.v,(nth a.2.2.2 a.1).z.ths.v,(nth a.2.2.2 a.1).z.prs.v,(nth a.2.2.2 a.1).z.pls.v,.int .i64 (nth a.2.2.2 a.1).at_] 117,blk b16 [.int .i64 (nth ks.l q.1).k,.int .i64 (nth ks.l q.1).n,.int .i64 (nth ks.l q.1).a] 122]) f b17 va vb vc (nth a.2.2.2 a.1).z.x (nth a.2.2.2 a.1).at_ (nth ks.l q.1) hlA hl2 hcn ((St.pack (L1:=[oT (Jb7 r f) 124 q.2.1 q.2.2,(roS fun u=>∀ x∈q.2.2,SttOk u x.z),mapS b39,roT cTask ks,blk b14 [r.pls.v,r.ths.v,r.prs.v,r.wys.v,r.acs.v,r.aus.v,.int .i64 r.ply,r.gl.v,f.ths.v,f.prs.v,f.pls.v,(nth a.2.2.2 a.1).z.ths.v,(nth a.2.2.2 a.1).z.prs.v,(nth a.2.2.2 a.1).z.pls.v,.int .i64 (nth a.2.2.2 a.1).at_] 117,blk b16 [.int .i64 (nth ks.l q.1).k,.int .i64 (nth ks.l q.1).n,.int .i64 (nth ks.l q.1).a] 122]) (L2:=[blk b17 [r.pls.v,r.ths.v,r.prs.v,r.wys.v,r.acs.v,r.aus.v,.int .i64 r.ply,r.gl.v,f.ths.v,f.prs.v,f.pls.v,va,vb,vc,.int .i64 (nth a.2.2.2 a.1).at_] 117,oints 3 va (nth a.2.2.2 a.1).z.x.1,oints 3 vb (nth a.2.2.2 a.1).z.x.2.1,oints 3 vc (nth a.2.2.2 a.1).z.x.2.2,roS fun u=>SttOk u f]) (hu.sel [5,5,5,5,6,4,3,0,0,0,0] rfl)).sel [1,1,1,1,1,0] rfl)) fun e u2 h=>⟨(),trivial,h.1,((h.2.sel [5,0,0,0,0,0] rfl).unpack)⟩) (fun _=>rfl) ?_; rintro ⟨⟩ -
   have hlY:Len3 r (doT r f.x (nth a.2.2.2 a.1).z.x (nth a.2.2.2 a.1).at_ (nth ks.l q.1)).1:=hlA.doT hl2 hR hcn
   have hatY:AtB (doT r f.x (nth a.2.2.2 a.1).z.x (nth a.2.2.2 a.1).at_ (nth ks.l q.1)).2:=Juk hatA
   refine Wd (Qc (Cs (Nz 2 ?_)))
   refine Wk 0 (by first | exact Jac (j:=6) rfl rfl Jd7 | exact Jab (j:=6) rfl rfl (by rfl) Jd7 | exact Jai rfl (by assumption) (by rfl) Jd7 | exact Jad (n:=15) (j:=6) rfl rfl rfl rfl Jd7) ?_
   refine WS.callE (β:=ByteArray) (p:=fun _=>True) (v:=fun t=>.string t) rfl rfl Jvo (fun u hu=>Jwv r u (hr.st hu) f (⟨⟨va,(doT r f.x (nth a.2.2.2 a.1).z.x (nth a.2.2.2 a.1).at_ (nth ks.l q.1)).1.1⟩,⟨vb,(doT r f.x (nth a.2.2.2 a.1).z.x (nth a.2.2.2 a.1).at_ (nth ks.l q.1)).1.2.1⟩,⟨vc,(doT r f.x (nth a.2.2.2 a.1).z.x (nth a.2.2.2 a.1).at_ (nth ks.l q.1)).1.2.2⟩⟩:Stt) (doT r f.x (nth a.2.2.2 a.1).z.x (nth a.2.2.2 a.1).at_ (nth ks.l q.1)).2 ⟨(Jal hu (j:=7) rfl).tree,(Jal hu (j:=8) rfl).tree,(Jal hu (j:=9) rfl).tree⟩ (Jol ht hu) hatY (show Len3 r _ from hlY) hR) (fun _=>rfl) ?_; rintro t88 -
   refine WS.lookupS Tryz.underlying126 Tryz.underlying9 rfl rfl (j:=2) rfl rfl (fun _ _=>rfl) ?_; rintro n89 ok89
   refine Wz 5 ?_
   refine Wd (Qc (Nz 1 ?_))
   refine Wd (Qc (CS.cond rfl ?_ ?_))<;>intro hc6<;>try simp only [bq] at hc6
   ·
    refine Cv (Qe (Qx (Qc (Ny 0 ?_))))
    refine Wk 1 Za ?_
    refine Wd ?_
    refine QS.sel [0,0,0,0,6,0] rfl ?_
    exact QS.head ((q.1+1,q.2.1,q.2.2)) rfl rfl ⟨⟨by simp; omega,by simp; omega,hq3,hq4,hq5,hq6,hq7⟩,by simp; omega⟩
   refine Ck (Qc (Cs (Nz 1 ?_)))
   refine Wk 1 (Jb8 (C:=Jb7 r f) (j:=0) Jji rfl rfl) ?_
   refine Wd (Qc (CS.cond rfl ?_ ?_))<;>intro hc7<;>try simp only [bq] at hc7
   ·
    refine Nz 2 ?_
    exact Wd (Qc (Cr (Qr (Qs (Qr (Qr (Qs (Qs (Qr (Qr (Qs (Qr (out2 rfl rfl rfl (fun u hu=>⟨(2,⟨.slice none 0 0,[]⟩),⟨fun h=>absurd h (by decide),u,SlT.nil cTask u⟩,retR (fun S u h=>SlT.nil cTask u) u hu⟩))))))))))))))
   refine Ck (Qc (Nz 2 ?_))
   refine Wk 0 (by first | exact Jac (j:=6) rfl rfl Jd7 | exact Jab (j:=6) rfl rfl (by rfl) Jd7 | exact Jai rfl (by assumption) (by rfl) Jd7 | exact Jad (n:=15) (j:=6) rfl rfl rfl rfl Jd7) ?_
   refine WS.callE (β:=ByteArray) (p:=fun _=>True) (v:=fun t=>.string t) rfl rfl Jvo (fun u hu=>Jwv r u (hr.st hu) f (⟨⟨va,(doT r f.x (nth a.2.2.2 a.1).z.x (nth a.2.2.2 a.1).at_ (nth ks.l q.1)).1.1⟩,⟨vb,(doT r f.x (nth a.2.2.2 a.1).z.x (nth a.2.2.2 a.1).at_ (nth ks.l q.1)).1.2.1⟩,⟨vc,(doT r f.x (nth a.2.2.2 a.1).z.x (nth a.2.2.2 a.1).at_ (nth ks.l q.1)).1.2.2⟩⟩:Stt) (doT r f.x (nth a.2.2.2 a.1).z.x (nth a.2.2.2 a.1).at_ (nth ks.l q.1)).2 ⟨(Jal hu (j:=7) rfl).tree,(Jal hu (j:=8) rfl).tree,(Jal hu (j:=9) rfl).tree⟩ (Jol ht hu) hatY (show Len3 r _ from hlY) hR) (fun _=>rfl) ?_; rintro t99 -
   refine Wz 1 ?_
   refine Wk 0 (Jb8 (C:=Jb7 r f) (j:=0) Jji rfl rfl) ?_
   refine WS.updS Tryz.underlying126 Tryz.underlying9 rfl (j:=2) rfl rfl rfl ?_
   refine Wd (Qc (Ny 1 ?_))
   refine Wk 1 (by first | exact Jac (j:=6) rfl rfl Jd7 | exact Jab (j:=6) rfl rfl (by rfl) Jd7 | exact Jai rfl (by assumption) (by rfl) Jd7 | exact Jad (n:=15) (j:=6) rfl rfl rfl rfl Jd7) ?_
   refine Wk 0 (by first | exact Jac (j:=5) rfl rfl Jcn | exact Jab (j:=5) rfl rfl (by rfl) Jcn | exact Jai rfl (by assumption) (by rfl) Jcn | exact Jad (n:=3) (j:=5) rfl rfl rfl rfl Jcn) ?_
   refine Wk 0 (Jay Jus Jpo (pcs:=[(0,[r.pls.v,r.ths.v,r.prs.v,r.wys.v,r.acs.v,r.aus.v,.int .i64 r.ply,r.gl.v,f.ths.v,f.prs.v,f.pls.v,va,vb,vc,.int .i64 (doT r f.x (nth a.2.2.2 a.1).z.x (nth a.2.2.2 a.1).at_ (nth ks.l q.1)).2]),(1,[.int .i64 a.1]),(2,[.int .i64 (nth ks.l q.1).k,.int .i64 (nth ks.l q.1).n,.int .i64 (nth ks.l q.1).a])]) rfl (CellsOf.agg (CellsOf.one rfl (CellsOf.agg CellsOf.nil))) rfl) ?_
   refine WS.buildT1 (Jb7 r f) (a:=(⟨(⟨⟨va,(doT r f.x (nth a.2.2.2 a.1).z.x (nth a.2.2.2 a.1).at_ (nth ks.l q.1)).1.1⟩,⟨vb,(doT r f.x (nth a.2.2.2 a.1).z.x (nth a.2.2.2 a.1).at_ (nth ks.l q.1)).1.2.1⟩,⟨vc,(doT r f.x (nth a.2.2.2 a.1).z.x (nth a.2.2.2 a.1).at_ (nth ks.l q.1)).1.2.2⟩⟩:Stt),(doT r f.x (nth a.2.2.2 a.1).z.x (nth a.2.2.2 a.1).at_ (nth ks.l q.1)).2,a.1,nth ks.l q.1⟩:Stand)) Jji Jpo rfl (show 0 < 19∧19≤1000 by decide) (fun _=>rfl) ?_; intro v107
   refine WS.appendTs (C:=Jb7 r f) (s:=⟨v107,[(⟨(⟨⟨va,(doT r f.x (nth a.2.2.2 a.1).z.x (nth a.2.2.2 a.1).at_ (nth ks.l q.1)).1.1⟩,⟨vb,(doT r f.x (nth a.2.2.2 a.1).z.x (nth a.2.2.2 a.1).at_ (nth ks.l q.1)).1.2.1⟩,⟨vc,(doT r f.x (nth a.2.2.2 a.1).z.x (nth a.2.2.2 a.1).at_ (nth ks.l q.1)).1.2.2⟩⟩:Stt),(doT r f.x (nth a.2.2.2 a.1).z.x (nth a.2.2.2 a.1).at_ (nth ks.l q.1)).2,a.1,nth ks.l q.1⟩:Stand)]⟩) (j:=1) Jji Jpo rfl (show 0 < 19 by decide) rfl rfl rfl (fun u hu=>Jff (C:=Jb7 r f) (xs:=[(⟨(⟨⟨va,(doT r f.x (nth a.2.2.2 a.1).z.x (nth a.2.2.2 a.1).at_ (nth ks.l q.1)).1.1⟩,⟨vb,(doT r f.x (nth a.2.2.2 a.1).z.x (nth a.2.2.2 a.1).at_ (nth ks.l q.1)).1.2.1⟩,⟨vc,(doT r f.x (nth a.2.2.2 a.1).z.x (nth a.2.2.2 a.1).at_ (nth ks.l q.1)).1.2.2⟩⟩:Stt),(doT r f.x (nth a.2.2.2 a.1).z.x (nth a.2.2.2 a.1).at_ (nth ks.l q.1)).2,a.1,nth ks.l q.1⟩:Stand)]) hu (j:=0) rfl (fun x hx ↦ by rw [List.mem_singleton.1 hx]; exact ⟨⟨(Jal hu (j:=8) rfl).tree,(Jal hu (j:=9) rfl).tree,(Jal hu (j:=10) rfl).tree⟩,hOne⟩)) (Jo4 hOne ova ovb ovc) (by show _+1≤_; omega) (by show (_+1) * _≤_; omega) (fun _=>rfl) (fun _=>rfl) ?_; intro v108 hv108
   refine Wz 1 ?_
   refine Wd (Qb (Qc (Ny 0 ?_)))
   refine Wk 1 Za ?_
   refine Wd ?_
   refine QS.sel [2,7,7,7,1,1,1,4,1] rfl ?_
   refine QS.weak (L':=(roS fun u=>∀ x∈q.2.2++[(⟨(⟨⟨va,(doT r f.x (nth a.2.2.2 a.1).z.x (nth a.2.2.2 a.1).at_ (nth ks.l q.1)).1.1⟩,⟨vb,(doT r f.x (nth a.2.2.2 a.1).z.x (nth a.2.2.2 a.1).at_ (nth ks.l q.1)).1.2.1⟩,⟨vc,(doT r f.x (nth a.2.2.2 a.1).z.x (nth a.2.2.2 a.1).at_ (nth ks.l q.1)).1.2.2⟩⟩:Stt),(doT r f.x (nth a.2.2.2 a.1).z.x (nth a.2.2.2 a.1).at_ (nth ks.l q.1)).2,a.1,nth ks.l q.1⟩:Stand)],SttOk u x.z)::_) (fun u hu=>Jv0 (y:=(⟨(⟨⟨va,(doT r f.x (nth a.2.2.2 a.1).z.x (nth a.2.2.2 a.1).at_ (nth ks.l q.1)).1.1⟩,⟨vb,(doT r f.x (nth a.2.2.2 a.1).z.x (nth a.2.2.2 a.1).at_ (nth ks.l q.1)).1.2.1⟩,⟨vc,(doT r f.x (nth a.2.2.2 a.1).z.x (nth a.2.2.2 a.1).at_ (nth ks.l q.1)).1.2.2⟩⟩:Stt),(doT r f.x (nth a.2.2.2 a.1).z.x (nth a.2.2.2 a.1).at_ (nth ks.l q.1)).2,a.1,nth ks.l q.1⟩:Stand)) hu) ?_
   refine QS.sel [1,0,0,0,0,0] rfl ?_
   exact QS.head ((q.1+1,v108,q.2.2++[(⟨(⟨⟨va,(doT r f.x (nth a.2.2.2 a.1).z.x (nth a.2.2.2 a.1).at_ (nth ks.l q.1)).1.1⟩,⟨vb,(doT r f.x (nth a.2.2.2 a.1).z.x (nth a.2.2.2 a.1).at_ (nth ks.l q.1)).1.2.1⟩,⟨vc,(doT r f.x (nth a.2.2.2 a.1).z.x (nth a.2.2.2 a.1).at_ (nth ks.l q.1)).1.2.2⟩⟩:Stt),(doT r f.x (nth a.2.2.2 a.1).z.x (nth a.2.2.2 a.1).at_ (nth ks.l q.1)).2,a.1,nth ks.l q.1⟩:Stand)])) rfl rfl ⟨⟨by simp; omega,by simp; omega,by simp; omega,by simp; omega,hq5.snoc (y:=(⟨(⟨⟨va,(doT r f.x (nth a.2.2.2 a.1).z.x (nth a.2.2.2 a.1).at_ (nth ks.l q.1)).1.1⟩,⟨vb,(doT r f.x (nth a.2.2.2 a.1).z.x (nth a.2.2.2 a.1).at_ (nth ks.l q.1)).1.2.1⟩,⟨vc,(doT r f.x (nth a.2.2.2 a.1).z.x (nth a.2.2.2 a.1).at_ (nth ks.l q.1)).1.2.2⟩⟩:Stt),(doT r f.x (nth a.2.2.2 a.1).z.x (nth a.2.2.2 a.1).at_ (nth ks.l q.1)).2,a.1,nth ks.l q.1⟩:Stand)) hl2 hR ha1 hq3 rfl (by rw [hq6]; exact hcn) (by rw [hq6]; rfl),(Jco ha1 hq3).trans hq6,hq7.snoc⟩,by simp; omega⟩
  refine Cv (Qe (Qe (Qx (Qb (Qc (Ny 1 ?_))))))
  refine Wk 1 Za ?_
  refine Wd ?_
  refine QS.sel [0,0,0,0,0] rfl ?_
  exact QS.head ((a.1+1,e,q.2.1,q.2.2)) rfl rfl ⟨⟨by simp; omega,by show a.1+1≤(q.2.2.length:Int); omega,hq4,hq5,hq7⟩,by simp; omega⟩
 refine Cv (Qe (Qe (Qx (Qc (Cs (Nz 2 ?_))))))
 refine Wd (Qc (CS.cond rfl ?_ ?_))<;>intro hc8<;>try simp only [bq] at hc8
 ·
  refine Nz 2 ?_
  exact Wd (Qc (Cr (Qr (out2 rfl rfl rfl (fun u hu=>⟨(90,⟨.slice none 0 0,[]⟩),⟨fun h=>absurd h (by decide),u,SlT.nil cTask u⟩,retR (fun S u h=>SlT.nil cTask u) u hu⟩)))))
 refine Ck (Qc (Nz 1 ?_))
 refine Wd (Qc (Cs (Nz 2 ?_)))
 refine Wd (Qc (Ce ?_))
 refine CS.weak (fun _ hu=>hu.osl0 (e:=122) (size:=3)) ?_
 refine CS.sel [0,0,3] rfl ?_
 refine CS.loopM (σ:=Int × Value × List Task) [113,114,115,116,117,118,119,120,121,122,123,124,125,126,127] (fun s=>[(21,.int .i64 s.1),(20,s.2.1)]) (fun s=>[oT cTask 122 s.2.1 s.2.2,oT (Jb7 r f) 124 a.2.2.1 a.2.2.2,roS fun u=>SttOk u f]) (fun s=>0≤s.1∧s.1 < a.2.2.2.length∧(s.2.2.length:Int)+s.1≤4000∧Jfb r f.x (nth a.2.2.2 s.1).s s.2.2.reverse=some (nth a.2.2.2 a.2.1).s) (fun s=>s.1.toNat) (a.2.1,.slice none 0 0,[]) (fun _ _=>rfl) rfl rfl ⟨by omega,by omega,by simp; omega,rfl⟩ ?_
 intro p t hs
 obtain ⟨hp1,hp2,hp3,hp4⟩:=hs
 refine Cs (Nz 2 ?_)
 refine Wd (Qc (CS.cond rfl ?_ ?_))<;>intro hc9<;>try simp only [bq] at hc9
 ·
  have hbk:=ha4.back (i:=p.1) (by omega) (by omega) hp4
  have hst:=(ha4.step p.1 (by omega) (by omega)).1
  refine Ck (Qc (Cs (Ce (Ny 3 ?_))))
  refine Wk 1 (Jax (C:=Jb7 r f) (j:=1) Jji rfl rfl rfl rfl (by omega) (by omega)) ?_
  refine Wk 0 (Jjs (C:=Jb7 r f) (j:=1) 19 16 3 (cs:=[.int .i64 (nth a.2.2.2 p.1).tk.k,.int .i64 (nth a.2.2.2 p.1).tk.n,.int .i64 (nth a.2.2.2 p.1).tk.a]) rfl rfl rfl ⟨by omega,by omega⟩ rfl rfl Jcn) ?_
  refine WS.buildT1 cTask (a:=(nth a.2.2.2 p.1).tk) sl55 Jfo rfl (by decide) (fun _=>rfl) ?_; intro v126
  refine WS.appendT1 (C:=cTask) (a:=(nth a.2.2.2 p.1).tk) (j:=1) (jz:=0) sl55 Jfo rfl (by decide) rfl rfl rfl rfl (w:=w) trivial (by omega) (by omega) (fun _=>rfl) (fun _=>rfl) ?_; intro v127 hv127
  refine Wz 1 ?_
  refine Wd (Qb (Qc (Ny 2 ?_)))
  refine Wk 1 (Jax (C:=Jb7 r f) (j:=2) Jji rfl rfl rfl rfl (by omega) (by omega)) ?_
  refine Wk 1 (Jc5 (C:=Jb7 r f) (j:=2) 19 15 (y:=.int .i64 (nth a.2.2.2 p.1).bf) rfl rfl rfl ⟨by omega,by omega⟩ (by decide) rfl tk3) ?_
  refine Wd ?_
  refine QS.sel [1,1,1] rfl ?_
  exact QS.head (((nth a.2.2.2 p.1).bf,v127,p.2.2++[(nth a.2.2.2 p.1).tk])) rfl rfl ⟨⟨by show 0≤_; omega,by show (nth a.2.2.2 p.1).bf < _; omega,by show (((p.2.2++[_]).length:Nat):Int)+(nth a.2.2.2 p.1).bf≤_; simp; omega,hbk⟩,by show (nth a.2.2.2 p.1).bf.toNat < _; omega⟩
 have hp0:p.1=0:=by omega
 have he8:=ha5.2.2 (by omega)
 rw [hp0,ha4.first] at hp4
 have hfin:List9 r f.x z.x p.2.2.reverse:=⟨⟨(nth a.2.2.2 a.2.1).z.x,by rw [hp4]; unfold Stand.s; rw [he8.1],he8.2.1,he8.2.2⟩⟩
 refine Cv (Qe (Qe (Qx (Qc (Nz 1 ?_)))))
 refine WS.sel [0,1] rfl ?_
 refine WS.callS (β:=Unit) (p:=fun _=>True) (v:=fun _=>.tuple #[]) (L':=fun _=>[oT cTask 122 p.2.1 p.2.2.reverse,roS fun u=>SttOk u f]) rfl rfl J07 (fun u hu=>Calls.mono (J0n _ _ _ (by omega) hu) fun e u2 h=>⟨(),trivial,h.1,h.2⟩) (fun _=>rfl) ?_; rintro ⟨⟩ -
 refine Wd (Qc (Nz 3 ?_))
 exact Wd (Qc (Cr (out2 rfl rfl rfl (fun u hu=>⟨(0,⟨p.2.1,p.2.2.reverse⟩),⟨fun _=>hfin,u,Jff (C:=cTask) hu (j:=0) rfl (fun _ _=>trivial)⟩,retR (fun S u h=>⟨Star.osl (j:=0) rfl h,fun _ _=>trivial⟩) u hu⟩))))
end Go.Proofs.YtbboikncaihafaaGreatDoor
