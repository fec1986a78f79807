/- Merged texts of this proof (walks and plain laws), printed by a program of the prover. -/
import Derived.Test.YtkekjhcmephhjaaGreatDoorZk
set_option maxHeartbeats 8000000
namespace Go.Proofs.YtkekjhcmephhjaaGreatDoor
open Go.RowKit Go.Proofs
set_option maxRecDepth 100000
set_option linter.unusedVariables false
set_option linter.unusedSimpArgs false
theorem Jnh {ths:List Thing} {ws:Wds} (h:(0:Int) < ws.length→resB (nth ws 0)=true):Jfr ths ws=some ([],ws):=by rw [Jfr,Jdk h]; rfl
theorem Jnv {ths:List Thing} {bad b2:Bool} {ws w2:Wds} {a:Lit} (hm:Jhy bad ws=true) (h:Rel bad (litW ths false ws) a w2 b2) :
  (b2=false→Jfr ths ws=((Jfr ths w2).map fun x=>((⟨a.t,a.s⟩:Put)::x.1,x.2))∧ws.length=w2.length+1)∧(b2=true→Jfr ths ws=none):=by
 obtain ⟨h1,h2,h3⟩:=Jc4 hm
 have h5:=Jde h2
 refine ⟨fun hb=>?_,fun hb=>?_⟩
 ·
  have h4:=h.ok h1 hb
  rw [litW,h5] at h4
  cases hl:litT ths (nth ws 0) with
  | none=>simp [hl] at h4
  | some a' =>
   simp only [Option.bind_some,hl] at h4
   split at h4
   ·
    cases h4
   rename_i hnt
   simp only [Option.some.injEq,Prod.mk.injEq] at h4
   obtain ⟨rfl,rfl⟩:=h4
   have hnf:a'.nt=false:=by cases hn:a'.nt <;> simp [hn] at hnt; rfl
   refine ⟨?_,Jgj h5⟩
   rw [Jfr,Jfr,Jfy h5 h3 hl]
   cases Jbv ths ws.tail with
   | none=>rfl
   | some x =>
    simp only [Option.map_some,Option.bind_some,Jc8,hnf,Bool.false_eq_true,if_false]
    cases Jc8 x.1 <;> rfl
 have h4:=h.no h1 hb
 rw [litW,h5] at h4
 cases hl:litT ths (nth ws 0) with
 | none=>rw [Jfr,Jh1 h5 h3 hl]; rfl
 | some a' =>
  simp only [Option.bind_some,hl] at h4
  split at h4
  ·
   rename_i hnt
   have hn:a'.nt=true:=by cases hn:a'.nt <;> simp [hn] at hnt; rfl
   rw [Jfr,Jfy h5 h3 hl]
   cases Jbv ths ws.tail with
   | none=>rfl
   | some x=>simp [Jc8,hn]
  cases h4
def rm (rb:Nat) (r:Room):SA:=star (Jbo rb r)
theorem Jvs {n0:Nat} {w0 u:World} {lb rb:Nat} {s:RlS} {R:SA} (h:St n0 w0 [rl lb rb s,R] u):St n0 w0 [rm rb s.r,R] u :=
 St.pack (L1:=Jbo rb s.r) ((St.unpack (L1:=Jaj lb rb s) h).sel [2,2,2,2,2,2,2,2,2,2] rfl)
section
variable {P:Program} {n0:Nat} {w0:World} {L:List SA} {l:List Value} {d:Option Tmp} {ty:TypeId} {ps:String} {af:Array Edge} {g:Option (Nat × Bool)}
theorem Jkp {T:TypeId} {x:Operand} {lb rb i k:Nat} {s:RlS} {v:Value} (hx:evo l x=some (.pointer (some ⟨rb,i,none⟩))) (hv:(Room.cells s.r)[i]? = some v) (hT:tk P T=some (false,k)) :
 Det P (St n0 w0 (rl lb rb s::L)) ⟨d,.load T x,ty,ps,af,g⟩ l v:=fun u hu=>Jaa (L:=Jaj lb rb s++L) (j:=2) hx rfl hv hT u (St.unpack (L1:=Jaj lb rb s) hu)
end
theorem el4.prs {u:World} {r:Room} {x:Pro} (v:Value) (h:el4 r u) (hx:cPro.ok u x):el4 { r with prs:=⟨v,r.prs.l++[x]⟩ } u :=
 ⟨fun y hy=>by rcases List.mem_append.1 hy with hy | hy; exact h.1 y hy; (rw [List.mem_singleton] at hy; subst hy; exact hx),h.2⟩
theorem el4.wys {u:World} {r:Room} {x:Way} (v:Value) (h:el4 r u) (hx:cWay.ok u x):el4 { r with wys:=⟨v,r.wys.l++[x]⟩ } u :=
 ⟨h.1,fun y hy=>by rcases List.mem_append.1 hy with hy | hy; exact h.2.1 y hy; (rw [List.mem_singleton] at hy; subst hy; exact hx),h.2.2⟩
theorem el4.acs {u:World} {r:Room} {x:Actn} (v:Value) (h:el4 r u) (hx:cAct.ok u x):el4 { r with acs:=⟨v,r.acs.l++[x]⟩ } u :=
 ⟨h.1,h.2.1,fun y hy=>by rcases List.mem_append.1 hy with hy | hy; exact h.2.2.1 y hy; (rw [List.mem_singleton] at hy; subst hy; exact hx),h.2.2.2⟩
theorem el4.aus {u:World} {r:Room} {x:Auto} (v:Value) (h:el4 r u) (hx:cAuto.ok u x):el4 { r with aus:=⟨v,r.aus.l++[x]⟩ } u :=
 ⟨h.1,h.2.1,h.2.2.1,fun y hy=>by rcases List.mem_append.1 hy with hy | hy; exact h.2.2.2 y hy; (rw [List.mem_singleton] at hy; subst hy; exact hx)⟩
theorem Juu {n0:Nat} {w0 u:World} {L:List SA} {p a b c d e:World→Prop} {r:Room} (hr:∀ u,p u→a u→b u→c u→d u→e u→el4 r u) (h:St n0 w0 (roS p::roS a::roS b::roS c::roS d::roS e::L) u):St n0 w0 (roS (el4 r)::L) u :=
 St.roMap (fun u h=>hr u h.1.1.1.1.1 h.1.1.1.1.2 h.1.1.1.2 h.1.1.2 h.1.2 h.2) (St.roAnd (St.roAnd (St.roAnd (St.roAnd (St.roAnd h)))))
theorem Jb3 {r:Room} {t0:ByteArray} (ht:t0.size≤65536) {w:Sl ByteArray} (h:w.l <:+ Jaf 32 t0) (b:Bool):RlS.ok ⟨r,w,b⟩ :=
 ⟨fun y hy=>Nat.le_trans (Jdc (h.subset hy)) ht,Nat.le_trans h.length_le (Nat.le_trans (Jca _ _) (by omega))⟩
def Jzo (w:World) (R:SA) (rb:Nat) (r0:Room) (kd:Int) (t0:ByteArray):Ending→World→Prop :=
 RetX (β:=Room × Int) w R [] (fun x=>(x.2 = -1∧Jbl r0 kd t0=none)∨∃ ln,Jbl r0 kd t0=some (x.2,ln)∧x.1.e=(addL r0 ln).e) False (fun x=>.int .i64 x.2) (fun x=>rm rb x.1)
theorem Jmx {c:UInt8} {t0:ByteArray} {t:ByteArray} {w:Wds} {b1:Bool} (h:Rel false (Jbq (Jaf c t0)) t w b1):b1=false∧Jbq (Jaf c t0)=some (t,w):=by
 have hp:=Jde (l:=Jaf c t0) (Jcw c t0)
 cases h1:b1 with
 | true=>have:=h.no rfl h1; rw [hp] at this; cases this
 | false=>exact ⟨rfl,h.ok rfl h1⟩
theorem Jut {kd k:Int} (h0:0≤kd∧kd≤7) (h1:k < 8) (h:((k < kd∨k=6∧kd=6)∨kd=7)∨k=7∧kd < 6):mayK kd k=false:=by
 cases hm:mayK kd k with
 | false=>rfl
 | true=>simp only [mayK,Bool.and_eq_true,Bool.or_eq_true,Bool.not_eq_true',Bool.and_eq_false_iff,decide_eq_true_eq,decide_eq_false_iff_not,Bool.not_eq_false',Decidable.not_not] at hm; omega
theorem Jq7 {kd k:Int} (h0:0≤kd∧kd≤7) (h1:k < 8) (h:¬ (((k < kd∨k=6∧kd=6)∨kd=7)∨k=7∧kd < 6)):mayK kd k=true:=by
 simp only [mayK,Bool.and_eq_true,Bool.or_eq_true,Bool.not_eq_true',Bool.and_eq_false_iff,decide_eq_true_eq,decide_eq_false_iff_not,Bool.not_eq_false',Decidable.not_not]; omega
theorem Jrq {r0:Room} {kd k:Int} {t0:ByteArray} {w1 wz:Wds} {x:Ln} {b:Bool} (hL:Jbl r0 kd t0=(Ja0 r0 k w1).bind (finL k)) (h:Rel false (Ja0 r0 k w1) x wz b) :
  ((b || decide ((0:Int) < wz.length))=true→Jbl r0 kd t0=none)∧((b || decide ((0:Int) < wz.length))=false→Jbl r0 kd t0=some (k,x)):=by
 cases hb:b with
 | true=>exact ⟨fun _=>by rw [hL,h.no rfl hb]; rfl,fun h=>by cases h⟩
 | false =>
  rw [hL,h.ok rfl hb]
  cases wz with
  | nil=>exact ⟨fun h=>absurd h (by decide),fun _=>rfl⟩
  | cons a l=>exact ⟨fun _=>rfl,fun h=>by simp at h⟩
theorem Js5 {n0:Nat} {w0 u:World} {lb rb:Nat} {r0:Room} {ws:Sl ByteArray} {b:Bool} {R:SA} (hg:r0.gl.l=[]) (h:St n0 w0 [rl lb rb ⟨r0,ws,b⟩,R] u):St n0 w0 [rl lb rb ⟨{ r0 with gl:=⟨r0.gl.v,[]⟩ },ws,b⟩,R] u:=by
 have e:({ r0 with gl:=⟨r0.gl.v,[]⟩ }:Room)=r0:=by
  obtain ⟨a1,a2,a3,a4,a5,a6,a7,⟨v,l⟩⟩:=r0
  simp only at hg
  rw [hg]
 rw [e]; exact h
theorem Jxl {w u:World} (R:SA) (rb:Nat) (r0:Room) (hu:St w.heap.size w [rm rb r0,R] u) (t0:ByteArray) (ht:t0.size≤65536) (kd:Int) (hkd:0≤kd∧kd≤7) (hb:RdB 65536 r0) (hgl:kd≤6→r0.gl.l=[]) :
  Calls Tryz.prog 22 #[.pointer (some ⟨rb,0,none⟩),.string t0,.int .i64 kd] u (Jzo w R rb r0 kd t0):=by
 refine Jbf hu Tryz.func22 rfl rfl (Nat.le_of_ble_eq_true rfl) ?_
 refine CS.unpack (L1:=Jbo rb r0) ?_
 obtain ⟨gb1,gb2,gb3,gb4,gb5,gb6⟩:=hb
 refine Nz 1 ?_
 refine Wd (Qc (Nz 2 ?_))
 refine Wc rfl rfl Jyp (fun u hu=>Jlb t0 32 u (by omega)) (fun _=>rfl) ?_; rintro v17 ⟨u17,hv17⟩
 have hv17o:v17.oneCell'=true:=Sl.one hv17
 refine Wk 0 (Db Jxb J0a) ?_
 refine Wb 0 rfl rfl (fun _=>rfl) (fun _=>rfl) fun b19 hb19=>?_
 refine WS.weak (fun u hu=>St.pack (L1:=Jaj b19 rb ⟨r0,⟨v17,Jaf 32 t0⟩,false⟩) hu) ?_
 refine Wz 1 ?_
 refine Wd (Qc (Nz 1 ?_))
 refine WS.callP rfl rfl Jsa (fun u hu=>RlX.lw (Jk3 (star _) b19 rb ⟨r0,⟨v17,Jaf 32 t0⟩,false⟩ (St.tailPack hu) (Jb3 ht (List.suffix_refl _) false))) (fun _=>rfl) (fun hq u hu=>hq.elim) ?_; rintro ⟨⟨w1,b1⟩,t⟩ ⟨hr0,hx1_,_⟩
 obtain ⟨hb1,hn1⟩:=Jmx hr0
 replace hb1:b1=false:=hb1
 subst hb1
 obtain ⟨k,hkr⟩:∃ k,Jdp t=k:=⟨_,rfl⟩
 have hk8:k < 8:=hkr ▸ Jkr t
 have hx1:w1.l <:+ Jaf 32 t0:=hx1_
 refine Wk 1 (Cb rfl rfl J0b (fun u hu=>hkr ▸ Jxk t u)) ?_
 refine Wd (Qc (Cs (Nz 4 ?_)))
 refine Wf 0 rfl rfl (fun hg=>Fm) ?_
 refine Wf 0 rfl rfl (fun hg=>Fq) ?_
 refine Wf 0 rfl rfl (fun hg=>Fm (eg_ hg rfl)) ?_
 refine Wn 0 rfl rfl rfl (fun hg=>Fm) ?_
 refine Wn 0 rfl rfl rfl (fun hg=>Fq) ?_
 refine Wf 0 rfl rfl (fun hg=>Jbb (eg_ hg rfl) (Jco hg rfl) rfl) ?_
 refine Wk 1 Po ?_
 refine Wf 0 rfl rfl (fun hg=>Fm) ?_
 refine Wf 0 rfl rfl (fun hg=>Fq) ?_
 refine Wk 1 Po ?_
 refine Wf 0 rfl rfl (fun hg=>Fm) ?_
 refine Wf 0 rfl rfl (fun hg=>Fq) ?_
 refine Wf 0 rfl rfl (fun hg=>Fm (eg_ hg rfl)) ?_
 refine Wn 0 rfl rfl rfl (fun hg=>Fm) ?_
 refine Wn 0 rfl rfl rfl (fun hg=>Fl) ?_
 refine Wf 0 rfl rfl (fun hg=>Jbb (eg_ hg rfl) (Jco hg rfl) rfl) ?_
 refine Wk 0 Po ?_
 refine Wd (Qc (CS.cond rfl ?_ ?_))<;>intro hc1<;>try simp only [bq] at hc1
 ·
  have hno:=Jim (r:=r0) hn1 hkr (Jut hkd hk8 (by omega))
  refine Nz 1 ?_
  exact Wd (Qc (Cr (Qr (out1 rfl rfl (fun u hu=>.inl ⟨(r0, -1),.inl ⟨rfl,hno⟩,rfl,Jvs hu⟩)))))
 have hmay:=Jq7 hkd hk8 (by omega)
 have hL:=Jn3 (r:=r0) hn1 hkr hmay
 have hk0:0≤k:=by
  have:=hmay
  simp only [mayK,Bool.and_eq_true,decide_eq_true_eq] at this
  omega
 refine Ck (Qc ?_)
 refine CS.cut (σ:=Room × Sl ByteArray × Bool × Ln) [9,10,11,12,13,14,46,47,48,49,50,51,52,53,54,55,56,57,58,59,60,61,62,63,64,65,66,67,68,69,70,71,72,73,74,75,76,77,78,79,80,81,82,83,84,85,86,87,88,89,90,91,92,93,94,95,96,97,98,99,100,101,102,103,104,105,106,107,108,109,110,111,112,113,114,115,116,117,118,119,120,121,122,123,124,125,126,127,128,129,130,131,132,133,134,135,136,137,138,139,140,141,142,143,144,145,146,147,148,149,150,151,152,153,154,155,156,157,158,159,160,161,162,163,164,165,166,167,168,169,170,171,172,173,174,175,176,177,178,179,180,181,182,183,184,185,186,187,188,189,190,191,192,193,194,195,196,197,198,199,200,201,202,203,204,205,206,207,208,209,210,211,212,213,214,215,216,217,218,219,220,221,222,223,224,225,226,227,228,229,230,231,232,233,234,235,236,237,238,239,240,241,242,243,244] (fun s=>[]) (fun s=>[rl b19 rb ⟨s.1,s.2.1,s.2.2.1⟩,R]) (fun s=>Rel false (Ja0 r0 k w1.l) s.2.2.2 s.2.1.l s.2.2.1∧s.1.e=(addL r0 s.2.2.2).e) (fun _ _=>rfl) ?_ ?_
 ·
  refine Nz 1 ?_
  refine Wd (Qc (Ce (Nz 2 ?_)))
  refine Wd (Qc (CS.cond rfl ?_ ?_))<;>intro hc2<;>try simp only [bq] at hc2
  ·
   have hki:k=0:=hc2
   refine CS.drawnTillC 8 ((fun u=>∃ z:Sl ByteArray × Bool,True∧St w.heap.size w [rl b19 rb ⟨r0,z.1,z.2⟩,R] u)) (k:=12) mixed rfl rfl ?_
   refine Tr 12 [1,2,3] ?_
   refine Tk 12 4 [5] rfl (Jcr (v:=r0.pls.v) fun z _=>Jkp rfl rfl tk23) ?_
   refine AT.takeP 0 rfl (by kernel_rfl) rfl (by kernel_rfl) (by kernel_rfl) rfl rfl (Jay rfl) rfl rfl ?_
   refine AT.one (i:=6) (by kernel_rfl) rfl (fun _ u hu=>⟨(w1,false),trivial,hu⟩) rfl ?_
   refine WS.callP rfl rfl Jne (fun u hu=>RlX.lw (Jg3 (star _) b19 rb ⟨r0,w1,false⟩ (St.tailPack (hu)) (Jb3 ht hx1 false))) (fun _=>rfl) (fun hq u hu=>hq.elim) ?_; rintro ⟨⟨w3,b3⟩,nm⟩ ⟨hr3,hx3_,_⟩
   have hx3:w3.l <:+ Jaf 32 t0:=hx3_.trans hx1
   refine Wd (Qt ?_)
   refine AT.one (i:=7) (by kernel_rfl) rfl (fun _ u hu=>⟨(w3,b3),trivial,hu⟩) rfl ?_
   refine WS.buildS1 (b:=nm) sl23 zv9 rfl (fun _=>rfl) ?_; intro v56
   refine Wd (Qt ?_)
   refine AT.one (i:=8) (by kernel_rfl) rfl (fun _ u hu=>⟨(w3,b3),trivial,hu.sel [1,1] rfl⟩) rfl ?_
   refine WS.sel [1,0,0] rfl ?_
   refine WS.weak (fun u hu=>St.unpack (L1:=Jaj b19 rb ⟨r0,w3,b3⟩) hu) ?_
   refine WS.appendT1 (C:=cStr) (a:=nm) (j:=3) (jz:=11) sl23 zv9 rfl (by decide) rfl rfl rfl rfl (w:=w) trivial (by (try simp only); omega) (by (try simp only); omega) (fun _=>rfl) (fun _=>rfl) ?_; intro v57 hv57
   refine Wd (Qt ?_)
   refine To 9 rfl ?_
   refine Wz 1 ?_
   refine Wd (Qt ?_)
   refine To 10 rfl ?_
   refine Wz 1 ?_
   refine Wd (Qt ?_)
   refine To 11 rfl ?_
   first | refine WS.store (j:=0) rfl rfl (by first | decide | omega | (simp; done) | (simp; omega) | exact Nat.le_of_ble_eq_true rfl) rfl (by first | rfl | assumption) tk23 rfl rfl ?_ | refine WS.store (j:=0) rfl rfl (by first | decide | omega | (simp; done) | (simp; omega) | exact Nat.le_of_ble_eq_true rfl) rfl (by first | rfl | assumption) tk23 (Jab _ _ _) rfl ?_ | refine WS.store (j:=1) rfl rfl (by first | decide | omega | (simp; done) | (simp; omega) | exact Nat.le_of_ble_eq_true rfl) rfl (by first | rfl | assumption) tk23 rfl rfl ?_ | refine WS.store (j:=1) rfl rfl (by first | decide | omega | (simp; done) | (simp; omega) | exact Nat.le_of_ble_eq_true rfl) rfl (by first | rfl | assumption) tk23 (Jab _ _ _) rfl ?_ | refine WS.store (j:=2) rfl rfl (by first | decide | omega | (simp; done) | (simp; omega) | exact Nat.le_of_ble_eq_true rfl) rfl (by first | rfl | assumption) tk23 rfl rfl ?_ | refine WS.store (j:=2) rfl rfl (by first | decide | omega | (simp; done) | (simp; omega) | exact Nat.le_of_ble_eq_true rfl) rfl (by first | rfl | assumption) tk23 (Jab _ _ _) rfl ?_ | refine WS.store (j:=3) rfl rfl (by first | decide | omega | (simp; done) | (simp; omega) | exact Nat.le_of_ble_eq_true rfl) rfl (by first | rfl | assumption) tk23 rfl rfl ?_ | refine WS.store (j:=3) rfl rfl (by first | decide | omega | (simp; done) | (simp; omega) | exact Nat.le_of_ble_eq_true rfl) rfl (by first | rfl | assumption) tk23 (Jab _ _ _) rfl ?_ | refine WS.store (j:=4) rfl rfl (by first | decide | omega | (simp; done) | (simp; omega) | exact Nat.le_of_ble_eq_true rfl) rfl (by first | rfl | assumption) tk23 rfl rfl ?_ | refine WS.store (j:=4) rfl rfl (by first | decide | omega | (simp; done) | (simp; omega) | exact Nat.le_of_ble_eq_true rfl) rfl (by first | rfl | assumption) tk23 (Jab _ _ _) rfl ?_ | refine WS.store (j:=5) rfl rfl (by first | decide | omega | (simp; done) | (simp; omega) | exact Nat.le_of_ble_eq_true rfl) rfl (by first | rfl | assumption) tk23 rfl rfl ?_ | refine WS.store (j:=5) rfl rfl (by first | decide | omega | (simp; done) | (simp; omega) | exact Nat.le_of_ble_eq_true rfl) rfl (by first | rfl | assumption) tk23 (Jab _ _ _) rfl ?_ | refine WS.store (j:=6) rfl rfl (by first | decide | omega | (simp; done) | (simp; omega) | exact Nat.le_of_ble_eq_true rfl) rfl (by first | rfl | assumption) tk23 rfl rfl ?_ | refine WS.store (j:=6) rfl rfl (by first | decide | omega | (simp; done) | (simp; omega) | exact Nat.le_of_ble_eq_true rfl) rfl (by first | rfl | assumption) tk23 (Jab _ _ _) rfl ?_ | refine WS.store (j:=7) rfl rfl (by first | decide | omega | (simp; done) | (simp; omega) | exact Nat.le_of_ble_eq_true rfl) rfl (by first | rfl | assumption) tk23 rfl rfl ?_ | refine WS.store (j:=7) rfl rfl (by first | decide | omega | (simp; done) | (simp; omega) | exact Nat.le_of_ble_eq_true rfl) rfl (by first | rfl | assumption) tk23 (Jab _ _ _) rfl ?_ | refine WS.store (j:=8) rfl rfl (by first | decide | omega | (simp; done) | (simp; omega) | exact Nat.le_of_ble_eq_true rfl) rfl (by first | rfl | assumption) tk23 rfl rfl ?_ | refine WS.store (j:=8) rfl rfl (by first | decide | omega | (simp; done) | (simp; omega) | exact Nat.le_of_ble_eq_true rfl) rfl (by first | rfl | assumption) tk23 (Jab _ _ _) rfl ?_ | refine WS.store (j:=9) rfl rfl (by first | decide | omega | (simp; done) | (simp; omega) | exact Nat.le_of_ble_eq_true rfl) rfl (by first | rfl | assumption) tk23 rfl rfl ?_ | refine WS.store (j:=9) rfl rfl (by first | decide | omega | (simp; done) | (simp; omega) | exact Nat.le_of_ble_eq_true rfl) rfl (by first | rfl | assumption) tk23 (Jab _ _ _) rfl ?_ | refine WS.store (j:=10) rfl rfl (by first | decide | omega | (simp; done) | (simp; omega) | exact Nat.le_of_ble_eq_true rfl) rfl (by first | rfl | assumption) tk23 rfl rfl ?_ | refine WS.store (j:=10) rfl rfl (by first | decide | omega | (simp; done) | (simp; omega) | exact Nat.le_of_ble_eq_true rfl) rfl (by first | rfl | assumption) tk23 (Jab _ _ _) rfl ?_ | refine WS.store (j:=11) rfl rfl (by first | decide | omega | (simp; done) | (simp; omega) | exact Nat.le_of_ble_eq_true rfl) rfl (by first | rfl | assumption) tk23 rfl rfl ?_ | refine WS.store (j:=11) rfl rfl (by first | decide | omega | (simp; done) | (simp; omega) | exact Nat.le_of_ble_eq_true rfl) rfl (by first | rfl | assumption) tk23 (Jab _ _ _) rfl ?_ | refine WS.store (j:=12) rfl rfl (by first | decide | omega | (simp; done) | (simp; omega) | exact Nat.le_of_ble_eq_true rfl) rfl (by first | rfl | assumption) tk23 rfl rfl ?_ | refine WS.store (j:=12) rfl rfl (by first | decide | omega | (simp; done) | (simp; omega) | exact Nat.le_of_ble_eq_true rfl) rfl (by first | rfl | assumption) tk23 (Jab _ _ _) rfl ?_ | refine WS.store (j:=13) rfl rfl (by first | decide | omega | (simp; done) | (simp; omega) | exact Nat.le_of_ble_eq_true rfl) rfl (by first | rfl | assumption) tk23 rfl rfl ?_ | refine WS.store (j:=13) rfl rfl (by first | decide | omega | (simp; done) | (simp; omega) | exact Nat.le_of_ble_eq_true rfl) rfl (by first | rfl | assumption) tk23 (Jab _ _ _) rfl ?_
   refine WS.sel [0,0,0,0,0,0,0,0,0,0,0,1] rfl ?_
   refine WS.weak (fun u hu=>St.pack (L1:=Jaj b19 rb ⟨{ r0 with pls:=⟨v57,r0.pls.l++[nm]⟩ },w3,b3⟩) hu) ?_
   refine Wd (Qt ?_)
   refine Te ?_
   exact Qb (QS.head (({ r0 with pls:=⟨v57,r0.pls.l++[nm]⟩ },w3,b3,.place nm)) rfl rfl ⟨Rel.eq (Rel.map Ln.place hr3) (by rw [hki]; rfl),by simp [Room.e,addL,Sl.e,nls,Pro.e,Way.e,Actn.e,Auto.e]⟩)
  have hkn0:¬ k=0:=hc2
  refine Nz 2 ?_
  refine Wd (Qc (CS.cond rfl ?_ ?_))<;>intro hc3<;>try simp only [bq] at hc3
  ·
   have hki:k=1:=hc3
   refine Nz 1 ?_
   refine WS.callP rfl rfl Jne (fun u hu=>RlX.lw (Jg3 (star _) b19 rb ⟨r0,w1,false⟩ (St.tailPack (hu)) (Jb3 ht hx1 false))) (fun _=>rfl) (fun hq u hu=>hq.elim) ?_; rintro ⟨⟨w3,b3⟩,nm⟩ ⟨hr3,hx3_,_⟩
   have hx3:w3.l <:+ Jaf 32 t0:=hx3_.trans hx1
   refine Wk 0 (Db Jsl zv65) ?_
   refine Wl 0 zv65 (fun _=>rfl) (fun _=>rfl) fun b9 hb9=>?_
   refine Wv 0 0 ?_
   refine Wd (Qc (Nz 1 ?_))
   refine WS.callP rfl rfl Joe (fun u hu=>RlX.lw (Ji8 (star _) b19 rb ⟨r0,w3,b3⟩ (St.tailPack (hu.sel [1,0,0] rfl)) atW)) (fun _=>rfl) (fun hq u hu=>hq.elim) ?_; rintro ⟨⟨w4,b4⟩,⟨⟩⟩ ⟨hr4,hx4_,_⟩
   have hx4:w4.l <:+ Jaf 32 t0:=hx4_.trans hx3
   refine Wd (Qc (Nz 1 ?_))
   refine WS.callP rfl rfl Jpq (fun u hu=>RlX.lw (Jd8 (star _) b19 rb ⟨r0,w4,b4⟩ (St.tailPack (hu)) (Jb3 ht hx4 b4))) (fun _=>rfl) (fun hq u hu=>hq.elim) ?_; rintro ⟨⟨w5,b5⟩,pl⟩ ⟨hr5,hx5_,_⟩
   have hx5:w5.l <:+ Jaf 32 t0:=hx5_.trans hx4
   refine Wz 1 ?_
   refine Ws 0 1 ?_
   refine Wd (Qc (Nz 1 ?_))
   refine WS.callP rfl rfl Joe (fun u hu=>RlX.lw (Ji8 (star _) b19 rb ⟨r0,w5,b5⟩ (St.tailPack (hu)) Jka)) (fun _=>rfl) (fun hq u hu=>hq.elim) ?_; rintro ⟨⟨w6,b6⟩,⟨⟩⟩ ⟨hr6,hx6_,_⟩
   have hx6:w6.l <:+ Jaf 32 t0:=hx6_.trans hx5
   refine Wd (Qc (Nz 1 ?_))
   refine WS.callP rfl rfl Jr6 (fun u hu=>RlX.lw (Jmf (star _) b19 rb ⟨r0,w6,b6⟩ (St.tailPack (hu)) (Jb3 ht hx6 b6) 2 (by decide))) (fun _=>rfl) (fun hq u hu=>hq.elim) ?_; rintro ⟨⟨w7,b7⟩,st⟩ ⟨hr7,hx7_,_⟩
   have hx7:w7.l <:+ Jaf 32 t0:=hx7_.trans hx6
   refine Wz 1 ?_
   refine Ws 0 1 ?_
   refine Wd (Qc (Nz 1 ?_))
   refine WS.callP rfl rfl Joe (fun u hu=>RlX.lw (Ji8 (star _) b19 rb ⟨r0,w7,b7⟩ (St.tailPack (hu)) Jpb)) (fun _=>rfl) (fun hq u hu=>hq.elim) ?_; rintro ⟨⟨w8,b8⟩,⟨⟩⟩ ⟨hr8,hx8_,_⟩
   have hx8:w8.l <:+ Jaf 32 t0:=hx8_.trans hx7
   refine Wd (Qc (Nz 1 ?_))
   refine WS.callP rfl rfl Jr6 (fun u hu=>RlX.lw (Jmf (star _) b19 rb ⟨r0,w8,b8⟩ (St.tailPack (hu)) (Jb3 ht hx8 b8) 2 (by decide))) (fun _=>rfl) (fun hq u hu=>hq.elim) ?_; rintro ⟨⟨w10,b10⟩,sr⟩ ⟨hr10,hx10_,_⟩
   have hx10:w10.l <:+ Jaf 32 t0:=hx10_.trans hx8
   refine Wz 1 ?_
   refine Ws 0 1 ?_
   refine Wd (Qc ?_)
   refine CS.weak (fun u hu=>St.unpack (L1:=Jaj b19 rb ⟨r0,w10,b10⟩) hu) ?_
   refine CS.drawnTill 7 (k:=11) mixed rfl rfl ?_
   refine Tr 11 [1,2,3] ?_
   refine Tk 11 4 [] rfl (by first | exact Jaa (j:=0) rfl rfl rfl tk24 | exact Jaa (j:=1) rfl rfl rfl tk24 | exact Jaa (j:=2) rfl rfl rfl tk24 | exact Jaa (j:=3) rfl rfl rfl tk24 | exact Jaa (j:=4) rfl rfl rfl tk24 | exact Jaa (j:=5) rfl rfl rfl tk24 | exact Jaa (j:=6) rfl rfl rfl tk24 | exact Jaa (j:=7) rfl rfl rfl tk24 | exact Jaa (j:=8) rfl rfl rfl tk24 | exact Jaa (j:=9) rfl rfl rfl tk24 | exact Jaa (j:=10) rfl rfl rfl tk24 | exact Jaa (j:=11) rfl rfl rfl tk24 | exact Jaa (j:=12) rfl rfl rfl tk24 | exact Jaa (j:=13) rfl rfl rfl tk24 | exact Jah rfl (by assumption) rfl tk24) ?_
   refine Tk 11 5 [] rfl (by first | exact Jad (j:=11) rfl rfl tk65 | exact Jac (j:=11) rfl rfl (by rfl) tk65 | exact Ja2 rfl (by assumption) (by rfl) tk65 | exact Jae (n:=4) (j:=11) rfl rfl rfl rfl tk65) ?_
   refine AT.takeP 0 rfl (by kernel_rfl) rfl (by kernel_rfl) (by kernel_rfl) rfl rfl (Jay rfl) rfl rfl ?_
   refine To 6 rfl ?_
   refine WS.buildT1 cThing (a:=⟨nm,pl,st,sr⟩) sl24 zv65 rfl (by decide) (fun _=>rfl) ?_; intro v86
   refine Wd (Qt ?_)
   refine To 7 rfl ?_
   refine WS.appendT1 (C:=cThing) (a:=⟨nm,pl,st,sr⟩) (j:=5) (jz:=0) sl24 zv65 rfl (by decide) rfl rfl rfl rfl (w:=w) trivial (by (try simp only); omega) (by (try simp only); omega) (fun _=>rfl) (fun _=>rfl) ?_; intro v87 hv87
   refine Wd (Qt ?_)
   refine To 8 rfl ?_
   refine Wz 1 ?_
   refine Wd (Qt ?_)
   refine To 9 rfl ?_
   refine Wz 1 ?_
   refine Wd (Qt ?_)
   refine To 10 rfl ?_
   first | refine WS.store (j:=0) rfl rfl (by first | decide | omega | (simp; done) | (simp; omega) | exact Nat.le_of_ble_eq_true rfl) rfl (by first | rfl | assumption) tk24 rfl rfl ?_ | refine WS.store (j:=0) rfl rfl (by first | decide | omega | (simp; done) | (simp; omega) | exact Nat.le_of_ble_eq_true rfl) rfl (by first | rfl | assumption) tk24 (Jab _ _ _) rfl ?_ | refine WS.store (j:=1) rfl rfl (by first | decide | omega | (simp; done) | (simp; omega) | exact Nat.le_of_ble_eq_true rfl) rfl (by first | rfl | assumption) tk24 rfl rfl ?_ | refine WS.store (j:=1) rfl rfl (by first | decide | omega | (simp; done) | (simp; omega) | exact Nat.le_of_ble_eq_true rfl) rfl (by first | rfl | assumption) tk24 (Jab _ _ _) rfl ?_ | refine WS.store (j:=2) rfl rfl (by first | decide | omega | (simp; done) | (simp; omega) | exact Nat.le_of_ble_eq_true rfl) rfl (by first | rfl | assumption) tk24 rfl rfl ?_ | refine WS.store (j:=2) rfl rfl (by first | decide | omega | (simp; done) | (simp; omega) | exact Nat.le_of_ble_eq_true rfl) rfl (by first | rfl | assumption) tk24 (Jab _ _ _) rfl ?_ | refine WS.store (j:=3) rfl rfl (by first | decide | omega | (simp; done) | (simp; omega) | exact Nat.le_of_ble_eq_true rfl) rfl (by first | rfl | assumption) tk24 rfl rfl ?_ | refine WS.store (j:=3) rfl rfl (by first | decide | omega | (simp; done) | (simp; omega) | exact Nat.le_of_ble_eq_true rfl) rfl (by first | rfl | assumption) tk24 (Jab _ _ _) rfl ?_ | refine WS.store (j:=4) rfl rfl (by first | decide | omega | (simp; done) | (simp; omega) | exact Nat.le_of_ble_eq_true rfl) rfl (by first | rfl | assumption) tk24 rfl rfl ?_ | refine WS.store (j:=4) rfl rfl (by first | decide | omega | (simp; done) | (simp; omega) | exact Nat.le_of_ble_eq_true rfl) rfl (by first | rfl | assumption) tk24 (Jab _ _ _) rfl ?_ | refine WS.store (j:=5) rfl rfl (by first | decide | omega | (simp; done) | (simp; omega) | exact Nat.le_of_ble_eq_true rfl) rfl (by first | rfl | assumption) tk24 rfl rfl ?_ | refine WS.store (j:=5) rfl rfl (by first | decide | omega | (simp; done) | (simp; omega) | exact Nat.le_of_ble_eq_true rfl) rfl (by first | rfl | assumption) tk24 (Jab _ _ _) rfl ?_ | refine WS.store (j:=6) rfl rfl (by first | decide | omega | (simp; done) | (simp; omega) | exact Nat.le_of_ble_eq_true rfl) rfl (by first | rfl | assumption) tk24 rfl rfl ?_ | refine WS.store (j:=6) rfl rfl (by first | decide | omega | (simp; done) | (simp; omega) | exact Nat.le_of_ble_eq_true rfl) rfl (by first | rfl | assumption) tk24 (Jab _ _ _) rfl ?_ | refine WS.store (j:=7) rfl rfl (by first | decide | omega | (simp; done) | (simp; omega) | exact Nat.le_of_ble_eq_true rfl) rfl (by first | rfl | assumption) tk24 rfl rfl ?_ | refine WS.store (j:=7) rfl rfl (by first | decide | omega | (simp; done) | (simp; omega) | exact Nat.le_of_ble_eq_true rfl) rfl (by first | rfl | assumption) tk24 (Jab _ _ _) rfl ?_ | refine WS.store (j:=8) rfl rfl (by first | decide | omega | (simp; done) | (simp; omega) | exact Nat.le_of_ble_eq_true rfl) rfl (by first | rfl | assumption) tk24 rfl rfl ?_ | refine WS.store (j:=8) rfl rfl (by first | decide | omega | (simp; done) | (simp; omega) | exact Nat.le_of_ble_eq_true rfl) rfl (by first | rfl | assumption) tk24 (Jab _ _ _) rfl ?_ | refine WS.store (j:=9) rfl rfl (by first | decide | omega | (simp; done) | (simp; omega) | exact Nat.le_of_ble_eq_true rfl) rfl (by first | rfl | assumption) tk24 rfl rfl ?_ | refine WS.store (j:=9) rfl rfl (by first | decide | omega | (simp; done) | (simp; omega) | exact Nat.le_of_ble_eq_true rfl) rfl (by first | rfl | assumption) tk24 (Jab _ _ _) rfl ?_ | refine WS.store (j:=10) rfl rfl (by first | decide | omega | (simp; done) | (simp; omega) | exact Nat.le_of_ble_eq_true rfl) rfl (by first | rfl | assumption) tk24 rfl rfl ?_ | refine WS.store (j:=10) rfl rfl (by first | decide | omega | (simp; done) | (simp; omega) | exact Nat.le_of_ble_eq_true rfl) rfl (by first | rfl | assumption) tk24 (Jab _ _ _) rfl ?_ | refine WS.store (j:=11) rfl rfl (by first | decide | omega | (simp; done) | (simp; omega) | exact Nat.le_of_ble_eq_true rfl) rfl (by first | rfl | assumption) tk24 rfl rfl ?_ | refine WS.store (j:=11) rfl rfl (by first | decide | omega | (simp; done) | (simp; omega) | exact Nat.le_of_ble_eq_true rfl) rfl (by first | rfl | assumption) tk24 (Jab _ _ _) rfl ?_ | refine WS.store (j:=12) rfl rfl (by first | decide | omega | (simp; done) | (simp; omega) | exact Nat.le_of_ble_eq_true rfl) rfl (by first | rfl | assumption) tk24 rfl rfl ?_ | refine WS.store (j:=12) rfl rfl (by first | decide | omega | (simp; done) | (simp; omega) | exact Nat.le_of_ble_eq_true rfl) rfl (by first | rfl | assumption) tk24 (Jab _ _ _) rfl ?_ | refine WS.store (j:=13) rfl rfl (by first | decide | omega | (simp; done) | (simp; omega) | exact Nat.le_of_ble_eq_true rfl) rfl (by first | rfl | assumption) tk24 rfl rfl ?_ | refine WS.store (j:=13) rfl rfl (by first | decide | omega | (simp; done) | (simp; omega) | exact Nat.le_of_ble_eq_true rfl) rfl (by first | rfl | assumption) tk24 (Jab _ _ _) rfl ?_
   refine WS.sel [1,1,1,1,1,1,1,1,1,1,1,2] rfl ?_
   refine WS.weak (fun u hu=>St.pack (L1:=Jaj b19 rb ⟨{ r0 with ths:=⟨v87,r0.ths.l++[⟨nm,pl,st,sr⟩]⟩ },w10,b10⟩) hu) ?_
   refine Wd (Qt ?_)
   refine Te ?_
   exact Qb (QS.head (({ r0 with ths:=⟨v87,r0.ths.l++[⟨nm,pl,st,sr⟩]⟩ },w10,b10,.thing ⟨nm,pl,st,sr⟩)) rfl rfl ⟨Rel.eq (hr3.bind (hr4.bindM (hr5.bind (hr6.bindM (hr7.bind (hr8.bindM (Rel.map (fun t=>Ln.thing ⟨nm,pl,st,t⟩) hr10))))))) (by rw [hki]; rfl),by simp [Room.e,addL,Sl.e,nls,Pro.e,Way.e,Actn.e,Auto.e]⟩)
  have hkn1:¬ k=1:=hc3
  refine Nz 2 ?_
  refine Wd (Qc (CS.cond rfl ?_ ?_))<;>intro hc4<;>try simp only [bq] at hc4
  ·
   have hki:k=2:=hc4
   refine Nz 1 ?_
   refine WS.callP rfl rfl Jne (fun u hu=>RlX.lw (Jg3 (star _) b19 rb ⟨r0,w1,false⟩ (St.tailPack (hu)) (Jb3 ht hx1 false))) (fun _=>rfl) (fun hq u hu=>hq.elim) ?_; rintro ⟨⟨w3,b3⟩,nm⟩ ⟨hr3,hx3_,_⟩
   have hx3:w3.l <:+ Jaf 32 t0:=hx3_.trans hx1
   refine Wk 0 (Db Jt9 zv67) ?_
   refine Wl 0 zv67 (fun _=>rfl) (fun _=>rfl) fun b10 hb10=>?_
   refine Wv 0 0 ?_
   refine Wd (Qc ?_)
   refine CS.cut (σ:=Sl ByteArray × Bool × Int) [95,96,97,98,99,100,101,102] (fun s=>[]) (fun s=>[rl b19 rb ⟨r0,s.1,s.2.1⟩,blk b10 [.string nm,.int .i64 s.2.2,.slice none 0 0] 67,R]) (fun s=>Rel b3 (Jfp r0 w3.l) s.2.2 s.1.l s.2.1∧s.1.l <:+ Jaf 32 t0) (fun _ _=>rfl) ?_ ?_
   ·
    refine Nz 1 ?_
    refine WS.callP rfl rfl Jmw (fun u hu=>RlX.lw (Is_c (star _) b19 rb ⟨r0,w3,b3⟩ (St.tailPack (hu.sel [1,0,0] rfl)) Jrx)) (fun _=>rfl) (fun hq u hu=>hq.elim) ?_; rintro ⟨⟨w4,b4⟩,c⟩ ⟨hr4,hx4_,_⟩
    have hx4:w4.l <:+ Jaf 32 t0:=hx4_.trans hx3
    refine Wz 1 ?_
    refine Wd (Qc (CS.cond rfl ?_ ?_))<;>intro hc5<;>try simp only [bq] at hc5
    ·
     subst hc5
     refine Nz 1 ?_
     refine WS.callP rfl rfl Joe (fun u hu=>RlX.lw (Ji8 (star _) b19 rb ⟨r0,w4,b4⟩ (St.tailPack (hu)) atW)) (fun _=>rfl) (fun hq u hu=>hq.elim) ?_; rintro ⟨⟨w5,b5⟩,⟨⟩⟩ ⟨hr5,hx5_,_⟩
     have hx5:w5.l <:+ Jaf 32 t0:=hx5_.trans hx4
     refine Wd (Qc (Ny 1 ?_))
     refine WS.callP rfl rfl Jpq (fun u hu=>RlX.lw (Jd8 (star _) b19 rb ⟨r0,w5,b5⟩ (St.tailPack (hu)) (Jb3 ht hx5 b5))) (fun _=>rfl) (fun hq u hu=>hq.elim) ?_; rintro ⟨⟨w6,b6⟩,pl⟩ ⟨hr6,hx6_,_⟩
     have hx6:w6.l <:+ Jaf 32 t0:=hx6_.trans hx5
     refine Wz 1 ?_
     refine Ws 0 1 ?_
     exact Wd (QS.head ((w6,b6,pl)) rfl rfl ⟨Jwq (f:=fun w=>(Jfs atW w).bind fun w1=>Jbc id r0.pls.l w1) hr4 (hr5.bindM hr6),hx6⟩)
    subst hc5
    exact Ck (QS.head ((w4,b4, -1)) rfl rfl ⟨Jwu (f:=fun w=>some ((-1:Int),w)) hr4 (Rel.same rfl),hx4⟩)
   intro q t hs
   obtain ⟨hr7,hx7⟩:=hs
   refine Nz 1 ?_
   refine WS.callP rfl rfl Jra (fun u hu=>RlL.lw (If_c (star _) b19 rb ⟨r0,q.1,q.2.1⟩ (St.tailPack (hu)) (Jb3 ht hx7 q.2.1))) (fun _=>rfl) (fun hq u hu=>hq.elim) ?_; rintro ⟨⟨w8,b8⟩,c⟩ ⟨hr8,hx8_,uc,hcx⟩
   have hco:=Sl.one hcx
   have hx8:w8.l <:+ Jaf 32 t0:=hx8_.trans hx7
   refine Wz 1 ?_
   refine Ws 0 2 ?_
   refine Wd (Qc ?_)
   refine CS.weak (fun u hu=>St.unpack (L1:=Jaj b19 rb ⟨r0,w8,b8⟩) hu) ?_
   refine CS.drawnTill 7 (k:=11) mixed rfl rfl ?_
   refine Tr 11 [1,2,3] ?_
   refine Tk 11 4 [] rfl (by first | exact Jaa (j:=0) rfl rfl rfl tk25 | exact Jaa (j:=1) rfl rfl rfl tk25 | exact Jaa (j:=2) rfl rfl rfl tk25 | exact Jaa (j:=3) rfl rfl rfl tk25 | exact Jaa (j:=4) rfl rfl rfl tk25 | exact Jaa (j:=5) rfl rfl rfl tk25 | exact Jaa (j:=6) rfl rfl rfl tk25 | exact Jaa (j:=7) rfl rfl rfl tk25 | exact Jaa (j:=8) rfl rfl rfl tk25 | exact Jaa (j:=9) rfl rfl rfl tk25 | exact Jaa (j:=10) rfl rfl rfl tk25 | exact Jaa (j:=11) rfl rfl rfl tk25 | exact Jaa (j:=12) rfl rfl rfl tk25 | exact Jaa (j:=13) rfl rfl rfl tk25 | exact Jah rfl (by assumption) rfl tk25) ?_
   refine Tk 11 5 [] rfl (by first | exact Jad (j:=12) rfl rfl tk67 | exact Jac (j:=12) rfl rfl (by rfl) tk67 | exact Ja2 rfl (by assumption) (by rfl) tk67 | exact Jae (n:=3) (j:=12) rfl rfl rfl rfl tk67) ?_
   refine AT.takeP 0 rfl (by kernel_rfl) rfl (by kernel_rfl) (by kernel_rfl) rfl rfl (Jay rfl) rfl rfl ?_
   refine To 6 rfl ?_
   refine WS.buildT1 cPro (a:=⟨nm,q.2.2,c⟩) sl25 zv67 rfl (by decide) (fun _=>rfl) ?_; intro v112
   refine Wd (Qt ?_)
   refine To 7 rfl ?_
   refine WS.appendT1 (C:=cPro) (a:=⟨nm,q.2.2,c⟩) (j:=6) (jz:=0) sl25 zv67 rfl (by decide) rfl rfl rfl rfl (w:=uc) hcx (by (try simp only); omega) (by (try simp only); omega) (fun _=>rfl) (fun _=>rfl) ?_; intro v113 hv113
   refine Wd (Qt ?_)
   refine To 8 rfl ?_
   refine Wz 1 ?_
   refine Wd (Qt ?_)
   refine To 9 rfl ?_
   refine Wz 1 ?_
   refine Wd (Qt ?_)
   refine To 10 rfl ?_
   first | refine WS.store (j:=0) rfl rfl (by first | decide | omega | (simp; done) | (simp; omega) | exact Nat.le_of_ble_eq_true rfl) rfl (by first | rfl | assumption) tk25 rfl rfl ?_ | refine WS.store (j:=0) rfl rfl (by first | decide | omega | (simp; done) | (simp; omega) | exact Nat.le_of_ble_eq_true rfl) rfl (by first | rfl | assumption) tk25 (Jab _ _ _) rfl ?_ | refine WS.store (j:=1) rfl rfl (by first | decide | omega | (simp; done) | (simp; omega) | exact Nat.le_of_ble_eq_true rfl) rfl (by first | rfl | assumption) tk25 rfl rfl ?_ | refine WS.store (j:=1) rfl rfl (by first | decide | omega | (simp; done) | (simp; omega) | exact Nat.le_of_ble_eq_true rfl) rfl (by first | rfl | assumption) tk25 (Jab _ _ _) rfl ?_ | refine WS.store (j:=2) rfl rfl (by first | decide | omega | (simp; done) | (simp; omega) | exact Nat.le_of_ble_eq_true rfl) rfl (by first | rfl | assumption) tk25 rfl rfl ?_ | refine WS.store (j:=2) rfl rfl (by first | decide | omega | (simp; done) | (simp; omega) | exact Nat.le_of_ble_eq_true rfl) rfl (by first | rfl | assumption) tk25 (Jab _ _ _) rfl ?_ | refine WS.store (j:=3) rfl rfl (by first | decide | omega | (simp; done) | (simp; omega) | exact Nat.le_of_ble_eq_true rfl) rfl (by first | rfl | assumption) tk25 rfl rfl ?_ | refine WS.store (j:=3) rfl rfl (by first | decide | omega | (simp; done) | (simp; omega) | exact Nat.le_of_ble_eq_true rfl) rfl (by first | rfl | assumption) tk25 (Jab _ _ _) rfl ?_ | refine WS.store (j:=4) rfl rfl (by first | decide | omega | (simp; done) | (simp; omega) | exact Nat.le_of_ble_eq_true rfl) rfl (by first | rfl | assumption) tk25 rfl rfl ?_ | refine WS.store (j:=4) rfl rfl (by first | decide | omega | (simp; done) | (simp; omega) | exact Nat.le_of_ble_eq_true rfl) rfl (by first | rfl | assumption) tk25 (Jab _ _ _) rfl ?_ | refine WS.store (j:=5) rfl rfl (by first | decide | omega | (simp; done) | (simp; omega) | exact Nat.le_of_ble_eq_true rfl) rfl (by first | rfl | assumption) tk25 rfl rfl ?_ | refine WS.store (j:=5) rfl rfl (by first | decide | omega | (simp; done) | (simp; omega) | exact Nat.le_of_ble_eq_true rfl) rfl (by first | rfl | assumption) tk25 (Jab _ _ _) rfl ?_ | refine WS.store (j:=6) rfl rfl (by first | decide | omega | (simp; done) | (simp; omega) | exact Nat.le_of_ble_eq_true rfl) rfl (by first | rfl | assumption) tk25 rfl rfl ?_ | refine WS.store (j:=6) rfl rfl (by first | decide | omega | (simp; done) | (simp; omega) | exact Nat.le_of_ble_eq_true rfl) rfl (by first | rfl | assumption) tk25 (Jab _ _ _) rfl ?_ | refine WS.store (j:=7) rfl rfl (by first | decide | omega | (simp; done) | (simp; omega) | exact Nat.le_of_ble_eq_true rfl) rfl (by first | rfl | assumption) tk25 rfl rfl ?_ | refine WS.store (j:=7) rfl rfl (by first | decide | omega | (simp; done) | (simp; omega) | exact Nat.le_of_ble_eq_true rfl) rfl (by first | rfl | assumption) tk25 (Jab _ _ _) rfl ?_ | refine WS.store (j:=8) rfl rfl (by first | decide | omega | (simp; done) | (simp; omega) | exact Nat.le_of_ble_eq_true rfl) rfl (by first | rfl | assumption) tk25 rfl rfl ?_ | refine WS.store (j:=8) rfl rfl (by first | decide | omega | (simp; done) | (simp; omega) | exact Nat.le_of_ble_eq_true rfl) rfl (by first | rfl | assumption) tk25 (Jab _ _ _) rfl ?_ | refine WS.store (j:=9) rfl rfl (by first | decide | omega | (simp; done) | (simp; omega) | exact Nat.le_of_ble_eq_true rfl) rfl (by first | rfl | assumption) tk25 rfl rfl ?_ | refine WS.store (j:=9) rfl rfl (by first | decide | omega | (simp; done) | (simp; omega) | exact Nat.le_of_ble_eq_true rfl) rfl (by first | rfl | assumption) tk25 (Jab _ _ _) rfl ?_ | refine WS.store (j:=10) rfl rfl (by first | decide | omega | (simp; done) | (simp; omega) | exact Nat.le_of_ble_eq_true rfl) rfl (by first | rfl | assumption) tk25 rfl rfl ?_ | refine WS.store (j:=10) rfl rfl (by first | decide | omega | (simp; done) | (simp; omega) | exact Nat.le_of_ble_eq_true rfl) rfl (by first | rfl | assumption) tk25 (Jab _ _ _) rfl ?_ | refine WS.store (j:=11) rfl rfl (by first | decide | omega | (simp; done) | (simp; omega) | exact Nat.le_of_ble_eq_true rfl) rfl (by first | rfl | assumption) tk25 rfl rfl ?_ | refine WS.store (j:=11) rfl rfl (by first | decide | omega | (simp; done) | (simp; omega) | exact Nat.le_of_ble_eq_true rfl) rfl (by first | rfl | assumption) tk25 (Jab _ _ _) rfl ?_ | refine WS.store (j:=12) rfl rfl (by first | decide | omega | (simp; done) | (simp; omega) | exact Nat.le_of_ble_eq_true rfl) rfl (by first | rfl | assumption) tk25 rfl rfl ?_ | refine WS.store (j:=12) rfl rfl (by first | decide | omega | (simp; done) | (simp; omega) | exact Nat.le_of_ble_eq_true rfl) rfl (by first | rfl | assumption) tk25 (Jab _ _ _) rfl ?_ | refine WS.store (j:=13) rfl rfl (by first | decide | omega | (simp; done) | (simp; omega) | exact Nat.le_of_ble_eq_true rfl) rfl (by first | rfl | assumption) tk25 rfl rfl ?_ | refine WS.store (j:=13) rfl rfl (by first | decide | omega | (simp; done) | (simp; omega) | exact Nat.le_of_ble_eq_true rfl) rfl (by first | rfl | assumption) tk25 (Jab _ _ _) rfl ?_
   refine WS.sel [10,11,0,0,0,0,0,0,0,0,0,0,0,0,0] rfl ?_
   refine WS.weak (fun u hu=>Jdw (r:=el4 { r0 with prs:=⟨v113,r0.prs.l++[⟨nm,q.2.2,c⟩]⟩ }) (fun u h1 h2=>el4.prs (x:=⟨nm,q.2.2,c⟩) v113 h1 h2) hu) ?_
   refine WS.sel [2,2,2,2,2,2,2,2,2,0,1,2] rfl ?_
   refine WS.weak (fun u hu=>St.pack (L1:=Jaj b19 rb ⟨{ r0 with prs:=⟨v113,r0.prs.l++[⟨nm,q.2.2,c⟩]⟩ },w8,b8⟩) hu) ?_
   refine Wd (Qt ?_)
   refine Te ?_
   exact Qb (QS.head (({ r0 with prs:=⟨v113,r0.prs.l++[⟨nm,q.2.2,c⟩]⟩ },w8,b8,.prop nm q.2.2 c.l)) rfl rfl ⟨Rel.eq (hr3.bind (hr7.bind (Rel.map (fun c=>Ln.prop nm q.2.2 c) hr8))) (by rw [hki]; rfl),by simp [Room.e,addL,Sl.e,nls,Pro.e,Way.e,Actn.e,Auto.e]⟩)
  have hkn2:¬ k=2:=hc4
  refine Nz 2 ?_
  refine Wd (Qc (CS.cond rfl ?_ ?_))<;>intro hc6<;>try simp only [bq] at hc6
  ·
   have hki:k=3:=hc6
   refine Nz 1 ?_
   refine WS.callP rfl rfl Jpq (fun u hu=>RlX.lw (Jd8 (star _) b19 rb ⟨r0,w1,false⟩ (St.tailPack (hu)) (Jb3 ht hx1 false))) (fun _=>rfl) (fun hq u hu=>hq.elim) ?_; rintro ⟨⟨w3,b3⟩,pa⟩ ⟨hr3,hx3_,_⟩
   have hx3:w3.l <:+ Jaf 32 t0:=hx3_.trans hx1
   refine Wz 1 ?_
   refine WS.callP rfl rfl Jpq (fun u hu=>RlX.lw (Jd8 (star _) b19 rb ⟨r0,w3,b3⟩ (St.tailPack (hu)) (Jb3 ht hx3 b3))) (fun _=>rfl) (fun hq u hu=>hq.elim) ?_; rintro ⟨⟨w4,b4⟩,pb⟩ ⟨hr4,hx4_,_⟩
   have hx4:w4.l <:+ Jaf 32 t0:=hx4_.trans hx3
   refine Wk 0 (Db Ju6 zv69) ?_
   refine Wl 0 zv69 (fun _=>rfl) (fun _=>rfl) fun b11 hb11=>?_
   refine Wv 0 0 ?_
   refine Wd (Qc (Nz 1 ?_))
   refine WS.callP rfl rfl Jra (fun u hu=>RlL.lw (If_c (star _) b19 rb ⟨r0,w4,b4⟩ (St.tailPack (hu.sel [1,0,0] rfl)) (Jb3 ht hx4 b4))) (fun _=>rfl) (fun hq u hu=>hq.elim) ?_; rintro ⟨⟨w8,b8⟩,c⟩ ⟨hr8,hx8_,uc,hcx⟩
   have hco:=Sl.one hcx
   have hx8:w8.l <:+ Jaf 32 t0:=hx8_.trans hx4
   refine Wz 1 ?_
   refine Ws 0 2 ?_
   refine Wd (Qc ?_)
   refine CS.weak (fun u hu=>St.unpack (L1:=Jaj b19 rb ⟨r0,w8,b8⟩) hu) ?_
   refine CS.drawnTill 7 (k:=11) mixed rfl rfl ?_
   refine Tr 11 [1,2,3] ?_
   refine Tk 11 4 [] rfl (by first | exact Jaa (j:=0) rfl rfl rfl tk26 | exact Jaa (j:=1) rfl rfl rfl tk26 | exact Jaa (j:=2) rfl rfl rfl tk26 | exact Jaa (j:=3) rfl rfl rfl tk26 | exact Jaa (j:=4) rfl rfl rfl tk26 | exact Jaa (j:=5) rfl rfl rfl tk26 | exact Jaa (j:=6) rfl rfl rfl tk26 | exact Jaa (j:=7) rfl rfl rfl tk26 | exact Jaa (j:=8) rfl rfl rfl tk26 | exact Jaa (j:=9) rfl rfl rfl tk26 | exact Jaa (j:=10) rfl rfl rfl tk26 | exact Jaa (j:=11) rfl rfl rfl tk26 | exact Jaa (j:=12) rfl rfl rfl tk26 | exact Jaa (j:=13) rfl rfl rfl tk26 | exact Jah rfl (by assumption) rfl tk26) ?_
   refine Tk 11 5 [] rfl (by first | exact Jad (j:=12) rfl rfl tk69 | exact Jac (j:=12) rfl rfl (by rfl) tk69 | exact Ja2 rfl (by assumption) (by rfl) tk69 | exact Jae (n:=3) (j:=12) rfl rfl rfl rfl tk69) ?_
   refine AT.takeP 0 rfl (by kernel_rfl) rfl (by kernel_rfl) (by kernel_rfl) rfl rfl (Jay rfl) rfl rfl ?_
   refine To 6 rfl ?_
   refine WS.buildT1 cWay (a:=⟨pa,pb,c⟩) sl26 zv69 rfl (by decide) (fun _=>rfl) ?_; intro v132
   refine Wd (Qt ?_)
   refine To 7 rfl ?_
   refine WS.appendT1 (C:=cWay) (a:=⟨pa,pb,c⟩) (j:=7) (jz:=0) sl26 zv69 rfl (by decide) rfl rfl rfl rfl (w:=uc) hcx (by (try simp only); omega) (by (try simp only); omega) (fun _=>rfl) (fun _=>rfl) ?_; intro v133 hv133
   refine Wd (Qt ?_)
   refine To 8 rfl ?_
   refine Wz 1 ?_
   refine Wd (Qt ?_)
   refine To 9 rfl ?_
   refine Wz 1 ?_
   refine Wd (Qt ?_)
   refine To 10 rfl ?_
   first | refine WS.store (j:=0) rfl rfl (by first | decide | omega | (simp; done) | (simp; omega) | exact Nat.le_of_ble_eq_true rfl) rfl (by first | rfl | assumption) tk26 rfl rfl ?_ | refine WS.store (j:=0) rfl rfl (by first | decide | omega | (simp; done) | (simp; omega) | exact Nat.le_of_ble_eq_true rfl) rfl (by first | rfl | assumption) tk26 (Jab _ _ _) rfl ?_ | refine WS.store (j:=1) rfl rfl (by first | decide | omega | (simp; done) | (simp; omega) | exact Nat.le_of_ble_eq_true rfl) rfl (by first | rfl | assumption) tk26 rfl rfl ?_ | refine WS.store (j:=1) rfl rfl (by first | decide | omega | (simp; done) | (simp; omega) | exact Nat.le_of_ble_eq_true rfl) rfl (by first | rfl | assumption) tk26 (Jab _ _ _) rfl ?_ | refine WS.store (j:=2) rfl rfl (by first | decide | omega | (simp; done) | (simp; omega) | exact Nat.le_of_ble_eq_true rfl) rfl (by first | rfl | assumption) tk26 rfl rfl ?_ | refine WS.store (j:=2) rfl rfl (by first | decide | omega | (simp; done) | (simp; omega) | exact Nat.le_of_ble_eq_true rfl) rfl (by first | rfl | assumption) tk26 (Jab _ _ _) rfl ?_ | refine WS.store (j:=3) rfl rfl (by first | decide | omega | (simp; done) | (simp; omega) | exact Nat.le_of_ble_eq_true rfl) rfl (by first | rfl | assumption) tk26 rfl rfl ?_ | refine WS.store (j:=3) rfl rfl (by first | decide | omega | (simp; done) | (simp; omega) | exact Nat.le_of_ble_eq_true rfl) rfl (by first | rfl | assumption) tk26 (Jab _ _ _) rfl ?_ | refine WS.store (j:=4) rfl rfl (by first | decide | omega | (simp; done) | (simp; omega) | exact Nat.le_of_ble_eq_true rfl) rfl (by first | rfl | assumption) tk26 rfl rfl ?_ | refine WS.store (j:=4) rfl rfl (by first | decide | omega | (simp; done) | (simp; omega) | exact Nat.le_of_ble_eq_true rfl) rfl (by first | rfl | assumption) tk26 (Jab _ _ _) rfl ?_ | refine WS.store (j:=5) rfl rfl (by first | decide | omega | (simp; done) | (simp; omega) | exact Nat.le_of_ble_eq_true rfl) rfl (by first | rfl | assumption) tk26 rfl rfl ?_ | refine WS.store (j:=5) rfl rfl (by first | decide | omega | (simp; done) | (simp; omega) | exact Nat.le_of_ble_eq_true rfl) rfl (by first | rfl | assumption) tk26 (Jab _ _ _) rfl ?_ | refine WS.store (j:=6) rfl rfl (by first | decide | omega | (simp; done) | (simp; omega) | exact Nat.le_of_ble_eq_true rfl) rfl (by first | rfl | assumption) tk26 rfl rfl ?_ | refine WS.store (j:=6) rfl rfl (by first | decide | omega | (simp; done) | (simp; omega) | exact Nat.le_of_ble_eq_true rfl) rfl (by first | rfl | assumption) tk26 (Jab _ _ _) rfl ?_ | refine WS.store (j:=7) rfl rfl (by first | decide | omega | (simp; done) | (simp; omega) | exact Nat.le_of_ble_eq_true rfl) rfl (by first | rfl | assumption) tk26 rfl rfl ?_ | refine WS.store (j:=7) rfl rfl (by first | decide | omega | (simp; done) | (simp; omega) | exact Nat.le_of_ble_eq_true rfl) rfl (by first | rfl | assumption) tk26 (Jab _ _ _) rfl ?_ | refine WS.store (j:=8) rfl rfl (by first | decide | omega | (simp; done) | (simp; omega) | exact Nat.le_of_ble_eq_true rfl) rfl (by first | rfl | assumption) tk26 rfl rfl ?_ | refine WS.store (j:=8) rfl rfl (by first | decide | omega | (simp; done) | (simp; omega) | exact Nat.le_of_ble_eq_true rfl) rfl (by first | rfl | assumption) tk26 (Jab _ _ _) rfl ?_ | refine WS.store (j:=9) rfl rfl (by first | decide | omega | (simp; done) | (simp; omega) | exact Nat.le_of_ble_eq_true rfl) rfl (by first | rfl | assumption) tk26 rfl rfl ?_ | refine WS.store (j:=9) rfl rfl (by first | decide | omega | (simp; done) | (simp; omega) | exact Nat.le_of_ble_eq_true rfl) rfl (by first | rfl | assumption) tk26 (Jab _ _ _) rfl ?_ | refine WS.store (j:=10) rfl rfl (by first | decide | omega | (simp; done) | (simp; omega) | exact Nat.le_of_ble_eq_true rfl) rfl (by first | rfl | assumption) tk26 rfl rfl ?_ | refine WS.store (j:=10) rfl rfl (by first | decide | omega | (simp; done) | (simp; omega) | exact Nat.le_of_ble_eq_true rfl) rfl (by first | rfl | assumption) tk26 (Jab _ _ _) rfl ?_ | refine WS.store (j:=11) rfl rfl (by first | decide | omega | (simp; done) | (simp; omega) | exact Nat.le_of_ble_eq_true rfl) rfl (by first | rfl | assumption) tk26 rfl rfl ?_ | refine WS.store (j:=11) rfl rfl (by first | decide | omega | (simp; done) | (simp; omega) | exact Nat.le_of_ble_eq_true rfl) rfl (by first | rfl | assumption) tk26 (Jab _ _ _) rfl ?_ | refine WS.store (j:=12) rfl rfl (by first | decide | omega | (simp; done) | (simp; omega) | exact Nat.le_of_ble_eq_true rfl) rfl (by first | rfl | assumption) tk26 rfl rfl ?_ | refine WS.store (j:=12) rfl rfl (by first | decide | omega | (simp; done) | (simp; omega) | exact Nat.le_of_ble_eq_true rfl) rfl (by first | rfl | assumption) tk26 (Jab _ _ _) rfl ?_ | refine WS.store (j:=13) rfl rfl (by first | decide | omega | (simp; done) | (simp; omega) | exact Nat.le_of_ble_eq_true rfl) rfl (by first | rfl | assumption) tk26 rfl rfl ?_ | refine WS.store (j:=13) rfl rfl (by first | decide | omega | (simp; done) | (simp; omega) | exact Nat.le_of_ble_eq_true rfl) rfl (by first | rfl | assumption) tk26 (Jab _ _ _) rfl ?_
   refine WS.sel [10,11,0,0,0,0,0,0,0,0,0,0,0,0,0] rfl ?_
   refine WS.weak (fun u hu=>Jdw (r:=el4 { r0 with wys:=⟨v133,r0.wys.l++[⟨pa,pb,c⟩]⟩ }) (fun u h1 h2=>el4.wys (x:=⟨pa,pb,c⟩) v133 h1 h2) hu) ?_
   refine WS.sel [2,2,2,2,2,2,2,2,2,0,1,2] rfl ?_
   refine WS.weak (fun u hu=>St.pack (L1:=Jaj b19 rb ⟨{ r0 with wys:=⟨v133,r0.wys.l++[⟨pa,pb,c⟩]⟩ },w8,b8⟩) hu) ?_
   refine Wd (Qt ?_)
   refine Te ?_
   exact Qb (QS.head (({ r0 with wys:=⟨v133,r0.wys.l++[⟨pa,pb,c⟩]⟩ },w8,b8,.way pa pb c.l)) rfl rfl ⟨Rel.eq (hr3.bind (hr4.bind (Rel.map (fun c=>Ln.way pa pb c) hr8))) (by rw [hki]; rfl),by simp [Room.e,addL,Sl.e,nls,Pro.e,Way.e,Actn.e,Auto.e]⟩)
  have hkn3:¬ k=3:=hc6
  refine Nz 2 ?_
  refine Wd (Qc (CS.cond rfl ?_ ?_))<;>intro hc7<;>try simp only [bq] at hc7
  ·
   have hki:k=4:=hc7
   refine Nz 1 ?_
   refine WS.callP rfl rfl Jne (fun u hu=>RlX.lw (Jg3 (star _) b19 rb ⟨r0,w1,false⟩ (St.tailPack (hu)) (Jb3 ht hx1 false))) (fun _=>rfl) (fun hq u hu=>hq.elim) ?_; rintro ⟨⟨w3,b3⟩,nm⟩ ⟨hr3,hx3_,_⟩
   have hx3:w3.l <:+ Jaf 32 t0:=hx3_.trans hx1
   refine Wk 0 (Db Jq2 zv73) ?_
   refine Wl 0 zv73 (fun _=>rfl) (fun _=>rfl) fun b12 hb12=>?_
   refine Wv 0 0 ?_
   refine Wd (Qc (Nz 1 ?_))
   refine WS.callP rfl rfl Joe (fun u hu=>RlX.lw (Ji8 (star _) b19 rb ⟨r0,w3,b3⟩ (St.tailPack (hu.sel [1,0,0] rfl)) atW)) (fun _=>rfl) (fun hq u hu=>hq.elim) ?_; rintro ⟨⟨w4,b4⟩,⟨⟩⟩ ⟨hr4,hx4_,_⟩
   have hx4:w4.l <:+ Jaf 32 t0:=hx4_.trans hx3
   refine Wd (Qc (Nz 1 ?_))
   refine WS.callP rfl rfl Jpq (fun u hu=>RlX.lw (Jd8 (star _) b19 rb ⟨r0,w4,b4⟩ (St.tailPack (hu)) (Jb3 ht hx4 b4))) (fun _=>rfl) (fun hq u hu=>hq.elim) ?_; rintro ⟨⟨w5,b5⟩,pl⟩ ⟨hr5,hx5_,_⟩
   have hx5:w5.l <:+ Jaf 32 t0:=hx5_.trans hx4
   refine Wz 1 ?_
   refine Ws 0 1 ?_
   refine Wd (Qc ?_)
   refine CS.cut (σ:=Sl ByteArray × Bool × Int) [146,147,148,149,150] (fun s=>[]) (fun s=>[rl b19 rb ⟨r0,s.1,s.2.1⟩,blk b12 [.string nm,.int .i64 pl,.int .i64 s.2.2,.slice none 0 0,.slice none 0 0,.slice none 0 0,.slice none 0 0,.slice none 0 0] 73,R]) (fun s=>Rel b5 (Jd6 w5.l) s.2.2 s.1.l s.2.1∧s.1.l <:+ Jaf 32 t0) (fun _ _=>rfl) ?_ ?_
   ·
    refine Nz 1 ?_
    refine WS.callP rfl rfl Jmw (fun u hu=>RlX.lw (Is_c (star _) b19 rb ⟨r0,w5,b5⟩ (St.tailPack (hu)) Ju7)) (fun _=>rfl) (fun hq u hu=>hq.elim) ?_; rintro ⟨⟨w6,b6⟩,c⟩ ⟨hr6,hx6_,_⟩
    have hx6:w6.l <:+ Jaf 32 t0:=hx6_.trans hx5
    refine Wd (Qc (CS.cond rfl ?_ ?_))<;>intro hc8<;>try simp only [bq] at hc8
    ·
     subst hc8
     refine Ny 1 ?_
     refine WS.callP rfl rfl Jr6 (fun u hu=>RlX.lw (Jmf (star _) b19 rb ⟨r0,w6,b6⟩ (St.tailPack (hu)) (Jb3 ht hx6 b6) 2 (by decide))) (fun _=>rfl) (fun hq u hu=>hq.elim) ?_; rintro ⟨⟨w7,b7⟩,lk⟩ ⟨hr7,hx7_,_⟩
     have hx7:w7.l <:+ Jaf 32 t0:=hx7_.trans hx6
     refine Wz 1 ?_
     refine Ws 0 1 ?_
     exact Wd (QS.head ((w7,b7,lk)) rfl rfl ⟨Jwu (f:=fun w=>numW 2 w) hr6 hr7,hx7⟩)
    subst hc8
    exact Ck (QS.head ((w6,b6, -1)) rfl rfl ⟨Jwq (f:=fun w=>some ((-1:Int),w)) hr6 (Rel.same rfl),hx6⟩)
   intro q t hs
   obtain ⟨hr7,hx7⟩:=hs
   refine Nz 1 ?_
   refine WS.callP rfl rfl Juq (fun u hu=>RlL.lw (Jkj (star _) b19 rb ⟨r0,q.1,q.2.1⟩ (St.tailPack (hu)) (Jb3 ht hx7 q.2.1) Ju3)) (fun _=>rfl) (fun hq u hu=>hq.elim) ?_; rintro ⟨⟨w8,b8⟩,us⟩ ⟨hr8,hx8_,uus,husx⟩
   have huso:=Sl.one husx
   have hx8:w8.l <:+ Jaf 32 t0:=hx8_.trans hx7
   refine Wz 1 ?_
   refine Ws 0 2 ?_
   refine Wd (Qc (Nz 1 ?_))
   refine WS.callP rfl rfl Jra (fun u hu=>RlL.lw (If_c (star _) b19 rb ⟨r0,w8,b8⟩ (St.tailPack (hu)) (Jb3 ht hx8 b8))) (fun _=>rfl) (fun hq u hu=>hq.elim) ?_; rintro ⟨⟨w10,b10⟩,wh⟩ ⟨hr10,hx10_,uwh,hwhx⟩
   have hwho:=Sl.one hwhx
   have hx10:w10.l <:+ Jaf 32 t0:=hx10_.trans hx8
   refine Wz 1 ?_
   refine Ws 0 3 ?_
   refine Wd (Qc ?_)
   refine CS.cut (σ:=Sl ByteArray × Bool × Sl Put) [13,157,158,159,160,161,162,163,164,165,166,167,168,169,170,171,172,173,174,175,176,177,178,179,180,181,182,183,184,185] (fun s=>[]) (fun s=>[rl b19 rb ⟨r0,s.1,s.2.1⟩,roT cPut s.2.2,roT cLit wh,roT cInt us,blk b12 [.string nm,.int .i64 pl,.int .i64 q.2.2,us.v,wh.v,s.2.2.v,.slice none 0 0,.slice none 0 0] 73,R]) (fun s=>Rel b10 (Jg1 r0.ths.l w10.l) s.2.2.l s.1.l s.2.1∧s.1.l <:+ Jaf 32 t0∧∃ u0,SlT cPut u0 s.2.2) (fun _ _=>rfl) ?_ ?_
   ·
    refine Nz 1 ?_
    refine WS.callP rfl rfl Jmw (fun u hu=>RlX.lw (Is_c (star _) b19 rb ⟨r0,w10,b10⟩ (St.tailPack (hu)) ⟨#[115,101,116,115]⟩)) (fun _=>rfl) (fun hq u hu=>hq.elim) ?_; rintro ⟨⟨w11,b11⟩,c⟩ ⟨hr11,hx11_,_⟩
    have hx11:w11.l <:+ Jaf 32 t0:=hx11_.trans hx10
    refine Wd (Qc (CS.cond rfl ?_ ?_))<;>intro hc9<;>try simp only [bq] at hc9
    ·
     subst hc9
     refine Cs (Ce ?_)
     refine CS.weak (fun _ hu=>hu.osl0 (e:=75) (size:=2)) ?_
     refine CS.sel [1,0,0,0,0,0] rfl ?_
     refine CS.loopM (σ:=(Sl ByteArray × Bool) × Value × List Put) [13,159,160,161,162,163,164,165,166,167,168,169,170,171,172] (fun s=>[]) (fun s=>[rl b19 rb ⟨r0,s.1.1,s.1.2⟩,oT cPut 75 s.2.1 s.2.2,roT cLit wh,roT cInt us,blk b12 [.string nm,.int .i64 pl,.int .i64 q.2.2,us.v,wh.v,s.2.1,.slice none 0 0,.slice none 0 0] 73,R]) (fun s=>LoopI b11 (Jfr r0.ths.l) w11.l s.2.2 s.1.1.l s.1.2) (fun s=>2 * s.1.1.l.length+(if s.1.2 then 0 else 1)) ((w11,b11),.slice none 0 0,[]) (fun _ _=>rfl) rfl rfl (LoopI.start _ _ _) ?_
     intro y t hs
     have hyi:=hs
     have hxy:y.1.1.l <:+ Jaf 32 t0:=hyi.sf.trans hx11
     have hzq:RlS.ok ⟨r0,y.1.1,y.1.2⟩:=Jb3 ht hxy y.1.2
     have hlm:=hyi.lm
     have hln:=(Jb3 (r:=r0) ht hx11 b11).len
     have hll:y.2.2.length≤65537:=Nat.le_trans hlm hln
     refine Cs (Nz 1 ?_)
     refine WS.callP rfl rfl Jq1 (fun u hu=>RetX.ls (Jlp (star _) b19 rb ⟨r0,y.1.1,y.1.2⟩ (St.tailPack hu) hzq)) (fun _=>rfl) (fun hq u hu=>hq.elim) ?_; rintro ⟨⟩ _
     refine Wd (Qc (CS.cond rfl ?_ ?_))<;>intro hc10<;>try simp only [bq] at hc10
     ·
      refine Ck (Qc (Ce (Nz 1 ?_)))
      refine WS.callP rfl rfl Jr8 (fun u hu=>RlX.lw (Jet (star _) b19 rb ⟨r0,y.1.1,y.1.2⟩ (St.tailPack hu) hzq false)) (fun _=>rfl) (fun hq u hu=>hq.elim) ?_; rintro ⟨⟨w12,b12_⟩,a⟩ ⟨hr12,hx12_,_⟩
      have hst:=Jnv hc10 hr12
      have hmy:=Jc4 hc10
      refine Wl 0 zv96 (fun _=>rfl) (fun _=>rfl) fun b13 hb13=>?_
      refine Wv 0 0 ?_
      refine Wd (Qc (Ny 1 ?_))
      refine Wk 1 (by first | exact Jaa (j:=5) rfl rfl rfl tk71 | exact Jah rfl (by assumption) rfl tk71) ?_
      refine Wk 1 (by first | exact Jaa (j:=0) rfl rfl rfl tk3 | exact Jah rfl (by assumption) rfl tk3) ?_
      refine Wk 0 (by first | exact Jaa (j:=0) rfl rfl rfl tk3 | exact Jah rfl (by assumption) rfl tk3) ?_
      refine Wk 0 (Db Jpl zv75) ?_
      refine WS.buildT1 cPut (a:=⟨a.t,a.s⟩) sl71 zv75 rfl (by decide) (fun _=>rfl) ?_; intro v170
      refine WS.appendT1 (C:=cPut) (a:=⟨a.t,a.s⟩) (j:=3) (jz:=0) sl71 zv75 rfl (by decide) rfl rfl rfl rfl (w:=w) trivial (by omega) (by omega) (fun _=>rfl) (fun _=>rfl) ?_; intro v171 hv171
      refine Wz 1 ?_
      refine Ws 0 6 ?_
      refine Wd (Qb ?_)
      refine QS.sel [2,2,2,2,2,2] rfl ?_
      exact QS.head (((w12,b12_),v171,y.2.2++[⟨a.t,a.s⟩])) rfl rfl ⟨hyi.step hmy.1 hmy.2.1 hx12_ hst.1 hst.2,Jh5 hmy.1 hst.1 hx12_⟩
     have hfin:=hyi.fin fun hb=>Jnh (Jh6 hc10 hb)
     refine Cv (Qe (Qe (Qx (Qc ?_))))
     refine CS.weak (fun u hu=>St.unpack (L1:=Jaj b19 rb ⟨r0,y.1.1,y.1.2⟩) hu) ?_
     refine Ny 4 ?_
     refine Wk 1 (by first | exact Jaa (j:=0) rfl rfl rfl tk4 | exact Jaa (j:=1) rfl rfl rfl tk4 | exact Jaa (j:=2) rfl rfl rfl tk4 | exact Jaa (j:=3) rfl rfl rfl tk4 | exact Jaa (j:=4) rfl rfl rfl tk4 | exact Jaa (j:=5) rfl rfl rfl tk4 | exact Jaa (j:=6) rfl rfl rfl tk4 | exact Jaa (j:=7) rfl rfl rfl tk4 | exact Jaa (j:=8) rfl rfl rfl tk4 | exact Jaa (j:=9) rfl rfl rfl tk4 | exact Jaa (j:=10) rfl rfl rfl tk4 | exact Jaa (j:=11) rfl rfl rfl tk4 | exact Jaa (j:=12) rfl rfl rfl tk4 | exact Jaa (j:=13) rfl rfl rfl tk4 | exact Jah rfl (by assumption) rfl tk4) ?_
     refine Wf 0 rfl rfl (fun hg=>Ff) ?_
     refine Wf 0 rfl rfl (fun hg=>by first | exact Jaa (j:=14) (eg_ hg rfl) rfl rfl tk71 | exact Jah (eg_ hg rfl) (by assumption) rfl tk71) ?_
     refine Wf 0 rfl rfl (fun hg=>Jci (j:=11) sl71 (eg_ hg rfl) rfl) ?_
     refine Wf 0 rfl rfl (fun hg=>Fq) ?_
     refine Wk 2 Po ?_
     first | refine WS.store (j:=0) rfl rfl (by first | decide | omega | (simp; done) | (simp; omega) | exact Nat.le_of_ble_eq_true rfl) rfl (by first | rfl | assumption) tk4 rfl rfl ?_ | refine WS.store (j:=0) rfl rfl (by first | decide | omega | (simp; done) | (simp; omega) | exact Nat.le_of_ble_eq_true rfl) rfl (by first | rfl | assumption) tk4 (Jab _ _ _) rfl ?_ | refine WS.store (j:=1) rfl rfl (by first | decide | omega | (simp; done) | (simp; omega) | exact Nat.le_of_ble_eq_true rfl) rfl (by first | rfl | assumption) tk4 rfl rfl ?_ | refine WS.store (j:=1) rfl rfl (by first | decide | omega | (simp; done) | (simp; omega) | exact Nat.le_of_ble_eq_true rfl) rfl (by first | rfl | assumption) tk4 (Jab _ _ _) rfl ?_ | refine WS.store (j:=2) rfl rfl (by first | decide | omega | (simp; done) | (simp; omega) | exact Nat.le_of_ble_eq_true rfl) rfl (by first | rfl | assumption) tk4 rfl rfl ?_ | refine WS.store (j:=2) rfl rfl (by first | decide | omega | (simp; done) | (simp; omega) | exact Nat.le_of_ble_eq_true rfl) rfl (by first | rfl | assumption) tk4 (Jab _ _ _) rfl ?_ | refine WS.store (j:=3) rfl rfl (by first | decide | omega | (simp; done) | (simp; omega) | exact Nat.le_of_ble_eq_true rfl) rfl (by first | rfl | assumption) tk4 rfl rfl ?_ | refine WS.store (j:=3) rfl rfl (by first | decide | omega | (simp; done) | (simp; omega) | exact Nat.le_of_ble_eq_true rfl) rfl (by first | rfl | assumption) tk4 (Jab _ _ _) rfl ?_ | refine WS.store (j:=4) rfl rfl (by first | decide | omega | (simp; done) | (simp; omega) | exact Nat.le_of_ble_eq_true rfl) rfl (by first | rfl | assumption) tk4 rfl rfl ?_ | refine WS.store (j:=4) rfl rfl (by first | decide | omega | (simp; done) | (simp; omega) | exact Nat.le_of_ble_eq_true rfl) rfl (by first | rfl | assumption) tk4 (Jab _ _ _) rfl ?_ | refine WS.store (j:=5) rfl rfl (by first | decide | omega | (simp; done) | (simp; omega) | exact Nat.le_of_ble_eq_true rfl) rfl (by first | rfl | assumption) tk4 rfl rfl ?_ | refine WS.store (j:=5) rfl rfl (by first | decide | omega | (simp; done) | (simp; omega) | exact Nat.le_of_ble_eq_true rfl) rfl (by first | rfl | assumption) tk4 (Jab _ _ _) rfl ?_ | refine WS.store (j:=6) rfl rfl (by first | decide | omega | (simp; done) | (simp; omega) | exact Nat.le_of_ble_eq_true rfl) rfl (by first | rfl | assumption) tk4 rfl rfl ?_ | refine WS.store (j:=6) rfl rfl (by first | decide | omega | (simp; done) | (simp; omega) | exact Nat.le_of_ble_eq_true rfl) rfl (by first | rfl | assumption) tk4 (Jab _ _ _) rfl ?_ | refine WS.store (j:=7) rfl rfl (by first | decide | omega | (simp; done) | (simp; omega) | exact Nat.le_of_ble_eq_true rfl) rfl (by first | rfl | assumption) tk4 rfl rfl ?_ | refine WS.store (j:=7) rfl rfl (by first | decide | omega | (simp; done) | (simp; omega) | exact Nat.le_of_ble_eq_true rfl) rfl (by first | rfl | assumption) tk4 (Jab _ _ _) rfl ?_ | refine WS.store (j:=8) rfl rfl (by first | decide | omega | (simp; done) | (simp; omega) | exact Nat.le_of_ble_eq_true rfl) rfl (by first | rfl | assumption) tk4 rfl rfl ?_ | refine WS.store (j:=8) rfl rfl (by first | decide | omega | (simp; done) | (simp; omega) | exact Nat.le_of_ble_eq_true rfl) rfl (by first | rfl | assumption) tk4 (Jab _ _ _) rfl ?_ | refine WS.store (j:=9) rfl rfl (by first | decide | omega | (simp; done) | (simp; omega) | exact Nat.le_of_ble_eq_true rfl) rfl (by first | rfl | assumption) tk4 rfl rfl ?_ | refine WS.store (j:=9) rfl rfl (by first | decide | omega | (simp; done) | (simp; omega) | exact Nat.le_of_ble_eq_true rfl) rfl (by first | rfl | assumption) tk4 (Jab _ _ _) rfl ?_ | refine WS.store (j:=10) rfl rfl (by first | decide | omega | (simp; done) | (simp; omega) | exact Nat.le_of_ble_eq_true rfl) rfl (by first | rfl | assumption) tk4 rfl rfl ?_ | refine WS.store (j:=10) rfl rfl (by first | decide | omega | (simp; done) | (simp; omega) | exact Nat.le_of_ble_eq_true rfl) rfl (by first | rfl | assumption) tk4 (Jab _ _ _) rfl ?_ | refine WS.store (j:=11) rfl rfl (by first | decide | omega | (simp; done) | (simp; omega) | exact Nat.le_of_ble_eq_true rfl) rfl (by first | rfl | assumption) tk4 rfl rfl ?_ | refine WS.store (j:=11) rfl rfl (by first | decide | omega | (simp; done) | (simp; omega) | exact Nat.le_of_ble_eq_true rfl) rfl (by first | rfl | assumption) tk4 (Jab _ _ _) rfl ?_ | refine WS.store (j:=12) rfl rfl (by first | decide | omega | (simp; done) | (simp; omega) | exact Nat.le_of_ble_eq_true rfl) rfl (by first | rfl | assumption) tk4 rfl rfl ?_ | refine WS.store (j:=12) rfl rfl (by first | decide | omega | (simp; done) | (simp; omega) | exact Nat.le_of_ble_eq_true rfl) rfl (by first | rfl | assumption) tk4 (Jab _ _ _) rfl ?_ | refine WS.store (j:=13) rfl rfl (by first | decide | omega | (simp; done) | (simp; omega) | exact Nat.le_of_ble_eq_true rfl) rfl (by first | rfl | assumption) tk4 rfl rfl ?_ | refine WS.store (j:=13) rfl rfl (by first | decide | omega | (simp; done) | (simp; omega) | exact Nat.le_of_ble_eq_true rfl) rfl (by first | rfl | assumption) tk4 (Jab _ _ _) rfl ?_
     refine WS.weak (fun u hu=>St.pack (L1:=Jaj b19 rb ⟨r0,y.1.1,y.1.2 || decide ((y.2.2.length:Int)=0)⟩) hu) ?_
     refine Wd ?_
     refine QS.sel [1,0,0,0,0,0] rfl ?_
     refine QS.weak (fun u hu=>St.toRo (p:=fun u=>SlT cPut u ⟨y.2.1,y.2.2⟩) (fun S u h=>⟨Star.osl (L:=[oT cPut 75 y.2.1 y.2.2]) (j:=0) rfl ⟨S,fun _ h=>h,h,trivial⟩,fun _ _=>trivial⟩) hu) ?_
     refine QS.roE (j:=0) rfl fun hpt=>?_
     refine QS.sel [1,0,0,0,0,0] rfl ?_
     exact QS.head ((y.1.1,y.1.2 || decide ((y.2.2.length:Int)=0),⟨y.2.1,y.2.2⟩)) rfl rfl ⟨Rel.eq (Jri hr11 hfin) (Jpd _ _),hxy,hpt⟩
    subst hc9
    refine Ck ?_
    refine QS.weak (fun u hu=>St.roTrue hu (p:=fun u=>SlT cPut u ⟨.slice none 0 0,[]⟩) (SlT.nil cPut)) ?_
    refine QS.sel [1,0,0,0,0,0] rfl ?_
    exact QS.head ((w11,b11,⟨.slice none 0 0,[]⟩)) rfl rfl ⟨Rel.eq (Jgn hr11) (Jpd _ _),hx11,w,SlT.nil _ _⟩
   intro z t hs
   obtain ⟨hr13,hx13,up,hpsx⟩:=hs
   have hpso:=Sl.one hpsx
   refine Nz 1 ?_
   refine WS.callP rfl rfl Juq (fun u hu=>RlL.lw (Jkj (star _) b19 rb ⟨r0,z.1,z.2.1⟩ (St.tailPack (hu)) (Jb3 ht hx13 z.2.1) Jj1)) (fun _=>rfl) (fun hq u hu=>hq.elim) ?_; rintro ⟨⟨w14,b14⟩,spd⟩ ⟨hr14,hx14_,uspd,hspdx⟩
   have hspdo:=Sl.one hspdx
   have hx14:w14.l <:+ Jaf 32 t0:=hx14_.trans hx13
   refine Wz 1 ?_
   refine Ws 0 5 ?_
   refine Wd (Qc (Nz 1 ?_))
   refine WS.callP rfl rfl Juq (fun u hu=>RlL.lw (Jkj (star _) b19 rb ⟨r0,w14,b14⟩ (St.tailPack (hu)) (Jb3 ht hx14 b14) Jks)) (fun _=>rfl) (fun hq u hu=>hq.elim) ?_; rintro ⟨⟨w15,b15⟩,brg⟩ ⟨hr15,hx15_,ubrg,hbrgx⟩
   have hbrgo:=Sl.one hbrgx
   have hx15:w15.l <:+ Jaf 32 t0:=hx15_.trans hx14
   refine Wz 1 ?_
   refine Ws 0 6 ?_
   refine Wd (Qc ?_)
   refine CS.stE fun hst=>?_
   obtain ⟨ua,hua⟩:=hst
   have hact:cAct.ok ua ⟨nm,pl,q.2.2,us,wh,z.2.2,spd,brg⟩:=⟨hua.ro (j:=5) rfl,hua.ro (j:=4) rfl,hua.ro (j:=3) rfl,hua.ro (j:=2) rfl,hua.ro (j:=1) rfl⟩
   refine CS.weak (fun u hu=>St.unpack (L1:=Jaj b19 rb ⟨r0,w15,b15⟩) hu) ?_
   refine CS.drawnTill 7 (k:=11) mixed rfl rfl ?_
   refine Tr 11 [1,2,3] ?_
   refine Tk 11 4 [] rfl (by first | exact Jaa (j:=0) rfl rfl rfl tk27 | exact Jaa (j:=1) rfl rfl rfl tk27 | exact Jaa (j:=2) rfl rfl rfl tk27 | exact Jaa (j:=3) rfl rfl rfl tk27 | exact Jaa (j:=4) rfl rfl rfl tk27 | exact Jaa (j:=5) rfl rfl rfl tk27 | exact Jaa (j:=6) rfl rfl rfl tk27 | exact Jaa (j:=7) rfl rfl rfl tk27 | exact Jaa (j:=8) rfl rfl rfl tk27 | exact Jaa (j:=9) rfl rfl rfl tk27 | exact Jaa (j:=10) rfl rfl rfl tk27 | exact Jaa (j:=11) rfl rfl rfl tk27 | exact Jaa (j:=12) rfl rfl rfl tk27 | exact Jaa (j:=13) rfl rfl rfl tk27 | exact Jah rfl (by assumption) rfl tk27) ?_
   refine Tk 11 5 [] rfl (by first | exact Jad (j:=16) rfl rfl tk73 | exact Jac (j:=16) rfl rfl (by rfl) tk73 | exact Ja2 rfl (by assumption) (by rfl) tk73 | exact Jae (n:=8) (j:=16) rfl rfl rfl rfl tk73) ?_
   refine AT.takeP 0 rfl (by kernel_rfl) rfl (by kernel_rfl) (by kernel_rfl) rfl rfl (Jay rfl) rfl rfl ?_
   refine To 6 rfl ?_
   refine WS.buildT1 cAct (a:=⟨nm,pl,q.2.2,us,wh,z.2.2,spd,brg⟩) sl27 zv73 rfl (by decide) (fun _=>rfl) ?_; intro v198
   refine Wd (Qt ?_)
   refine To 7 rfl ?_
   refine WS.appendT1 (C:=cAct) (a:=⟨nm,pl,q.2.2,us,wh,z.2.2,spd,brg⟩) (j:=8) (jz:=0) sl27 zv73 rfl (by decide) rfl rfl rfl rfl (w:=ua) hact (by (try simp only); omega) (by (try simp only); omega) (fun _=>rfl) (fun _=>rfl) ?_; intro v199 hv199
   refine Wd (Qt ?_)
   refine To 8 rfl ?_
   refine Wz 1 ?_
   refine Wd (Qt ?_)
   refine To 9 rfl ?_
   refine Wz 1 ?_
   refine Wd (Qt ?_)
   refine To 10 rfl ?_
   first | refine WS.store (j:=0) rfl rfl (by first | decide | omega | (simp; done) | (simp; omega) | exact Nat.le_of_ble_eq_true rfl) rfl (by first | rfl | assumption) tk27 rfl rfl ?_ | refine WS.store (j:=0) rfl rfl (by first | decide | omega | (simp; done) | (simp; omega) | exact Nat.le_of_ble_eq_true rfl) rfl (by first | rfl | assumption) tk27 (Jab _ _ _) rfl ?_ | refine WS.store (j:=1) rfl rfl (by first | decide | omega | (simp; done) | (simp; omega) | exact Nat.le_of_ble_eq_true rfl) rfl (by first | rfl | assumption) tk27 rfl rfl ?_ | refine WS.store (j:=1) rfl rfl (by first | decide | omega | (simp; done) | (simp; omega) | exact Nat.le_of_ble_eq_true rfl) rfl (by first | rfl | assumption) tk27 (Jab _ _ _) rfl ?_ | refine WS.store (j:=2) rfl rfl (by first | decide | omega | (simp; done) | (simp; omega) | exact Nat.le_of_ble_eq_true rfl) rfl (by first | rfl | assumption) tk27 rfl rfl ?_ | refine WS.store (j:=2) rfl rfl (by first | decide | omega | (simp; done) | (simp; omega) | exact Nat.le_of_ble_eq_true rfl) rfl (by first | rfl | assumption) tk27 (Jab _ _ _) rfl ?_ | refine WS.store (j:=3) rfl rfl (by first | decide | omega | (simp; done) | (simp; omega) | exact Nat.le_of_ble_eq_true rfl) rfl (by first | rfl | assumption) tk27 rfl rfl ?_ | refine WS.store (j:=3) rfl rfl (by first | decide | omega | (simp; done) | (simp; omega) | exact Nat.le_of_ble_eq_true rfl) rfl (by first | rfl | assumption) tk27 (Jab _ _ _) rfl ?_ | refine WS.store (j:=4) rfl rfl (by first | decide | omega | (simp; done) | (simp; omega) | exact Nat.le_of_ble_eq_true rfl) rfl (by first | rfl | assumption) tk27 rfl rfl ?_ | refine WS.store (j:=4) rfl rfl (by first | decide | omega | (simp; done) | (simp; omega) | exact Nat.le_of_ble_eq_true rfl) rfl (by first | rfl | assumption) tk27 (Jab _ _ _) rfl ?_ | refine WS.store (j:=5) rfl rfl (by first | decide | omega | (simp; done) | (simp; omega) | exact Nat.le_of_ble_eq_true rfl) rfl (by first | rfl | assumption) tk27 rfl rfl ?_ | refine WS.store (j:=5) rfl rfl (by first | decide | omega | (simp; done) | (simp; omega) | exact Nat.le_of_ble_eq_true rfl) rfl (by first | rfl | assumption) tk27 (Jab _ _ _) rfl ?_ | refine WS.store (j:=6) rfl rfl (by first | decide | omega | (simp; done) | (simp; omega) | exact Nat.le_of_ble_eq_true rfl) rfl (by first | rfl | assumption) tk27 rfl rfl ?_ | refine WS.store (j:=6) rfl rfl (by first | decide | omega | (simp; done) | (simp; omega) | exact Nat.le_of_ble_eq_true rfl) rfl (by first | rfl | assumption) tk27 (Jab _ _ _) rfl ?_ | refine WS.store (j:=7) rfl rfl (by first | decide | omega | (simp; done) | (simp; omega) | exact Nat.le_of_ble_eq_true rfl) rfl (by first | rfl | assumption) tk27 rfl rfl ?_ | refine WS.store (j:=7) rfl rfl (by first | decide | omega | (simp; done) | (simp; omega) | exact Nat.le_of_ble_eq_true rfl) rfl (by first | rfl | assumption) tk27 (Jab _ _ _) rfl ?_ | refine WS.store (j:=8) rfl rfl (by first | decide | omega | (simp; done) | (simp; omega) | exact Nat.le_of_ble_eq_true rfl) rfl (by first | rfl | assumption) tk27 rfl rfl ?_ | refine WS.store (j:=8) rfl rfl (by first | decide | omega | (simp; done) | (simp; omega) | exact Nat.le_of_ble_eq_true rfl) rfl (by first | rfl | assumption) tk27 (Jab _ _ _) rfl ?_ | refine WS.store (j:=9) rfl rfl (by first | decide | omega | (simp; done) | (simp; omega) | exact Nat.le_of_ble_eq_true rfl) rfl (by first | rfl | assumption) tk27 rfl rfl ?_ | refine WS.store (j:=9) rfl rfl (by first | decide | omega | (simp; done) | (simp; omega) | exact Nat.le_of_ble_eq_true rfl) rfl (by first | rfl | assumption) tk27 (Jab _ _ _) rfl ?_ | refine WS.store (j:=10) rfl rfl (by first | decide | omega | (simp; done) | (simp; omega) | exact Nat.le_of_ble_eq_true rfl) rfl (by first | rfl | assumption) tk27 rfl rfl ?_ | refine WS.store (j:=10) rfl rfl (by first | decide | omega | (simp; done) | (simp; omega) | exact Nat.le_of_ble_eq_true rfl) rfl (by first | rfl | assumption) tk27 (Jab _ _ _) rfl ?_ | refine WS.store (j:=11) rfl rfl (by first | decide | omega | (simp; done) | (simp; omega) | exact Nat.le_of_ble_eq_true rfl) rfl (by first | rfl | assumption) tk27 rfl rfl ?_ | refine WS.store (j:=11) rfl rfl (by first | decide | omega | (simp; done) | (simp; omega) | exact Nat.le_of_ble_eq_true rfl) rfl (by first | rfl | assumption) tk27 (Jab _ _ _) rfl ?_ | refine WS.store (j:=12) rfl rfl (by first | decide | omega | (simp; done) | (simp; omega) | exact Nat.le_of_ble_eq_true rfl) rfl (by first | rfl | assumption) tk27 rfl rfl ?_ | refine WS.store (j:=12) rfl rfl (by first | decide | omega | (simp; done) | (simp; omega) | exact Nat.le_of_ble_eq_true rfl) rfl (by first | rfl | assumption) tk27 (Jab _ _ _) rfl ?_ | refine WS.store (j:=13) rfl rfl (by first | decide | omega | (simp; done) | (simp; omega) | exact Nat.le_of_ble_eq_true rfl) rfl (by first | rfl | assumption) tk27 rfl rfl ?_ | refine WS.store (j:=13) rfl rfl (by first | decide | omega | (simp; done) | (simp; omega) | exact Nat.le_of_ble_eq_true rfl) rfl (by first | rfl | assumption) tk27 (Jab _ _ _) rfl ?_
   refine WS.sel [10,15,14,13,12,11,0,0,0,0,0,0,0,0,0,0,0,0,0] rfl ?_
   refine WS.weak (fun u hu=>Juu (r:={ r0 with acs:=⟨v199,r0.acs.l++[⟨nm,pl,q.2.2,us,wh,z.2.2,spd,brg⟩]⟩ }) (fun u h1 h2 h3 h4 h5 h6=>el4.acs (x:=⟨nm,pl,q.2.2,us,wh,z.2.2,spd,brg⟩) v199 h1 ⟨h2,h3,h4,h5,h6⟩) hu) ?_
   refine WS.sel [2,2,2,2,2,2,2,2,2,0,1,2] rfl ?_
   refine WS.weak (fun u hu=>St.pack (L1:=Jaj b19 rb ⟨{ r0 with acs:=⟨v199,r0.acs.l++[⟨nm,pl,q.2.2,us,wh,z.2.2,spd,brg⟩]⟩ },w15,b15⟩) hu) ?_
   refine Wd (Qt ?_)
   refine Te ?_
   exact Qb (QS.head (({ r0 with acs:=⟨v199,r0.acs.l++[⟨nm,pl,q.2.2,us,wh,z.2.2,spd,brg⟩]⟩ },w15,b15,.act nm pl q.2.2 us.l wh.l z.2.2.l spd.l brg.l)) rfl rfl ⟨Rel.eq (hr3.bind (hr4.bindM (hr5.bind (hr7.bind (hr8.bind (hr10.bind (hr13.bind (hr14.bind (Rel.map (fun b=>Ln.act nm pl q.2.2 us.l wh.l z.2.2.l spd.l b) hr15))))))))) (by rw [hki]; rfl),by simp [Room.e,addL,Sl.e,nls,Pro.e,Way.e,Actn.e,Auto.e]⟩)
  have hkn4:¬ k=4:=hc7
  refine Nz 2 ?_
  refine Wd (Qc (CS.cond rfl ?_ ?_))<;>intro hc11<;>try simp only [bq] at hc11
  ·
   have hki:k=5:=hc11
   refine Nz 1 ?_
   refine WS.callP rfl rfl Jr8 (fun u hu=>RlX.lw (Jet (star _) b19 rb ⟨r0,w1,false⟩ (St.tailPack (hu)) (Jb3 ht hx1 false) false)) (fun _=>rfl) (fun hq u hu=>hq.elim) ?_; rintro ⟨⟨w3,b3⟩,a⟩ ⟨hr3,hx3_,_⟩
   have hx3:w3.l <:+ Jaf 32 t0:=hx3_.trans hx1
   refine Wl 0 zv96 (fun _=>rfl) (fun _=>rfl) fun b14 hb14=>?_
   refine Wv 0 0 ?_
   refine Wd (Qc ?_)
   refine CS.sel [1,0,0] rfl ?_
   refine CS.drawnTillC 14 ((fun u=>∃ z:Sl ByteArray × Bool,True∧St w.heap.size w [rl b19 rb ⟨r0,z.1,z.2⟩,blk b14 (cLit.cells a) 96,R] u)) (k:=18) mixed rfl rfl ?_
   refine Tr 18 [1,2,3] ?_
   refine Tk 18 4 [5] rfl (Jcr (v:=r0.aus.v) fun z _=>Jkp rfl rfl tk28) ?_
   refine Tk 18 6 [7] rfl (Jcr fun z _=>Jaa (j:=1) rfl rfl rfl tk3) ?_
   refine Tk 18 8 [] rfl (Jcr fun z _=>Jaa (j:=1) rfl rfl rfl tk3) ?_
   refine Tk 18 9 [10] rfl (Db Jpl zv75) ?_
   refine AT.takeP 0 rfl (by kernel_rfl) rfl (by kernel_rfl) (by kernel_rfl) rfl rfl (Jay rfl) rfl rfl ?_
   refine AT.one (i:=11) (by kernel_rfl) rfl (fun _ u hu=>⟨(w3,b3),trivial,hu⟩) rfl ?_
   refine WS.callP rfl rfl Jra (fun u hu=>RlL.lw (If_c (star _) b19 rb ⟨r0,w3,b3⟩ (St.tailPack (hu)) (Jb3 ht hx3 b3))) (fun _=>rfl) (fun hq u hu=>hq.elim) ?_; rintro ⟨⟨w8,b8⟩,c⟩ ⟨hr8,hx8_,uc,hcx⟩
   have hco:=Sl.one hcx
   have hx8:w8.l <:+ Jaf 32 t0:=hx8_.trans hx3
   refine Wd (Qt ?_)
   refine Tk 18 12 [] rfl (Jg9 Jyv zv77 (pcs:=[(1,[.int .i64 a.t,.int .i64 a.s]),(0,[c.v])]) rfl (CellsOf.agg (CellsOf.oneO hco CellsOf.nil)) rfl) ?_
   refine AT.one (i:=13) (by kernel_rfl) rfl (fun _ u hu=>⟨(w8,b8),trivial,hu.sel [0,1,1] rfl⟩) rfl ?_
   refine WS.buildT1 cAuto (a:=⟨c,a.t,a.s⟩) sl28 zv77 rfl (by decide) (fun _=>rfl) ?_; intro v219
   refine Wd (Qt ?_)
   refine AT.one (i:=14) (by kernel_rfl) rfl (fun _ u hu=>⟨(w8,b8),trivial,hu.sel [1,2,2] rfl⟩) rfl ?_
   refine WS.sel [1,0,0,0,0] rfl ?_
   refine WS.weak (fun u hu=>St.unpack (L1:=Jaj b19 rb ⟨r0,w8,b8⟩) hu) ?_
   refine WS.appendT1 (C:=cAuto) (a:=⟨c,a.t,a.s⟩) (j:=8) (jz:=11) sl28 zv77 rfl (by decide) rfl rfl rfl rfl (w:=uc) hcx (by (try simp only); omega) (by (try simp only); omega) (fun _=>rfl) (fun _=>rfl) ?_; intro v220 hv220
   refine Wd (Qt ?_)
   refine To 15 rfl ?_
   refine Wz 1 ?_
   refine Wd (Qt ?_)
   refine To 16 rfl ?_
   refine Wz 1 ?_
   refine Wd (Qt ?_)
   refine To 17 rfl ?_
   first | refine WS.store (j:=0) rfl rfl (by first | decide | omega | (simp; done) | (simp; omega) | exact Nat.le_of_ble_eq_true rfl) rfl (by first | rfl | assumption) tk28 rfl rfl ?_ | refine WS.store (j:=0) rfl rfl (by first | decide | omega | (simp; done) | (simp; omega) | exact Nat.le_of_ble_eq_true rfl) rfl (by first | rfl | assumption) tk28 (Jab _ _ _) rfl ?_ | refine WS.store (j:=1) rfl rfl (by first | decide | omega | (simp; done) | (simp; omega) | exact Nat.le_of_ble_eq_true rfl) rfl (by first | rfl | assumption) tk28 rfl rfl ?_ | refine WS.store (j:=1) rfl rfl (by first | decide | omega | (simp; done) | (simp; omega) | exact Nat.le_of_ble_eq_true rfl) rfl (by first | rfl | assumption) tk28 (Jab _ _ _) rfl ?_ | refine WS.store (j:=2) rfl rfl (by first | decide | omega | (simp; done) | (simp; omega) | exact Nat.le_of_ble_eq_true rfl) rfl (by first | rfl | assumption) tk28 rfl rfl ?_ | refine WS.store (j:=2) rfl rfl (by first | decide | omega | (simp; done) | (simp; omega) | exact Nat.le_of_ble_eq_true rfl) rfl (by first | rfl | assumption) tk28 (Jab _ _ _) rfl ?_ | refine WS.store (j:=3) rfl rfl (by first | decide | omega | (simp; done) | (simp; omega) | exact Nat.le_of_ble_eq_true rfl) rfl (by first | rfl | assumption) tk28 rfl rfl ?_ | refine WS.store (j:=3) rfl rfl (by first | decide | omega | (simp; done) | (simp; omega) | exact Nat.le_of_ble_eq_true rfl) rfl (by first | rfl | assumption) tk28 (Jab _ _ _) rfl ?_ | refine WS.store (j:=4) rfl rfl (by first | decide | omega | (simp; done) | (simp; omega) | exact Nat.le_of_ble_eq_true rfl) rfl (by first | rfl | assumption) tk28 rfl rfl ?_ | refine WS.store (j:=4) rfl rfl (by first | decide | omega | (simp; done) | (simp; omega) | exact Nat.le_of_ble_eq_true rfl) rfl (by first | rfl | assumption) tk28 (Jab _ _ _) rfl ?_ | refine WS.store (j:=5) rfl rfl (by first | decide | omega | (simp; done) | (simp; omega) | exact Nat.le_of_ble_eq_true rfl) rfl (by first | rfl | assumption) tk28 rfl rfl ?_ | refine WS.store (j:=5) rfl rfl (by first | decide | omega | (simp; done) | (simp; omega) | exact Nat.le_of_ble_eq_true rfl) rfl (by first | rfl | assumption) tk28 (Jab _ _ _) rfl ?_ | refine WS.store (j:=6) rfl rfl (by first | decide | omega | (simp; done) | (simp; omega) | exact Nat.le_of_ble_eq_true rfl) rfl (by first | rfl | assumption) tk28 rfl rfl ?_ | refine WS.store (j:=6) rfl rfl (by first | decide | omega | (simp; done) | (simp; omega) | exact Nat.le_of_ble_eq_true rfl) rfl (by first | rfl | assumption) tk28 (Jab _ _ _) rfl ?_ | refine WS.store (j:=7) rfl rfl (by first | decide | omega | (simp; done) | (simp; omega) | exact Nat.le_of_ble_eq_true rfl) rfl (by first | rfl | assumption) tk28 rfl rfl ?_ | refine WS.store (j:=7) rfl rfl (by first | decide | omega | (simp; done) | (simp; omega) | exact Nat.le_of_ble_eq_true rfl) rfl (by first | rfl | assumption) tk28 (Jab _ _ _) rfl ?_ | refine WS.store (j:=8) rfl rfl (by first | decide | omega | (simp; done) | (simp; omega) | exact Nat.le_of_ble_eq_true rfl) rfl (by first | rfl | assumption) tk28 rfl rfl ?_ | refine WS.store (j:=8) rfl rfl (by first | decide | omega | (simp; done) | (simp; omega) | exact Nat.le_of_ble_eq_true rfl) rfl (by first | rfl | assumption) tk28 (Jab _ _ _) rfl ?_ | refine WS.store (j:=9) rfl rfl (by first | decide | omega | (simp; done) | (simp; omega) | exact Nat.le_of_ble_eq_true rfl) rfl (by first | rfl | assumption) tk28 rfl rfl ?_ | refine WS.store (j:=9) rfl rfl (by first | decide | omega | (simp; done) | (simp; omega) | exact Nat.le_of_ble_eq_true rfl) rfl (by first | rfl | assumption) tk28 (Jab _ _ _) rfl ?_ | refine WS.store (j:=10) rfl rfl (by first | decide | omega | (simp; done) | (simp; omega) | exact Nat.le_of_ble_eq_true rfl) rfl (by first | rfl | assumption) tk28 rfl rfl ?_ | refine WS.store (j:=10) rfl rfl (by first | decide | omega | (simp; done) | (simp; omega) | exact Nat.le_of_ble_eq_true rfl) rfl (by first | rfl | assumption) tk28 (Jab _ _ _) rfl ?_ | refine WS.store (j:=11) rfl rfl (by first | decide | omega | (simp; done) | (simp; omega) | exact Nat.le_of_ble_eq_true rfl) rfl (by first | rfl | assumption) tk28 rfl rfl ?_ | refine WS.store (j:=11) rfl rfl (by first | decide | omega | (simp; done) | (simp; omega) | exact Nat.le_of_ble_eq_true rfl) rfl (by first | rfl | assumption) tk28 (Jab _ _ _) rfl ?_ | refine WS.store (j:=12) rfl rfl (by first | decide | omega | (simp; done) | (simp; omega) | exact Nat.le_of_ble_eq_true rfl) rfl (by first | rfl | assumption) tk28 rfl rfl ?_ | refine WS.store (j:=12) rfl rfl (by first | decide | omega | (simp; done) | (simp; omega) | exact Nat.le_of_ble_eq_true rfl) rfl (by first | rfl | assumption) tk28 (Jab _ _ _) rfl ?_ | refine WS.store (j:=13) rfl rfl (by first | decide | omega | (simp; done) | (simp; omega) | exact Nat.le_of_ble_eq_true rfl) rfl (by first | rfl | assumption) tk28 rfl rfl ?_ | refine WS.store (j:=13) rfl rfl (by first | decide | omega | (simp; done) | (simp; omega) | exact Nat.le_of_ble_eq_true rfl) rfl (by first | rfl | assumption) tk28 (Jab _ _ _) rfl ?_
   refine WS.sel [9,11,0,0,0,0,0,0,0,0,0,0,0,0,0] rfl ?_
   refine WS.weak (fun u hu=>Jdw (r:=el4 { r0 with aus:=⟨v220,r0.aus.l++[⟨c,a.t,a.s⟩]⟩ }) (fun u h1 h2=>el4.aus (x:=⟨c,a.t,a.s⟩) v220 h1 h2) hu) ?_
   refine WS.sel [1,1,1,1,1,1,1,1,1,0,0,2] rfl ?_
   refine WS.weak (fun u hu=>St.pack (L1:=Jaj b19 rb ⟨{ r0 with aus:=⟨v220,r0.aus.l++[⟨c,a.t,a.s⟩]⟩ },w8,b8⟩) hu) ?_
   refine Wd (Qt ?_)
   refine Te ?_
   exact Qb (QS.head (({ r0 with aus:=⟨v220,r0.aus.l++[⟨c,a.t,a.s⟩]⟩ },w8,b8,.auto a.t a.s c.l)) rfl rfl ⟨Rel.eq (Rel.eq (hr3.bind (Rel.map (fun c=>Ln.auto a.t a.s c) hr8)) (Jvd r0 w1.l)) (by rw [hki]; rfl),by simp [Room.e,addL,Sl.e,nls,Pro.e,Way.e,Actn.e,Auto.e]⟩)
  have hkn5:¬ k=5:=hc11
  refine Nz 2 ?_
  refine Wd (Qc (CS.cond rfl ?_ ?_))<;>intro hc12<;>try simp only [bq] at hc12
  ·
   have hki:k=6:=hc12
   refine Ny 2 ?_
   refine WS.callP rfl rfl Jr6 (fun u hu=>RlX.lw (Jmf (star _) b19 rb ⟨r0,w1,false⟩ (St.tailPack (hu)) (Jb3 ht hx1 false) 2 (by decide))) (fun _=>rfl) (fun hq u hu=>hq.elim) ?_; rintro ⟨⟨w3,b3⟩,n⟩ ⟨hr3,hx3_,_⟩
   have hx3:w3.l <:+ Jaf 32 t0:=hx3_.trans hx1
   refine Wz 2 ?_
   refine WS.weak (fun u hu=>St.unpack (L1:=Jaj b19 rb ⟨r0,w3,b3⟩) hu) ?_
   first | refine WS.store (j:=0) rfl rfl (by first | decide | omega | (simp; done) | (simp; omega) | exact Nat.le_of_ble_eq_true rfl) rfl (by first | rfl | assumption) tk3 rfl rfl ?_ | refine WS.store (j:=0) rfl rfl (by first | decide | omega | (simp; done) | (simp; omega) | exact Nat.le_of_ble_eq_true rfl) rfl (by first | rfl | assumption) tk3 (Jab _ _ _) rfl ?_ | refine WS.store (j:=1) rfl rfl (by first | decide | omega | (simp; done) | (simp; omega) | exact Nat.le_of_ble_eq_true rfl) rfl (by first | rfl | assumption) tk3 rfl rfl ?_ | refine WS.store (j:=1) rfl rfl (by first | decide | omega | (simp; done) | (simp; omega) | exact Nat.le_of_ble_eq_true rfl) rfl (by first | rfl | assumption) tk3 (Jab _ _ _) rfl ?_ | refine WS.store (j:=2) rfl rfl (by first | decide | omega | (simp; done) | (simp; omega) | exact Nat.le_of_ble_eq_true rfl) rfl (by first | rfl | assumption) tk3 rfl rfl ?_ | refine WS.store (j:=2) rfl rfl (by first | decide | omega | (simp; done) | (simp; omega) | exact Nat.le_of_ble_eq_true rfl) rfl (by first | rfl | assumption) tk3 (Jab _ _ _) rfl ?_ | refine WS.store (j:=3) rfl rfl (by first | decide | omega | (simp; done) | (simp; omega) | exact Nat.le_of_ble_eq_true rfl) rfl (by first | rfl | assumption) tk3 rfl rfl ?_ | refine WS.store (j:=3) rfl rfl (by first | decide | omega | (simp; done) | (simp; omega) | exact Nat.le_of_ble_eq_true rfl) rfl (by first | rfl | assumption) tk3 (Jab _ _ _) rfl ?_ | refine WS.store (j:=4) rfl rfl (by first | decide | omega | (simp; done) | (simp; omega) | exact Nat.le_of_ble_eq_true rfl) rfl (by first | rfl | assumption) tk3 rfl rfl ?_ | refine WS.store (j:=4) rfl rfl (by first | decide | omega | (simp; done) | (simp; omega) | exact Nat.le_of_ble_eq_true rfl) rfl (by first | rfl | assumption) tk3 (Jab _ _ _) rfl ?_ | refine WS.store (j:=5) rfl rfl (by first | decide | omega | (simp; done) | (simp; omega) | exact Nat.le_of_ble_eq_true rfl) rfl (by first | rfl | assumption) tk3 rfl rfl ?_ | refine WS.store (j:=5) rfl rfl (by first | decide | omega | (simp; done) | (simp; omega) | exact Nat.le_of_ble_eq_true rfl) rfl (by first | rfl | assumption) tk3 (Jab _ _ _) rfl ?_ | refine WS.store (j:=6) rfl rfl (by first | decide | omega | (simp; done) | (simp; omega) | exact Nat.le_of_ble_eq_true rfl) rfl (by first | rfl | assumption) tk3 rfl rfl ?_ | refine WS.store (j:=6) rfl rfl (by first | decide | omega | (simp; done) | (simp; omega) | exact Nat.le_of_ble_eq_true rfl) rfl (by first | rfl | assumption) tk3 (Jab _ _ _) rfl ?_ | refine WS.store (j:=7) rfl rfl (by first | decide | omega | (simp; done) | (simp; omega) | exact Nat.le_of_ble_eq_true rfl) rfl (by first | rfl | assumption) tk3 rfl rfl ?_ | refine WS.store (j:=7) rfl rfl (by first | decide | omega | (simp; done) | (simp; omega) | exact Nat.le_of_ble_eq_true rfl) rfl (by first | rfl | assumption) tk3 (Jab _ _ _) rfl ?_ | refine WS.store (j:=8) rfl rfl (by first | decide | omega | (simp; done) | (simp; omega) | exact Nat.le_of_ble_eq_true rfl) rfl (by first | rfl | assumption) tk3 rfl rfl ?_ | refine WS.store (j:=8) rfl rfl (by first | decide | omega | (simp; done) | (simp; omega) | exact Nat.le_of_ble_eq_true rfl) rfl (by first | rfl | assumption) tk3 (Jab _ _ _) rfl ?_ | refine WS.store (j:=9) rfl rfl (by first | decide | omega | (simp; done) | (simp; omega) | exact Nat.le_of_ble_eq_true rfl) rfl (by first | rfl | assumption) tk3 rfl rfl ?_ | refine WS.store (j:=9) rfl rfl (by first | decide | omega | (simp; done) | (simp; omega) | exact Nat.le_of_ble_eq_true rfl) rfl (by first | rfl | assumption) tk3 (Jab _ _ _) rfl ?_ | refine WS.store (j:=10) rfl rfl (by first | decide | omega | (simp; done) | (simp; omega) | exact Nat.le_of_ble_eq_true rfl) rfl (by first | rfl | assumption) tk3 rfl rfl ?_ | refine WS.store (j:=10) rfl rfl (by first | decide | omega | (simp; done) | (simp; omega) | exact Nat.le_of_ble_eq_true rfl) rfl (by first | rfl | assumption) tk3 (Jab _ _ _) rfl ?_ | refine WS.store (j:=11) rfl rfl (by first | decide | omega | (simp; done) | (simp; omega) | exact Nat.le_of_ble_eq_true rfl) rfl (by first | rfl | assumption) tk3 rfl rfl ?_ | refine WS.store (j:=11) rfl rfl (by first | decide | omega | (simp; done) | (simp; omega) | exact Nat.le_of_ble_eq_true rfl) rfl (by first | rfl | assumption) tk3 (Jab _ _ _) rfl ?_ | refine WS.store (j:=12) rfl rfl (by first | decide | omega | (simp; done) | (simp; omega) | exact Nat.le_of_ble_eq_true rfl) rfl (by first | rfl | assumption) tk3 rfl rfl ?_ | refine WS.store (j:=12) rfl rfl (by first | decide | omega | (simp; done) | (simp; omega) | exact Nat.le_of_ble_eq_true rfl) rfl (by first | rfl | assumption) tk3 (Jab _ _ _) rfl ?_ | refine WS.store (j:=13) rfl rfl (by first | decide | omega | (simp; done) | (simp; omega) | exact Nat.le_of_ble_eq_true rfl) rfl (by first | rfl | assumption) tk3 rfl rfl ?_ | refine WS.store (j:=13) rfl rfl (by first | decide | omega | (simp; done) | (simp; omega) | exact Nat.le_of_ble_eq_true rfl) rfl (by first | rfl | assumption) tk3 (Jab _ _ _) rfl ?_
   refine WS.sel [0,0,0,0,0,0,0,0,0,0,0,0] rfl ?_
   refine WS.weak (fun u hu=>St.pack (L1:=Jaj b19 rb ⟨{ r0 with ply:=n },w3,b3⟩) hu) ?_
   exact Wd (Qb (QS.head (({ r0 with ply:=n },w3,b3,.players n)) rfl rfl ⟨Rel.eq (Rel.map Ln.players hr3) (by rw [hki]; rfl),by simp [Room.e,addL,Sl.e,nls,Pro.e,Way.e,Actn.e,Auto.e]⟩))
  have hkn6:¬ k=6:=hc12
  refine Nz 2 ?_
  refine Wd (Qc (CS.cond rfl ?_ ?_))<;>intro hc13<;>try simp only [bq] at hc13
  ·
   have hki:k=7:=hc13
   refine Ce ?_
   refine CS.weak (fun u hu=>Js5 (hgl (by simp only [mayK,Bool.and_eq_true,decide_eq_true_eq,Bool.or_eq_true] at hmay; omega)) hu) ?_
   refine CS.loopM (σ:=(Sl ByteArray × Bool) × Value × List Lit) [232,233,234,235,236,237,238,239,240,241,242,243,244] (fun s=>[]) (fun s=>[rl b19 rb ⟨{ r0 with gl:=⟨s.2.1,s.2.2⟩ },s.1.1,s.1.2⟩,R]) (fun s=>LoopI false (Jbv r0.ths.l) w1.l s.2.2 s.1.1.l s.1.2) (fun s=>2 * s.1.1.l.length+(if s.1.2 then 0 else 1)) ((w1,false),r0.gl.v,[]) (fun _ _=>rfl) rfl rfl (LoopI.start _ _ _) ?_
   intro y t hs
   have hyi:=hs
   have hxy:y.1.1.l <:+ Jaf 32 t0:=hyi.sf.trans hx1
   have hzq:RlS.ok ⟨{ r0 with gl:=⟨y.2.1,y.2.2⟩ },y.1.1,y.1.2⟩:=Jb3 ht hxy y.1.2
   have hlm:=hyi.lm
   have hln:=(Jb3 (r:=r0) ht hx1 false).len
   have hll:y.2.2.length≤65537:=Nat.le_trans hlm hln
   refine Cs (Nz 1 ?_)
   refine WS.callP rfl rfl Jq1 (fun u hu=>RetX.ls (Jlp (star _) b19 rb ⟨{ r0 with gl:=⟨y.2.1,y.2.2⟩ },y.1.1,y.1.2⟩ (St.tailPack hu) hzq)) (fun _=>rfl) (fun hq u hu=>hq.elim) ?_; rintro ⟨⟩ _
   refine Wd (Qc (CS.cond rfl ?_ ?_))<;>intro hc14<;>try simp only [bq] at hc14
   ·
    refine Ck (Qc (Ce ?_))
    refine CS.drawnTillC 8 ((fun u=>∃ z:Sl ByteArray × Bool,True∧St w.heap.size w [rl b19 rb ⟨{ r0 with gl:=⟨y.2.1,y.2.2⟩ },z.1,z.2⟩,R] u)) (k:=12) mixed rfl rfl ?_
    refine Tr 12 [1,2,3] ?_
    refine Tk 12 4 [5] rfl (Jcr (v:=y.2.1) fun z _=>Jkp rfl rfl tk30) ?_
    refine AT.takeP 0 rfl (by kernel_rfl) rfl (by kernel_rfl) (by kernel_rfl) rfl rfl (Jay rfl) rfl rfl ?_
    refine AT.one (i:=6) (by kernel_rfl) rfl (fun _ u hu=>⟨y.1,trivial,hu⟩) rfl ?_
    refine WS.callP rfl rfl Jr8 (fun u hu=>RlX.lw (Jet (star _) b19 rb ⟨{ r0 with gl:=⟨y.2.1,y.2.2⟩ },y.1.1,y.1.2⟩ (St.tailPack hu) hzq true)) (fun _=>rfl) (fun hq u hu=>hq.elim) ?_; rintro ⟨⟨w12,b12_⟩,a⟩ ⟨hr12,hx12_,_⟩
    have hst:=Jhc hc14 hr12
    have hmy:=Jc4 hc14
    refine Wd (Qt ?_)
    refine AT.one (i:=7) (by kernel_rfl) rfl (fun _ u hu=>⟨(w12,b12_),trivial,hu⟩) rfl ?_
    refine WS.buildT1 cLit (a:=a) sl29 zv96 rfl (by decide) (fun _=>rfl) ?_; intro v241
    refine Wd (Qt ?_)
    refine AT.one (i:=8) (by kernel_rfl) rfl (fun _ u hu=>⟨(w12,b12_),trivial,hu.sel [1,1] rfl⟩) rfl ?_
    refine WS.sel [1,0,0] rfl ?_
    refine WS.weak (fun u hu=>St.unpack (L1:=Jaj b19 rb ⟨{ r0 with gl:=⟨y.2.1,y.2.2⟩ },w12,b12_⟩) hu) ?_
    refine WS.appendT1 (C:=cLit) (a:=a) (j:=10) (jz:=11) sl29 zv96 rfl (by decide) rfl rfl rfl rfl (w:=w) trivial (by (try simp only); omega) (by (try simp only); omega) (fun _=>rfl) (fun _=>rfl) ?_; intro v242 hv242
    refine Wd (Qt ?_)
    refine To 9 rfl ?_
    refine Wz 1 ?_
    refine Wd (Qt ?_)
    refine To 10 rfl ?_
    refine Wz 1 ?_
    refine Wd (Qt ?_)
    refine To 11 rfl ?_
    first | refine WS.store (j:=0) rfl rfl (by first | decide | omega | (simp; done) | (simp; omega) | exact Nat.le_of_ble_eq_true rfl) rfl (by first | rfl | assumption) tk30 rfl rfl ?_ | refine WS.store (j:=0) rfl rfl (by first | decide | omega | (simp; done) | (simp; omega) | exact Nat.le_of_ble_eq_true rfl) rfl (by first | rfl | assumption) tk30 (Jab _ _ _) rfl ?_ | refine WS.store (j:=1) rfl rfl (by first | decide | omega | (simp; done) | (simp; omega) | exact Nat.le_of_ble_eq_true rfl) rfl (by first | rfl | assumption) tk30 rfl rfl ?_ | refine WS.store (j:=1) rfl rfl (by first | decide | omega | (simp; done) | (simp; omega) | exact Nat.le_of_ble_eq_true rfl) rfl (by first | rfl | assumption) tk30 (Jab _ _ _) rfl ?_ | refine WS.store (j:=2) rfl rfl (by first | decide | omega | (simp; done) | (simp; omega) | exact Nat.le_of_ble_eq_true rfl) rfl (by first | rfl | assumption) tk30 rfl rfl ?_ | refine WS.store (j:=2) rfl rfl (by first | decide | omega | (simp; done) | (simp; omega) | exact Nat.le_of_ble_eq_true rfl) rfl (by first | rfl | assumption) tk30 (Jab _ _ _) rfl ?_ | refine WS.store (j:=3) rfl rfl (by first | decide | omega | (simp; done) | (simp; omega) | exact Nat.le_of_ble_eq_true rfl) rfl (by first | rfl | assumption) tk30 rfl rfl ?_ | refine WS.store (j:=3) rfl rfl (by first | decide | omega | (simp; done) | (simp; omega) | exact Nat.le_of_ble_eq_true rfl) rfl (by first | rfl | assumption) tk30 (Jab _ _ _) rfl ?_ | refine WS.store (j:=4) rfl rfl (by first | decide | omega | (simp; done) | (simp; omega) | exact Nat.le_of_ble_eq_true rfl) rfl (by first | rfl | assumption) tk30 rfl rfl ?_ | refine WS.store (j:=4) rfl rfl (by first | decide | omega | (simp; done) | (simp; omega) | exact Nat.le_of_ble_eq_true rfl) rfl (by first | rfl | assumption) tk30 (Jab _ _ _) rfl ?_ | refine WS.store (j:=5) rfl rfl (by first | decide | omega | (simp; done) | (simp; omega) | exact Nat.le_of_ble_eq_true rfl) rfl (by first | rfl | assumption) tk30 rfl rfl ?_ | refine WS.store (j:=5) rfl rfl (by first | decide | omega | (simp; done) | (simp; omega) | exact Nat.le_of_ble_eq_true rfl) rfl (by first | rfl | assumption) tk30 (Jab _ _ _) rfl ?_ | refine WS.store (j:=6) rfl rfl (by first | decide | omega | (simp; done) | (simp; omega) | exact Nat.le_of_ble_eq_true rfl) rfl (by first | rfl | assumption) tk30 rfl rfl ?_ | refine WS.store (j:=6) rfl rfl (by first | decide | omega | (simp; done) | (simp; omega) | exact Nat.le_of_ble_eq_true rfl) rfl (by first | rfl | assumption) tk30 (Jab _ _ _) rfl ?_ | refine WS.store (j:=7) rfl rfl (by first | decide | omega | (simp; done) | (simp; omega) | exact Nat.le_of_ble_eq_true rfl) rfl (by first | rfl | assumption) tk30 rfl rfl ?_ | refine WS.store (j:=7) rfl rfl (by first | decide | omega | (simp; done) | (simp; omega) | exact Nat.le_of_ble_eq_true rfl) rfl (by first | rfl | assumption) tk30 (Jab _ _ _) rfl ?_ | refine WS.store (j:=8) rfl rfl (by first | decide | omega | (simp; done) | (simp; omega) | exact Nat.le_of_ble_eq_true rfl) rfl (by first | rfl | assumption) tk30 rfl rfl ?_ | refine WS.store (j:=8) rfl rfl (by first | decide | omega | (simp; done) | (simp; omega) | exact Nat.le_of_ble_eq_true rfl) rfl (by first | rfl | assumption) tk30 (Jab _ _ _) rfl ?_ | refine WS.store (j:=9) rfl rfl (by first | decide | omega | (simp; done) | (simp; omega) | exact Nat.le_of_ble_eq_true rfl) rfl (by first | rfl | assumption) tk30 rfl rfl ?_ | refine WS.store (j:=9) rfl rfl (by first | decide | omega | (simp; done) | (simp; omega) | exact Nat.le_of_ble_eq_true rfl) rfl (by first | rfl | assumption) tk30 (Jab _ _ _) rfl ?_ | refine WS.store (j:=10) rfl rfl (by first | decide | omega | (simp; done) | (simp; omega) | exact Nat.le_of_ble_eq_true rfl) rfl (by first | rfl | assumption) tk30 rfl rfl ?_ | refine WS.store (j:=10) rfl rfl (by first | decide | omega | (simp; done) | (simp; omega) | exact Nat.le_of_ble_eq_true rfl) rfl (by first | rfl | assumption) tk30 (Jab _ _ _) rfl ?_ | refine WS.store (j:=11) rfl rfl (by first | decide | omega | (simp; done) | (simp; omega) | exact Nat.le_of_ble_eq_true rfl) rfl (by first | rfl | assumption) tk30 rfl rfl ?_ | refine WS.store (j:=11) rfl rfl (by first | decide | omega | (simp; done) | (simp; omega) | exact Nat.le_of_ble_eq_true rfl) rfl (by first | rfl | assumption) tk30 (Jab _ _ _) rfl ?_ | refine WS.store (j:=12) rfl rfl (by first | decide | omega | (simp; done) | (simp; omega) | exact Nat.le_of_ble_eq_true rfl) rfl (by first | rfl | assumption) tk30 rfl rfl ?_ | refine WS.store (j:=12) rfl rfl (by first | decide | omega | (simp; done) | (simp; omega) | exact Nat.le_of_ble_eq_true rfl) rfl (by first | rfl | assumption) tk30 (Jab _ _ _) rfl ?_ | refine WS.store (j:=13) rfl rfl (by first | decide | omega | (simp; done) | (simp; omega) | exact Nat.le_of_ble_eq_true rfl) rfl (by first | rfl | assumption) tk30 rfl rfl ?_ | refine WS.store (j:=13) rfl rfl (by first | decide | omega | (simp; done) | (simp; omega) | exact Nat.le_of_ble_eq_true rfl) rfl (by first | rfl | assumption) tk30 (Jab _ _ _) rfl ?_
    refine WS.sel [0,0,0,0,0,0,0,0,0,0,0,1] rfl ?_
    refine WS.weak (fun u hu=>St.pack (L1:=Jaj b19 rb ⟨{ r0 with gl:=⟨v242,y.2.2++[a]⟩ },w12,b12_⟩) hu) ?_
    refine Wd (Qt ?_)
    refine Te ?_
    exact Qb (QS.head (((w12,b12_),v242,y.2.2++[a])) rfl rfl ⟨hyi.step hmy.1 hmy.2.1 hx12_ hst.1 hst.2,Jh5 hmy.1 hst.1 hx12_⟩)
   have hfin:=hyi.fin fun hb=>Jdk (Jh6 hc14 hb)
   exact Cv (Qe (Qe (Qx (Qb (QS.head (({ r0 with gl:=⟨y.2.1,y.2.2⟩ },y.1.1,y.1.2,.goal y.2.2)) rfl rfl ⟨Rel.eq (Rel.map Ln.goal hfin) (by rw [hki]; rfl),by simp [Room.e,addL,Sl.e,nls,Pro.e,Way.e,Actn.e,Auto.e]⟩)))))
  exact absurd hk0 (by omega)
 intro x t hs
 obtain ⟨hxb,hxe⟩:=hs
 obtain ⟨hend1,hend2⟩:=Jrq hL hxb
 refine Cs (Cs ?_)
 refine CS.weak (fun u hu=>St.unpack (L1:=Jaj b19 rb ⟨x.1,x.2.1,x.2.2.1⟩) hu) ?_
 refine CS.roE (j:=1) rfl fun hwx=>?_
 obtain ⟨uz,hwz⟩:=hwx
 refine Ny 3 ?_
 refine Wk 1 (by first | exact Jaa (j:=0) rfl rfl rfl tk4 | exact Jaa (j:=1) rfl rfl rfl tk4 | exact Jaa (j:=2) rfl rfl rfl tk4 | exact Jaa (j:=3) rfl rfl rfl tk4 | exact Jaa (j:=4) rfl rfl rfl tk4 | exact Jaa (j:=5) rfl rfl rfl tk4 | exact Jaa (j:=6) rfl rfl rfl tk4 | exact Jaa (j:=7) rfl rfl rfl tk4 | exact Jaa (j:=8) rfl rfl rfl tk4 | exact Jaa (j:=9) rfl rfl rfl tk4 | exact Jaa (j:=10) rfl rfl rfl tk4 | exact Jaa (j:=11) rfl rfl rfl tk4 | exact Jaa (j:=12) rfl rfl rfl tk4 | exact Jaa (j:=13) rfl rfl rfl tk4 | exact Jah rfl (by assumption) rfl tk4) ?_
 refine Wf 0 rfl rfl (fun hg=>Fm) ?_
 refine Wf 0 rfl rfl (fun hg=>Fc) ?_
 refine Wf 0 rfl rfl (fun hg=>Ff) ?_
 refine Wf 0 rfl rfl (fun hg=>by first | exact Jaa (j:=0) (eg_ hg rfl) rfl rfl tk23 | exact Jaa (j:=1) (eg_ hg rfl) rfl rfl tk23 | exact Jaa (j:=2) (eg_ hg rfl) rfl rfl tk23 | exact Jaa (j:=3) (eg_ hg rfl) rfl rfl tk23 | exact Jaa (j:=4) (eg_ hg rfl) rfl rfl tk23 | exact Jaa (j:=5) (eg_ hg rfl) rfl rfl tk23 | exact Jaa (j:=6) (eg_ hg rfl) rfl rfl tk23 | exact Jaa (j:=7) (eg_ hg rfl) rfl rfl tk23 | exact Jaa (j:=8) (eg_ hg rfl) rfl rfl tk23 | exact Jaa (j:=9) (eg_ hg rfl) rfl rfl tk23 | exact Jaa (j:=10) (eg_ hg rfl) rfl rfl tk23 | exact Jaa (j:=11) (eg_ hg rfl) rfl rfl tk23 | exact Jaa (j:=12) (eg_ hg rfl) rfl rfl tk23 | exact Jaa (j:=13) (eg_ hg rfl) rfl rfl tk23 | exact Jah (eg_ hg rfl) (by assumption) rfl tk23) ?_
 refine Wf 0 rfl rfl (fun hg=>Nc (s:=x.2.1)) ?_
 refine Wf 0 rfl rfl (fun hg=>Fg) ?_
 refine Wk 0 Po ?_
 refine Wd (Qc (CS.cond rfl ?_ ?_))<;>intro hc15<;>try simp only [bq] at hc15
 ·
  refine Nz 1 ?_
  exact Wd (Qc (Cr (Qr (out1 rfl rfl (fun u hu=>.inl ⟨(x.1, -1),.inl ⟨rfl,hend1 (by simpa using hc15)⟩,rfl,(Jvs (lb:=b19) (s:=⟨x.1,x.2.1,x.2.2.1⟩) (St.pack (L1:=Jaj b19 rb ⟨x.1,x.2.1,x.2.2.1⟩) hu))⟩)))))
 refine Ck (Qc (Nz 2 ?_))
 exact Wd (Qc (Cr (out1 rfl rfl (fun u hu=>.inl ⟨(x.1,k),.inr ⟨x.2.2.2,hend2 (by simpa using hc15),hxe⟩,rfl,(Jvs (lb:=b19) (s:=⟨x.1,x.2.1,x.2.2.1⟩) (St.pack (L1:=Jaj b19 rb ⟨x.1,x.2.1,x.2.2.1⟩) hu))⟩))))
end Go.Proofs.YtkekjhcmephhjaaGreatDoor
