/- Merged texts of this proof (walks and plain laws), printed by a program of the prover. -/
import Derived.Test.YtmoojmgihdgceaaGreatDoorZb
import Derived.Lib.AppendZerosOnto
import Derived.ArgAppend
import Derived.Laws.CopyRow
namespace Go.Proofs.YtmoojmgihdgceaaGreatDoor
set_option linter.unusedVariables false
set_option linter.unusedSimpArgs false
open Go.RowKit Go.Proofs
section
variable {α:Type} (key:α→Int)
def Eqv (l l':List α):Prop:=∀v:Int,l'.filter (fun x=>decide (key x=v))=l.filter (fun x=>decide (key x=v))
def Srt (l:List α):Prop:=l.Pairwise fun x y=>key x≤key y
variable {key}
theorem Eqv.refl (l:List α):Eqv key l l:=fun _=>rfl
theorem Eqv.trans {a b c:List α} (h:Eqv key a b) (h2:Eqv key b c):Eqv key a c:=fun v=>(h2 v).trans (h v)
theorem Eqv.symm {a b:List α} (h:Eqv key a b):Eqv key b a:=fun v=>(h v).symm
theorem Eqv.app {a b c d:List α} (h:Eqv key a b) (h2:Eqv key c d):Eqv key (a++c) (b++d):=fun v=>by rw[List.filter_append,List.filter_append,h v,h2 v]
theorem Eqv.mem {a b:List α} (h:Eqv key a b) {x:α}:x∈b↔x∈a:=by
 have h1:x∈b.filter (fun y=>decide (key y=key x))↔x∈b:=by simp
 have h2:x∈a.filter (fun y=>decide (key y=key x))↔x∈a:=by simp
 rw[←h1,←h2,h (key x)]
theorem Eqv.swap {a b:List α} (h:∀x∈a,∀y∈b,key x≠key y):Eqv key (a++b) (b++a):=fun v=>by
 rw[List.filter_append,List.filter_append]
 by_cases ha:a.filter (fun x=>decide (key x=v))=[]
 ·rw[ha,List.append_nil,List.nil_append]
 have hb:b.filter (fun x=>decide (key x=v))=[]:=by
  rw[List.filter_eq_nil_iff];intro y hy hv;obtain⟨x,hx⟩:=List.exists_mem_of_ne_nil _ ha;rw[List.mem_filter]at hx;simp only[decide_eq_true_eq]at hx hv;exact h x hx.1 y hy (hx.2.trans hv.symm)
 rw[hb,List.append_nil,List.nil_append]
theorem Eqv.len:∀{a b:List α},Eqv key a b→b.length=a.length
 |[],b,h=>by
  cases b with
  |nil=>rfl
  |cons y b=>exact absurd (h.mem.1 (List.mem_cons_self (a:=y) (l:=b))) List.not_mem_nil
 |x::a,b,h=>by
  have hx:x∈b:=h.mem.2 List.mem_cons_self
  obtain⟨b1,b2,hb,hn⟩:∃b1 b2,b=b1++x::b2∧∀y∈b1,key y≠key x:=by
   have h1:=h (key x);rw[List.filter_cons,if_pos (by simp)]at h1;have h2:=List.filter_eq_cons_iff.1 h1;obtain⟨b1,b2,e,q1,_,_⟩:=h2;exact⟨b1,b2,e,fun y hy hk=>by have:=q1 y hy;simp[hk]at this⟩
  subst hb
  have h3:Eqv key (x::a) (x::(b1++b2)):=h.trans (by
   have q:Eqv key (b1++[x]) ([x]++b1):=Eqv.swap fun y hy z hz=>by rw[List.mem_singleton.1 hz];exact hn y hy
   have:=q.app (Eqv.refl b2)
   simpa using this)
  have h4:Eqv key a (b1++b2):=fun v=>by
   have:=h3 v;rw[List.filter_cons,List.filter_cons]at this
   by_cases hv:decide (key x=v)=true
   ·rw[if_pos hv,if_pos hv]at this;exact(List.cons.inj this).2
   rw[if_neg hv,if_neg hv]at this;exact this
  have:=Eqv.len h4;simp only[List.length_append,List.length_cons]at this⊢;omega
theorem Srt.app {a b:List α} (h:Srt key a) (h2:Srt key b) (h3:∀x∈a,∀y∈b,key x≤key y):Srt key (a++b):=List.pairwise_append.2 ⟨h,h2,h3⟩
theorem Srt.left {a b:List α} (h:Srt key (a++b)):Srt key a:=(List.pairwise_append.1 h).1
theorem Srt.right {a b:List α} (h:Srt key (a++b)):Srt key b:=(List.pairwise_append.1 h).2.1
theorem Srt.nil:Srt key []:=List.Pairwise.nil
theorem Srt.one (x:α):Srt key [x]:=List.pairwise_singleton _ _
theorem Srt.small {a:List α} (h:a.length≤1):Srt key a:=by
 match a,h with
 |[],_=>exact Srt.nil
 |[x],_=>exact Srt.one x
end
section
variable {α:Type} [Inhabited α]
theorem Rx {a b:List α} {i:Int} (h:i<a.length) (h0:0≤i):nth (a++b) i=nth a i:=by
 have:i.toNat<a.length:=by omega
 simp[nth,List.getD,List.getElem?_append_left this]
theorem P5 {a b:List α} {i:Int} (h:(a.length:Int)≤i):nth (a++b) i=nth b (i-a.length):=by
 have:a.length≤i.toNat:=by omega
 have e:i.toNat-a.length=(i-a.length).toNat:=by omega
 unfold nth;rw[List.getD_eq_getElem?_getD,List.getD_eq_getElem?_getD,List.getElem?_append_right this,e]
theorem VA {l:List α} {i:Int} {n:Nat} (h:i<n) (h0:0≤i):nth (l.take n) i=nth l i:=by
 have:i.toNat<n:=by omega
 simp[nth,List.getD,List.getElem?_take,this]
variable {key:α→Int}
end
section
variable {α:Type} (key:α→Int)
variable {key}
theorem Eqv.cons {x:α} {a b:List α} (h:Eqv key a b):Eqv key (x::a) (x::b):=(Eqv.refl [x]).app h
theorem Eqv.parts (p:α→Bool) (hp:∀x y,key x=key y→p x=p y):∀(l:List α),Eqv key (l.filter p++l.filter fun x=>!p x) l
 |l=>fun v=>by
  rw[List.filter_append,List.filter_filter,List.filter_filter]
  by_cases h:∃x∈l,key x=v∧p x=true
  ·obtain⟨x,hx,hv,hpx⟩:=h
   have e1:(l.filter fun y=>decide (key y=v)&&p y)=l.filter fun y=>decide (key y=v):=List.filter_congr fun y hy=>by
    by_cases hk:key y=v
    ·rw[hp y x (hk.trans hv.symm),hpx];simp
    simp[hk]
   have e2:(l.filter fun y=>decide (key y=v)&&!p y)=[]:=by
    rw[List.filter_eq_nil_iff];intro y hy hc;simp at hc;rw[hp y x (hc.1.trans hv.symm),hpx]at hc;exact absurd hc.2 (by decide)
   rw[e1,e2,List.append_nil]
  have e1:(l.filter fun y=>decide (key y=v)&&p y)=[]:=by
   rw[List.filter_eq_nil_iff];intro y hy hc;simp at hc;exact h ⟨y,hy,hc.1,hc.2⟩
  have e2:(l.filter fun y=>decide (key y=v)&&!p y)=l.filter fun y=>decide (key y=v):=List.filter_congr fun y hy=>by
   by_cases hk:key y=v
   ·cases hq:p y
    ·simp
    exact absurd ⟨y,hy,hk,hq⟩ h
   simp[hk]
  rw[e1,e2,List.nil_append]
end
section
variable {α:Type} {key:α→Int}
inductive Blk (key:α→Int) (k:Nat):List α→Prop
 |last {l:List α}:l.length≤k→Srt key l→Blk key k l
 |cons {b l:List α}:b.length=k→Srt key b→Blk key k l→Blk key k (b++l)
inductive Full (key:α→Int) (k:Nat):List α→Prop
 |nil:Full key k []
 |snoc {D b:List α}:Full key k D→b.length=k→Srt key b→Full key k (D++b)
theorem Full.blk {k:Nat} {D l:List α} (h:Full key k D) (hl:Blk key k l):Blk key k (D++l):=by
 induction h generalizing l with
 |nil=>exact hl
 |snoc _ hb hs ih=>rw[List.append_assoc];exact ih (.cons hb hs hl)
theorem Blk.srt {k:Nat} {l:List α} (h:Blk key k l) (hl:l.length≤k):Srt key l:=by
 cases h with
 |last _ h=>exact h
 |cons hb hs h=>
  rename_i b l;have:l=[]:=List.eq_nil_of_length_eq_zero (by simp at hl;omega);subst this;simpa using hs
theorem Blk.split {k:Nat} {l:List α} (h:Blk key k l) (hl:k<l.length):∃b r,l=b++r∧b.length=k∧Srt key b∧Blk key k r:=by
 cases h with
 |last h _=>omega
 |cons hb hs h=>exact⟨_,_,rfl,hb,hs,h⟩
end
section
variable {α:Type}
def lk (A:List α) (x:α) (Y B:List α) (k:Int):List α:=A++(Y.take k.toNat++x::(Y.drop k.toNat++B))
end
section
variable {α:Type} [Inhabited α] {d:α→Bool}
theorem J4 {xs:List α} {j:Int} (h0:0≤j) (h1:j<xs.length):(xs.take (j+1).toNat).filter (fun x=>!d x)=(xs.take j.toNat).filter (fun x=>!d x)++(if d (nth xs j)=true then[]else[nth xs j]):=by
 rw[AW h0 h1,List.filter_append];congr 1;cases hd:d (nth xs j)<;>simp[hd]
theorem QR {xs:List α} (h:∀j:Int,0≤j→j<xs.length→d (nth xs j)=false):xs.filter (fun x=>!d x)=xs:=by
 rw[List.filter_eq_self];intro a ha;obtain⟨i,h0,h1,rfl⟩:=Bg ha;rw[h i h0 h1];rfl
theorem Nk {xs:List α} {i:Int} (h0:0≤i) (h1:i<xs.length) (h:∀j:Int,0≤j→j<i→d (nth xs j)=false) (hd:d (nth xs i)=true):(xs.take (i+1).toNat).filter (fun x=>!d x)=xs.take i.toNat:=by
 rw[J4 h0 h1,if_pos hd,List.append_nil];refine QR fun j j0 j1=>?_;rw[List.length_take]at j1;rw[VA (by omega) j0];exact h j j0 (by omega)
end
section
variable {P:Program} {n0:Nat} {w0:World} {L:List SA} {l:List Value} {d:Option Tmp} {ty:TypeId} {ps:String} {af:Array Edge} {g:Option (Nat×Bool)} {C:World→Prop}
theorem Hy {T e e':TypeId} {k by_ j n k':Nat} {x z:Operand} {v:Value} {xs:List Value} {lo:Int} (hT:sl P T=some (e,k,by_)) (hx:evo l x=some v) (hz:evo l z=some (.int .i64 lo))
  (hj:L[j]? = some (osl e' k' v n xs)) (h1:0≤lo) (h2:lo≤n):Det P (St n0 w0 L) ⟨d,.slice T x (some z) none none,ty,ps,af,g⟩ l (sub2 k v lo.toNat n):=fun u hu=>Ik hT hx hz (AX hu hj) h1 h2 u hu
end
structure DelI {α:Type} (d:α→Bool) (xs ys:List α) (i j:Int):Prop where
 i0:0≤i
 ij:i<j
 jn:j≤xs.length
 len:ys.length=xs.length
 tk:ys.take i.toNat=(xs.take j.toNat).filter (fun x=>!d x)
 dp:ys.drop j.toNat=xs.drop j.toNat
section
variable {α:Type} [Inhabited α] {d:α→Bool} {xs ys:List α} {i j:Int}
theorem DelI.first (h0:0≤i) (h1:i<xs.length) (h:∀k:Int,0≤k→k<i→d (nth xs k)=false) (hd:d (nth xs i)=true):DelI d xs xs i (i+1):=
 ⟨h0,by omega,by omega,rfl,(Nk h0 h1 h hd).symm,rfl⟩
theorem DelI.at (h:DelI d xs ys i j) (hj:j<xs.length):nth ys j=nth xs j:=by
 have h0:=h.i0;have h1:=h.ij;have h2:=h.len;have e1:=AO (xs:=ys) (s:=j) (by omega) (by omega);rw[h.dp,AO (by omega) hj]at e1;exact(List.cons.inj e1).1.symm
theorem DelI.keep (h:DelI d xs ys i j) (hj:j<xs.length) (hd:¬d (nth ys j)=true):DelI d xs (ys.set i.toNat (nth ys j)) (i+1) (j+1):=by
 have h0:=h.i0;have h1:=h.ij;have h2:=h.len;refine⟨by omega,by omega,by omega,by simp[h2],?_,?_⟩
 ·rw[J4 (by omega) hj,←h.at hj,if_neg hd,←h.tk,show(i+1).toNat=i.toNat+1 by omega];rw[List.take_add_one,List.take_set_of_le (Nat.le_refl _),List.getElem?_set_self (by omega)];rfl
 rw[show(j+1).toNat=j.toNat+1 by omega,List.drop_set_of_lt (by omega)];have e1:=AO (xs:=ys) (s:=j) (by omega) (by omega);rw[h.dp,AO (by omega) hj]at e1;rw[show(j+1).toNat=j.toNat+1 by omega]at e1;exact(List.cons.inj e1).2.symm
omit [Inhabited α] in
theorem DelI.fin (h:DelI d xs ys i j) (hj:¬j<xs.length):ys.take i.toNat=xs.filter fun x=>!d x:=by
 have h2:=h.jn;rw[h.tk,List.take_of_length_le (by omega)]
end
end Go.Proofs.YtmoojmgihdgceaaGreatDoor
namespace Go.Proofs.YtmoojmgihdgceaaGreatDoor
set_option linter.unusedVariables false
set_option linter.unusedSimpArgs false
open Go.RowKit Go.Proofs Go.MapKept
def MapAt (u:World) (b:Nat) (f:Int→Int):Prop:=∃es c,u.heap[b]? = some (.map es c)∧MapI es f
theorem MapAt.ext {w u:World} {b:Nat} {f:Int→Int} (h:MapAt w b f) (hb:Below w.heap.size w u):MapAt u b f:=by
 obtain⟨es,c,h1,h2⟩:=h;exact⟨es,c,(hb.block b (Array.getElem?_eq_some_iff.1 h1).1).trans h1,h2⟩
section
variable {P:Program} {n0:Nat} {w0:World} {L:List SA} {l:List Value} {d:Option Tmp} {ty:TypeId} {ps:String} {af:Array Edge} {g:Option (Nat×Bool)} {C:World→Prop}
theorem Ve {n:Int} (h: -9223372036854775808≤n∧n≤9223372036854775807):IntKind.i64.wrap n=n:=IntWalk.i64_in _ h
end
theorem LO {α:Type} (x:List (Sl α)) (i:Int):nth (x.map Sl.l) i=(nth x i).l:=by
 unfold nth;rw[List.getD_eq_getElem?_getD,List.getD_eq_getElem?_getD,List.getElem?_map];cases x[i.toNat]?<;>rfl
end Go.Proofs.YtmoojmgihdgceaaGreatDoor
namespace Go.Proofs.YtmoojmgihdgceaaGreatDoor
set_option linter.unusedVariables false
set_option linter.unusedSimpArgs false
open Go.RowKit Go.Proofs
structure EdgeD where
 m:Move
 to:Int
 deriving Inhabited,DecidableEq
def cEdge:Cel EdgeD:=⟨4,fun x=>[.int .i64 x.m.p,.int .i64 x.m.k,.int .i64 x.m.n,.int .i64 x.to],fun _ _=>True,fun _=>rfl,fun _ _ _ _ _=>trivial,fun _ _ _ v hv=>by
 simp at hv;rcases hv with rfl|rfl|rfl|rfl<;>rfl⟩
theorem PosOk.one4 {w:World} {p:Pos} (h:PosOk w p):∀v∈[p.st.ths.v,p.st.prs.v,p.st.pls.v,p.rd.v],v.oneCell'=true:=by
 intro v hv;obtain⟨h1,h2,h3⟩:=h.st.ones;simp only[List.mem_cons,List.not_mem_nil,or_false]at hv;rcases hv with rfl|rfl|rfl|rfl
 ·exact h1
 ·exact h2
 ·exact h3
 exact Sl.one h.rd
def cPos:Cel Pos:=⟨4,fun p=>[p.st.ths.v,p.st.prs.v,p.st.pls.v,p.rd.v],PosOk,fun _=>rfl,fun _ _ _ h hb=>h.ext hb,fun _ _ h=>h.one4⟩
structure GraphD where
 ps:Sl Pos
 es:Sl (Sl EdgeD)
 deriving Inhabited
structure GraphOk (w:World) (X:GraphD):Prop where
 ps:SlT cPos w X.ps
 es:SlT (cSl cEdge) w X.es
theorem GraphOk.ext {w u:World} {X:GraphD} (h:GraphOk w X) (hb:Below w.heap.size w u):GraphOk u X:=⟨h.ps.ext hb,h.es.ext hb⟩
theorem GraphOk.st {w u:World} {L:List SA} {X:GraphD} (h:GraphOk w X) (hu:St w.heap.size w L u):GraphOk u X:=h.ext hu.below
def GraphD.xs (X:GraphD):List PX:=X.ps.l.map Pos.x
def GraphD.ed (X:GraphD):List (List EdgeD):=X.es.l.map Sl.l
def idxG (ps:List PX) (q:PX):Option Nat:=ps.findIdx? fun p=>decide (p=q)
def addG (ps:List PX) (q:PX):List PX:=if(idxG ps q).isSome=true then ps else ps++[q]
def numG (ps:List PX) (q:PX):Int:=(((idxG ps q).getD ps.length:Nat):Int)
def Cc (ps:List PX) (q:PX):Bool:=(idxG ps q).isNone&&decide (ps.length=3000)
def edgN (G:GP) (x:PX) (ps:List PX):Nat→Option (List PX×List EdgeD)
 |0=>some (ps,[])
 |k+1=>match edgN G x ps k with
  |none=>none
  |some (qs,ed)=>if Cc qs (AM G x (nth (Ai G x) k))=true then none else some (addG qs (AM G x (nth (Ai G x) k)),ed++[⟨nth (Ai G x) k,numG qs (AM G x (nth (Ai G x) k))⟩])
def expN (G:GP) (x0:PX):Nat→Option (List PX×List (List EdgeD))
 |0=>some ([x0],[])
 |i+1=>match expN G x0 i with
  |none=>none
  |some (ps,es)=>if i<ps.length then(match edgN G (nth ps i) ps (Ai G (nth ps i)).length with
    |none=>none
    |some (qs,ed)=>some (qs,es++[ed]))else some (ps,es)
def Af (G:GP):Int×List PX×List (List EdgeD):=
 if(Ac G).1=0 then(match expN G (Ac G).2 3000 with|none=>(2,[],[])|some z=>(0,z))else((Ac G).1,[],[])
theorem Kj {ps:List PX} {q:PX} {n:Nat} (h:idxG ps q=some n):n<ps.length∧ps[n]? = some q:=by
 unfold idxG at h;obtain⟨h1,h2,_⟩:=List.findIdx?_eq_some_iff_getElem.1 h;refine⟨h1,?_⟩;rw[List.getElem?_eq_getElem h1];congr 1;exact of_decide_eq_true h2
theorem Kp {ps:List PX} {q:PX} (h:idxG ps q=none):q∉ps:=fun hq=>by
 unfold idxG at h;have:=List.findIdx?_eq_none_iff.1 h q hq;simp at this
theorem S1 {ps:List PX} {q:PX} (h:q∈ps):∃n,idxG ps q=some n:=by
 cases hx:idxG ps q with
 |none=>exact absurd h (Kp hx)
 |some n=>exact⟨n,rfl⟩
theorem OR (ps:List PX) (q:PX):∃t,addG ps q=ps++t:=by
 unfold addG;split
 ·exact⟨[],by simp⟩
 exact⟨[q],rfl⟩
theorem DV {α:Type} [Inhabited α] {l t:List α} {i:Int} (h0:0≤i) (h1:i<l.length):nth (l++t) i=nth l i:=by
 have:i.toNat<l.length:=by omega
 simp[nth,List.getD,List.getElem?_append_left this]
theorem KX {α:Type} [Inhabited α] {l:List α} {a:α} {i:Int} (h:i=l.length):nth (l++[a]) i=a:=by
 subst h;simp[nth,List.getD]
theorem Vv (ps:List PX) (q:PX):0≤numG ps q∧numG ps q<(addG ps q).length∧nth (addG ps q) (numG ps q)=q:=by
 unfold numG addG;cases h:idxG ps q with
 |none=>
  simp only[Option.isSome_none,Bool.false_eq_true,if_false,Option.getD_none];exact⟨by omega,by simp;omega,KX rfl⟩
 |some n=>
  obtain⟨h1,h2⟩:=Kj h;simp only[Option.isSome_some,if_true,Option.getD_some];exact⟨by omega,by omega,by simp[nth,List.getD,h2]⟩
theorem Jf {ps:List PX} {q:PX} {n:Nat} (h:idxG ps q=some n):addG ps q=ps∧numG ps q=n∧Cc ps q=false:=by
 unfold addG numG Cc;rw[h];simp
theorem IP {ps:List PX} {q:PX} (h:idxG ps q=none):addG ps q=ps++[q]∧numG ps q=ps.length∧Cc ps q=decide (ps.length=3000):=by
 unfold addG numG Cc;rw[h];simp
structure PsOk (G:GP) (x0:PX) (ps:List PX):Prop where
 pos:0<ps.length
 first:nth ps 0=x0
 nd:ps.Nodup
 ok:∀p∈ps,posG G p=0
 lim:ps.length≤3000
theorem PsOk.add {G:GP} {x0 q:PX} {ps:List PX} (h:PsOk G x0 ps) (hq:posG G q=0) (hf:Cc ps q=false):PsOk G x0 (addG ps q):=by
 cases hi:idxG ps q with
 |some n=>rw[(Jf hi).1];exact h
 |none=>
  obtain⟨e1,_,e3⟩:=IP hi;rw[e3]at hf;rw[e1];refine⟨by simp,by rw[DV (Int.le_refl 0) (by have:=h.pos;omega)];exact h.first,?_,?_,?_⟩
  ·rw[List.nodup_append];refine⟨h.nd,by simp,fun a ha b hb=>?_⟩;rw[List.mem_singleton]at hb;subst hb;exact fun e=>Kp hi (e▸ha)
  ·intro p hp;rcases List.mem_append.1 hp with hp|hp
   ·exact h.ok p hp
   rw[List.mem_singleton.1 hp];exact hq
  have h1:=h.lim;have h2:ps.length≠3000:=of_decide_eq_false hf;simp;omega
structure EdOk (G:GP) (ps:List PX) (x:PX) (ms:List Move) (ed:List EdgeD):Prop where
 mv:ed.map EdgeD.m=ms
 to:∀e∈ed,0≤e.to∧e.to<ps.length∧nth ps e.to=AM G x e.m
theorem EdOk.pre {G:GP} {ps qs:List PX} {x:PX} {ms:List Move} {ed:List EdgeD} (h:EdOk G ps x ms ed) (hq:∃t,qs=ps++t):EdOk G qs x ms ed:=by
 obtain⟨t,rfl⟩:=hq;refine⟨h.mv,fun e he=>?_⟩;obtain⟨a,b,c⟩:=h.to e he;exact⟨a,by simp;omega,by rw[DV a b];exact c⟩
theorem EdOk.snoc {G:GP} {ps:List PX} {x:PX} {ms:List Move} {ed:List EdgeD} (h:EdOk G ps x ms ed) (m:Move):EdOk G (addG ps (AM G x m)) x (ms++[m]) (ed++[⟨m,numG ps (AM G x m)⟩]):=by
 refine⟨by rw[List.map_append,h.mv];rfl,fun e he=>?_⟩;rcases List.mem_append.1 he with he|he
 ·exact(h.pre (OR _ _)).to e he
 rw[List.mem_singleton.1 he];exact Vv _ _
theorem K4 {G:GP} {x:PX} {ps:List PX} {k:Nat} (h:edgN G x ps k=none):∀j,edgN G x ps (k+j)=none
 |0=>h
 |j+1=>by
  show edgN G x ps (k+j+1)=none;unfold edgN;rw[K4 h j]
theorem Js {G:GP} {x:PX} {ps qs:List PX} {ed:List EdgeD} {k n:Nat} (h:edgN G x ps k=some (qs,ed)) (hf:Cc qs (AM G x (nth (Ai G x) k))=true) (hk:k<n):edgN G x ps n=none:=by
 have h1:edgN G x ps (k+1)=none:=by
  unfold edgN;rw[h];exact if_pos hf
 have:=K4 h1 (n-(k+1))
 rwa [show k+1+(n-(k+1))=n by omega]at this
theorem JP {G:GP} {x:PX} {ps qs:List PX} {ed:List EdgeD} {k:Nat} (h:edgN G x ps k=some (qs,ed)) (hf:Cc qs (AM G x (nth (Ai G x) k))=false):
  edgN G x ps (k+1)=some (addG qs (AM G x (nth (Ai G x) k)),ed++[⟨nth (Ai G x) k,numG qs (AM G x (nth (Ai G x) k))⟩]):=by
 conv=>lhs;unfold edgN
 rw[h];simp only;rw[if_neg (by rw[hf];decide)]
theorem M5 {α:Type} [Inhabited α] {xs:List α} {k:Nat} (h:k<xs.length):xs.take (k+1)=xs.take k++[nth xs k]:=by
 rw[List.take_succ_eq_append_getElem h];simp[nth,List.getD,h]
theorem IZ {G:GP} {x0 x:PX} {ps:List PX} (hP:PsOk G x0 ps) (hc:∀m∈Ai G x,posG G (AM G x m)=0):∀{k:Nat},k≤(Ai G x).length→∀{qs:List PX} {ed:List EdgeD},edgN G x ps k=some (qs,ed)→
  PsOk G x0 qs∧(∃t,qs=ps++t)∧EdOk G qs x ((Ai G x).take k) ed
 |0,_,qs,ed,h=>by
  unfold edgN at h;cases h;exact⟨hP,⟨[],by simp⟩,rfl,fun e he=>by cases he⟩
 |k+1,hk,qs,ed,h=>by
  cases h1:edgN G x ps k with
  |none=>rw[K4 h1 1]at h;cases h
  |some z=>
   obtain⟨qs1,ed1⟩:=z;obtain⟨a1,⟨t,a2⟩,a3⟩:=IZ hP hc (by omega:k≤_) h1;cases hf:Cc qs1 (AM G x (nth (Ai G x) k))with
   |true=>rw[Js h1 hf (Nat.lt_succ_self k)]at h;cases h
   |false=>
    rw[JP h1 hf]at h;cases h;refine⟨a1.add (hc _ (Ad (by omega) (by omega))) hf,?_,?_⟩
    ·obtain⟨t2,h2⟩:=OR qs1 (AM G x (nth (Ai G x) k));exact⟨t++t2,by rw[h2,a2,List.append_assoc]⟩
    rw[M5 (by omega)];exact a3.snoc _
structure GrOk (G:GP) (x0:PX) (ps:List PX) (es:List (List EdgeD)):Prop where
 pk:PsOk G x0 ps
 es:∀i:Int,0≤i→i<es.length→EdOk G ps (nth ps i) (Ai G (nth ps i)) (nth es i)
theorem Ks {G:GP} {x0:PX} {i:Nat} (h:expN G x0 i=none):∀j,expN G x0 (i+j)=none
 |0=>h
 |j+1=>by
  show expN G x0 (i+j+1)=none;unfold expN;rw[Ks h j]
theorem Kl {G:GP} {x0:PX} {i n:Nat} {ps:List PX} {es:List (List EdgeD)} (h:expN G x0 i=some (ps,es)) (hi:i<ps.length) (he:edgN G (nth ps i) ps (Ai G (nth ps i)).length=none) (hn:i<n):expN G x0 n=none:=by
 have h1:expN G x0 (i+1)=none:=by
  unfold expN;rw[h];simp only;rw[if_pos hi,he]
 have:=Ks h1 (n-(i+1))
 rwa [show i+1+(n-(i+1))=n by omega]at this
theorem Kk {G:GP} {x0:PX} {i:Nat} {ps qs:List PX} {es:List (List EdgeD)} {ed:List EdgeD} (h:expN G x0 i=some (ps,es)) (hi:i<ps.length) (he:edgN G (nth ps i) ps (Ai G (nth ps i)).length=some (qs,ed)):
  expN G x0 (i+1)=some (qs,es++[ed]):=by
 conv=>lhs;unfold expN
 rw[h];simp only;rw[if_pos hi,he]
theorem Hx {G:GP} {x0:PX} {i:Nat} {ps:List PX} {es:List (List EdgeD)} (h:expN G x0 i=some (ps,es)) (hi:ps.length≤i):∀j,expN G x0 (i+j)=some (ps,es)
 |0=>h
 |j+1=>by
  show expN G x0 (i+j+1)=_
  conv=>lhs;unfold expN
  rw[Hx h hi j];simp only;rw[if_neg (by omega)]
theorem R3 {G:GP} {x0:PX} {i n:Nat} {ps:List PX} {es:List (List EdgeD)} (h:expN G x0 i=some (ps,es)) (hi:ps.length≤i) (hn:i≤n):expN G x0 n=some (ps,es):=by
 have:=Hx h hi (n-i)
 rwa [show i+(n-i)=n by omega]at this
theorem Jq {G:GP} {x0:PX} (hc:∀x,posG G x=0→∀m∈Ai G x,posG G (AM G x m)=0) (h0:posG G x0=0):∀{i:Nat} {ps:List PX} {es:List (List EdgeD)},expN G x0 i=some (ps,es)→GrOk G x0 ps es∧es.length=min i ps.length
 |0,ps,es,h=>by
  unfold expN at h;cases h;refine⟨⟨⟨by simp,rfl,by simp,fun p hp=>by rw[List.mem_singleton.1 hp];exact h0,by simp⟩,fun i h0 h1=>by simp at h1;omega⟩,by simp⟩
 |i+1,ps,es,h=>by
  cases h1:expN G x0 i with
  |none=>rw[Ks h1 1]at h;cases h
  |some z=>
   obtain⟨ps1,es1⟩:=z;obtain⟨a1,a2⟩:=Jq hc h0 h1
   by_cases hi:i<ps1.length
   ·cases he:edgN G (nth ps1 i) ps1 (Ai G (nth ps1 i)).length with
    |none=>rw[Kl h1 hi he (Nat.lt_succ_self i)]at h;cases h
    |some y=>
     obtain⟨qs,ed⟩:=y;rw[Kk h1 hi he]at h;cases h;obtain⟨b1,⟨t,b2⟩,b3⟩:=IZ a1.pk (hc _ (a1.pk.ok _ (Ad (by omega) (by omega)))) (Nat.le_refl _) he;rw[List.take_length]at b3;have hl:es1.length=i:=by omega
     subst b2;refine⟨⟨b1,fun j j0 j1=>?_⟩,by simp;omega⟩
     by_cases hj:j<es1.length
     ·rw[DV j0 hj,DV j0 (by omega)];exact(a1.es j j0 hj).pre ⟨t,rfl⟩
     have:j=es1.length:=by simp at j1;omega
     rw[KX this,DV j0 (by omega),show j=(i:Int) by omega];exact b3
   rw[Hx h1 (by omega) 1]at h;cases h;exact⟨a1,by omega⟩
structure GrAll (G:GP) (x0:PX) (ps:List PX) (es:List (List EdgeD)):Prop where
 ok:GrOk G x0 ps es
 len:es.length=ps.length
theorem KO {G:GP} (hc:∀x,posG G x=0→∀m∈Ai G x,posG G (AM G x m)=0) (h0:(Ac G).1=0→posG G (Ac G).2=0) (h:(Af G).1=0):(Ac G).1=0∧GrAll G (Ac G).2 (Af G).2.1 (Af G).2.2:=by
 unfold Af at h⊢;split at h
 ·rename_i hb;refine⟨hb,?_⟩;rw[if_pos hb];cases he:expN G (Ac G).2 3000 with
  |none=>rw[he]at h;exact absurd h (by decide)
  |some z=>
   obtain⟨a1,a2⟩:=Jq hc (h0 hb) he;have:=a1.pk.lim;exact⟨a1,show z.2.length=z.1.length by omega⟩
 rename_i hb;exact absurd h hb
theorem GrAll.to {G:GP} {x0:PX} {ps:List PX} {es:List (List EdgeD)} (h:GrAll G x0 ps es) {i:Int} (h0:0≤i) (h1:i<es.length):∀e∈nth es i,0≤e.to∧e.to<es.length:=fun e he=>by
 obtain⟨a,b,_⟩:=(h.ok.es i h0 h1).to e he;exact⟨a,by rw[h.len];exact b⟩
section
variable {fin:Int→Bool} {es:List (List EdgeD)}
def Br (fin:Int→Bool) (es:List (List EdgeD)):Nat→Int→Bool
 |0,i=>fin i
 |k+1,i=>Br fin es k i||(nth es i).any fun e=>Br fin es k e.to
theorem PE {k:Nat} {i:Int} (h:Br fin es k i=true):∀j,Br fin es (k+j) i=true
 |0=>h
 |j+1=>by
  show Br fin es (k+j+1) i=true;unfold Br;rw[PE h j];rfl
theorem W2 {k n:Nat} {i:Int} (h:Br fin es k i=true) (hn:k≤n):Br fin es n i=true:=by
 have:=PE h (n-k)
 rwa [show k+(n-k)=n by omega]at this
theorem G3 {k n:Nat} {i:Int} (h:Br fin es n i=false) (hn:k≤n):Br fin es k i=false:=by
 cases hk:Br fin es k i with
 |false=>rfl
 |true=>rw[W2 hk hn]at h;cases h
theorem Fp {k:Nat} {i:Int} {e:EdgeD} (he:e∈nth es i) (h:Br fin es k e.to=true):Br fin es (k+1) i=true:=by
 unfold Br;rw[Bool.or_eq_true];exact .inr (List.any_eq_true.2 ⟨e,he,h⟩)
theorem Ea {k:Nat} {i:Int} (h:Br fin es (k+1) i=true):Br fin es k i=true∨∃e∈nth es i,Br fin es k e.to=true:=by
 unfold Br at h;rw[Bool.or_eq_true]at h;exact h.imp id fun h=>List.any_eq_true.1 h
def AtD (fin:Int→Bool) (es:List (List EdgeD)) (n:Nat) (i v:Int):Prop:=(v = -1∧Br fin es n i=false)∨(0≤v∧v≤n∧Br fin es v.toNat i=true∧∀k,k<v.toNat→Br fin es k i=false)
def DistAt (fin:Int→Bool) (es:List (List EdgeD)) (i v:Int):Prop:=(v = -1∧∀k,Br fin es k i=false)∨(0≤v∧Br fin es v.toNat i=true∧∀k,k<v.toNat→Br fin es k i=false)
structure IsD (fin:Int→Bool) (es:List (List EdgeD)) (d:List Int):Prop where
 len:d.length=es.length
 at_:∀i:Int,0≤i→i<es.length→DistAt fin es i (nth d i)
theorem DistAt.uniq {i v z:Int} (h:DistAt fin es i v) (h2:DistAt fin es i z):v=z:=by
 rcases h with⟨a,b⟩|⟨a,b,c⟩<;>rcases h2 with⟨a2,b2⟩|⟨a2,b2,c2⟩
 ·omega
 ·rw[b]at b2;cases b2
 ·rw[b2]at b;cases b
 rcases Nat.lt_trichotomy v.toNat z.toNat with h|h|h
 ·rw[c2 _ h]at b;cases b
 ·omega
 rw[c _ h]at b2;cases b2
theorem IsD.uniq {d d':List Int} (h:IsD fin es d) (h2:IsD fin es d'):d=d':=by
 refine Pt (by rw[h.len,h2.len]) fun i h0 h1=>?_;rw[h.len]at h1;exact(h.at_ i h0 h1).uniq (h2.at_ i h0 h1)
theorem IsD.ge {d:List Int} (h:IsD fin es d) {i:Int} (h0:0≤i) (h1:i<es.length): -1≤nth d i:=by
 rcases h.at_ i h0 h1 with⟨a,_⟩|⟨a,_⟩<;>omega
theorem IsD.edge {d:List Int} (h:IsD fin es d) {i:Int} (h0:0≤i) (h1:i<es.length) {e:EdgeD} (he:e∈nth es i) (ht:0≤e.to∧e.to<es.length) (hd:0≤nth d e.to):0≤nth d i∧nth d i≤nth d e.to+1:=by
 rcases h.at_ e.to ht.1 ht.2 with⟨a,_⟩|⟨_,b,_⟩
 ·omega
 have h2:=Fp he b;rcases h.at_ i h0 h1 with⟨_,b2⟩|⟨a2,b2,c2⟩
 ·rw[b2]at h2;cases h2
 refine⟨a2,?_⟩
 by_cases hh:nth d i≤nth d e.to+1
 ·exact hh
 rw[c2 _ (by omega)]at h2;cases h2
theorem IsD.zero {d:List Int} (h:IsD fin es d) {i:Int} (h0:0≤i) (h1:i<es.length):nth d i=0↔fin i=true:=by
 rcases h.at_ i h0 h1 with⟨a,b⟩|⟨a,b,c⟩
 ·have:=b 0;unfold Br at this;rw[this,a];simp
 constructor
 ·intro e;rw[e]at b;exact b
 intro e
 by_cases hp:0<(nth d i).toNat
 ·have:=c 0 hp;unfold Br at this;rw[this]at e;cases e
 omega
theorem IsD.less {d:List Int} (h:IsD fin es d) (hes:∀i:Int,0≤i→i<es.length→∀e∈nth es i,0≤e.to∧e.to<es.length) {i:Int} (h0:0≤i) (h1:i<es.length) (hd:0<nth d i):∃e∈nth es i,nth d e.to=nth d i-1:=by
 rcases h.at_ i h0 h1 with⟨a,_⟩|⟨a,b,c⟩
 ·omega
 obtain⟨k,hk⟩:∃k,(nth d i).toNat=k+1:=⟨(nth d i).toNat-1,by omega⟩;rw[hk]at b;rcases Ea b with b|⟨e,he,b⟩
 ·rw[c k (by omega)]at b;cases b
 refine⟨e,he,?_⟩;have ht:=hes i h0 h1 e he;rcases h.at_ e.to ht.1 ht.2 with⟨_,b2⟩|⟨a2,b2,c2⟩
 ·rw[b2]at b;cases b
 have h3:¬k<(nth d e.to).toNat:=fun hk=>by rw[c2 k hk]at b;cases b
 have h4:=(h.edge h0 h1 he ht a2).2;omega
structure Rnd (fin:Int→Bool) (es:List (List EdgeD)) (n:Nat) (i:Int) (d:List Int) (ch:Bool):Prop where
 len:d.length=es.length
 old:∀j:Int,i≤j→j<es.length→0≤j→AtD fin es n j (nth d j)
 new:∀j:Int,0≤j→j<i→j<es.length→AtD fin es (n+1) j (nth d j)
 same:ch=false→∀j:Int,0≤j→j<i→j<es.length→AtD fin es n j (nth d j)
theorem AtD.up {n:Nat} {i v:Int} (h:AtD fin es n i v) (h0:0≤v):AtD fin es (n+1) i v:=by
 rcases h with⟨a,_⟩|⟨a,b,c⟩
 ·omega
 exact .inr ⟨a,by omega,c⟩
theorem Rnd.any {n:Nat} {i j:Int} {d:List Int} {ch:Bool} (h:Rnd fin es n i d ch) (h0:0≤j) (h1:j<es.length):AtD fin es (n+1) j (nth d j)∨AtD fin es n j (nth d j):=by
 by_cases hj:j<i
 ·exact .inl (h.new j h0 hj h1)
 exact .inr (h.old j (by omega) h1 h0)
theorem Rnd.old_ {n:Nat} {i:Int} {d:List Int} {ch:Bool} (h:Rnd fin es n i d ch) (h0:0≤i) (h1:i<es.length) (hn:0≤nth d i):Rnd fin es n (i+1) d ch:=by
 refine⟨h.len,fun j a b c=>h.old j (by omega) b c,fun j a b c=>?_,fun hc j a b c=>?_⟩
 ·by_cases hj:j=i
  ·subst hj;exact(h.old j (Int.le_refl j) h1 h0).up hn
  exact h.new j a (by omega) c
 by_cases hj:j=i
 ·subst hj;exact h.old j (Int.le_refl j) h1 h0
 exact h.same hc j a (by omega) c
theorem Rnd.miss {n:Nat} {i:Int} {d:List Int} {ch:Bool} (h:Rnd fin es n i d ch) (h0:0≤i) (h1:i<es.length) (hn:nth d i<0) (ht:∀e∈nth es i,0≤e.to∧e.to<es.length) (hd:∀e∈nth es i,nth d e.to≠n):Rnd fin es n (i+1) d ch:=by
 have hold:nth d i = -1∧Br fin es n i=false:=by
  rcases h.old i (Int.le_refl i) h1 h0 with h|⟨a,_⟩
  ·exact h
  omega
 have hnew:Br fin es (n+1) i=false:=by
  cases hq:Br fin es (n+1) i with
  |false=>rfl
  |true=>
   rcases Ea hq with q|⟨e,he,q⟩
   ·rw[hold.2]at q;cases q
   exfalso;obtain⟨t0,t1⟩:=ht e he;have hne:=hd e he
   have key:0≤nth d e.to∧nth d e.to<n∧Br fin es (nth d e.to).toNat e.to=true:=by
    rcases h.any t0 t1 with w|w
    ·rcases w with⟨_,b⟩|⟨a,b,c,d'⟩
     ·rw[G3 b (Nat.le_succ n)]at q;cases q
     refine⟨a,?_,c⟩;have:¬n<(nth d e.to).toNat:=fun hk=>by rw[d' n hk]at q;cases q
     omega
    rcases w with⟨_,b⟩|⟨a,b,c,_⟩
    ·rw[b]at q;cases q
    exact⟨a,by omega,c⟩
   have h2:=Fp he key.2.2;rw[G3 hold.2 (by omega)]at h2;cases h2
 refine⟨h.len,fun j a b c=>h.old j (by omega) b c,fun j a b c=>?_,fun hc j a b c=>?_⟩
 ·by_cases hj:j=i
  ·subst hj;exact .inl ⟨hold.1,hnew⟩
  exact h.new j a (by omega) c
 by_cases hj:j=i
 ·subst hj;exact .inl hold
 exact h.same hc j a (by omega) c
theorem Rnd.next {n:Nat} {d:List Int} {ch:Bool} (h:Rnd fin es n es.length d ch):Rnd fin es (n+1) 0 d false:=
 ⟨h.len,fun j a b c=>h.new j c b b,fun j a b=>by omega,fun _ j a b=>by omega⟩
theorem Rnd.done {n:Nat} {d:List Int} (h:Rnd fin es n es.length d false) (hes:∀i:Int,0≤i→i<es.length→∀e∈nth es i,0≤e.to∧e.to<es.length):IsD fin es d:=by
 have hst:∀j:Int,0≤j→j<es.length→Br fin es n j=false→Br fin es (n+1) j=false:=fun j h0 h1 hf=>by
  rcases h.new j h0 h1 h1 with⟨_,b⟩|⟨a,b,c,_⟩
  ·exact b
  rcases h.same rfl j h0 h1 h1 with⟨a2,_⟩|⟨a2,b2,c2,_⟩
  ·omega
  rw[G3 hf (by omega)]at c2;cases c2
 have hall:∀k:Nat,∀j:Int,0≤j→j<es.length→Br fin es n j=false→Br fin es (n+k) j=false:=by
  intro k
  induction k with
  |zero=>exact fun j _ _ h=>h
  |succ k ih=>
   intro j h0 h1 hf;cases hq:Br fin es (n+(k+1)) j with
   |false=>rfl
   |true=>
    exfalso;rcases Ea (k:=n+k) hq with q|⟨e,he,q⟩
    ·rw[ih j h0 h1 hf]at q;cases q
    obtain⟨t0,t1⟩:=hes j h0 h1 e he;cases hz:Br fin es n e.to with
    |false=>rw[ih e.to t0 t1 hz]at q;cases q
    |true=>
     have h3:=Fp he hz;rw[hst j h0 h1 hf]at h3;cases h3
 refine⟨h.len,fun i h0 h1=>?_⟩;rcases h.same rfl i h0 h1 h1 with⟨a,b⟩|⟨a,_,c⟩
 ·refine .inl ⟨a,fun k=>?_⟩
  by_cases hk:k≤n
  ·exact G3 b hk
  have:=hall (k-n) i h0 h1 b
  rwa [show n+(k-n)=k by omega]at this
 exact .inr ⟨a,c⟩
structure Bfs (fin:Int→Bool) (es:List (List EdgeD)) (d q:List Int) (h:Nat):Prop where
 len:d.length=es.length
 mem:∀i:Int,0≤i→i<es.length→(nth d i = -1∧i∉q)∨(0≤nth d i∧i∈q)
 rng:∀i∈q,0≤i∧i<es.length
 nd:q.Nodup
 ok:∀i∈q,Br fin es (nth d i).toNat i=true∧∀k,k<(nth d i).toNat→Br fin es k i=false
 srt:∀a b:Int,0≤a→a≤b→b<q.length→nth d (nth q a)≤nth d (nth q b)
 bnd:∀a:Int,0≤a→a<q.length→nth d (nth q a)≤a
 top:h<q.length→∀a:Int,0≤a→a<q.length→nth d (nth q a)≤nth d (nth q h)+1
 far:h<q.length→∀i:Int,0≤i→i<es.length→i∉q→Br fin es (nth d (nth q h)).toNat i=false
 fin0:∀i:Int,0≤i→i<es.length→fin i=true→i∈q
 pre:∀a:Int,0≤a→a<h→∀i:Int,0≤i→i<es.length→(∃e∈nth es i,e.to=nth q a)→i∈q
 hq:h≤q.length
theorem Iy:∀{n:Nat} {q:List Int},q.Nodup→(∀i∈q,0≤i∧i<n)→q.length≤n
 |0,q,hn,h=>by
  cases q with
  |nil=>simp
  |cons a l=>
   have:=h a (by simp);omega
 |n+1,q,hn,h=>by
  have h1:=Iy (n:=n) (hn.erase (n:Int)) (fun i hi=>by
   obtain⟨a,b⟩:=(hn.mem_erase_iff).1 hi;have:=h i b
   omega)
  rw[List.length_erase]at h1;split at h1<;>omega
theorem Bfs.add {d q:List Int} {h:Nat} (H:Bfs fin es d q h) (hh:h<q.length) {i:Int} (h0:0≤i) (h1:i<es.length) (hd:nth d i<0) (he:∃e∈nth es i,e.to=nth q h):Bfs fin es (d.set i.toNat (nth d (nth q h)+1)) (q++[i]) h:=by
 have hni:i∉q:=by
  rcases H.mem i h0 h1 with⟨_,b⟩|⟨a,_⟩
  ·exact b
  omega
 have hdl:i<d.length:=by rw[H.len];exact h1
 have hqh:nth q h∈q:=Ad (by omega) (by omega);obtain⟨z0,z1⟩:=H.rng _ hqh
 have hz:0≤nth d (nth q h):=by
  rcases H.mem _ z0 z1 with⟨_,b⟩|⟨a,_⟩
  ·exact absurd hqh b
  exact a
 have hds:∀j∈q,nth (d.set i.toNat (nth d (nth q h)+1)) j=nth d j:=fun j hj=>AU h0 (H.rng j hj).1 fun e=>hni (e▸hj);have hdi:nth (d.set i.toNat (nth d (nth q h)+1)) i=nth d (nth q h)+1:=BI h0 hdl;have hl:∀a:Int,0≤a→a<q.length→nth (q++[i]) a=nth q a:=fun a a0 a1=>DV a0 a1;have hla:∀a:Int,0≤a→a<q.length→nth (d.set i.toNat (nth d (nth q h)+1)) (nth (q++[i]) a)=nth d (nth q a):=fun a a0 a1=>by rw[hl a a0 a1,hds _ (Ad a0 a1)]
 have hlb:nth (d.set i.toNat (nth d (nth q h)+1)) (nth (q++[i]) q.length)=nth d (nth q h)+1:=by rw[KX rfl,hdi]
 refine⟨by rw[List.length_set];exact H.len,fun j j0 j1=>?_,fun j hj=>?_,?_,fun j hj=>?_,fun a b a0 ab b1=>?_,fun a a0 a1=>?_,fun _ a a0 a1=>?_,fun _ j j0 j1 hj=>?_,fun j j0 j1 hf=>List.mem_append_left _ (H.fin0 j j0 j1 hf),fun a a0 a1 j j0 j1 hj=>?_,by simp;omega⟩
 ·by_cases hj:j=i
  ·subst hj;rw[hdi];exact .inr ⟨by omega,by simp⟩
  rw[AU h0 j0 hj];rcases H.mem j j0 j1 with⟨a,b⟩|⟨a,b⟩
  ·exact .inl ⟨a,by simp[b,hj]⟩
  exact .inr ⟨a,by simp[b]⟩
 ·rcases List.mem_append.1 hj with hj|hj
  ·exact H.rng j hj
  rw[List.mem_singleton.1 hj];exact⟨h0,h1⟩
 ·rw[List.nodup_append];refine⟨H.nd,by simp,fun a ha b hb=>?_⟩;rw[List.mem_singleton]at hb;subst hb;exact fun e=>hni (e▸ha)
 ·rcases List.mem_append.1 hj with hj|hj
  ·rw[hds j hj];exact H.ok j hj
  rw[List.mem_singleton.1 hj,hdi];obtain⟨e,he,ht⟩:=he;have h2:=(H.ok _ hqh).1;rw[←ht]at h2;have e1:(nth d (nth q h)+1).toNat=(nth d e.to).toNat+1:=by rw[ht];omega
  rw[e1];refine⟨Fp he h2,fun k hk=>?_⟩;refine G3 (H.far hh i h0 h1 hni) ?_;rw[ht]at hk;omega
 ·simp only[List.length_append,List.length_singleton]at b1
  by_cases hb:b<q.length
  ·rw[hla a a0 (by omega),hla b (by omega) hb];exact H.srt a b a0 ab hb
  have eb:b=q.length:=by omega
  subst eb
  by_cases ha:a<q.length
  ·rw[hla a a0 ha,hlb];exact H.top hh a a0 ha
  rw[show a=q.length by omega];exact Int.le_refl _
 ·simp only[List.length_append,List.length_singleton]at a1
  by_cases ha:a<q.length
  ·rw[hla a a0 ha];exact H.bnd a a0 ha
  rw[show a=q.length by omega,hlb];have:=H.bnd h (by omega) (by omega);omega
 ·simp only[List.length_append,List.length_singleton]at a1;rw[hla h (by omega) (by omega)]
  by_cases ha:a<q.length
  ·rw[hla a a0 ha];exact H.top hh a a0 ha
  rw[show a=q.length by omega,hlb];exact Int.le_refl _
 ·rw[hla h (by omega) (by omega)];exact H.far hh j j0 j1 fun hq=>hj (List.mem_append_left _ hq)
 rw[hl a a0 (by omega)]at hj;exact List.mem_append_left _ (H.pre a a0 a1 j j0 j1 hj)
theorem Bfs.next {d q:List Int} {h:Nat} (H:Bfs fin es d q h) (hh:h<q.length) (hes:∀i:Int,0≤i→i<es.length→∀e∈nth es i,0≤e.to∧e.to<es.length)
  (hp:∀i:Int,0≤i→i<es.length→(∃e∈nth es i,e.to=nth q h)→i∈q):Bfs fin es d q (h+1):=by
 have hpre:∀a:Int,0≤a→a<((h+1:Nat):Int)→∀i:Int,0≤i→i<es.length→(∃e∈nth es i,e.to=nth q a)→i∈q:=fun a a0 a1 i i0 i1 he=>by
  by_cases ha:a<h
  ·exact H.pre a a0 ha i i0 i1 he
  rw[show a=(h:Int) by omega]at he;exact hp i i0 i1 he
 refine⟨H.len,H.mem,H.rng,H.nd,H.ok,H.srt,H.bnd,fun h2 a a0 a1=>?_,fun h2 i i0 i1 hi=>?_,H.fin0,hpre,by omega⟩
 ·have h3:=H.srt h (h+1:Nat) (by omega) (by omega) (by omega);have h4:=H.top hh a a0 a1;omega
 have h3:=H.srt h (h+1:Nat) (by omega) (by omega) (by omega);have h4:=H.top hh (h+1:Nat) (by omega) (by omega);have h5:=H.far hh i i0 i1 hi;have hqh:nth q h∈q:=Ad (by omega) (by omega);have hqn:nth q ((h+1:Nat):Int)∈q:=Ad (by omega) (by omega)
 have hz:0≤nth d (nth q h):=by
  rcases H.mem _ (H.rng _ hqh).1 (H.rng _ hqh).2 with⟨_,b⟩|⟨a,_⟩
  ·exact absurd hqh b
  exact a
 by_cases hs:nth d (nth q ((h+1:Nat):Int))=nth d (nth q h)
 ·rw[hs];exact h5
 cases hq:Br fin es (nth d (nth q ((h+1:Nat):Int))).toNat i with
 |false=>rfl
 |true=>
  exfalso;rw[show(nth d (nth q ((h+1:Nat):Int))).toNat=(nth d (nth q h)).toNat+1 by omega]at hq;rcases Ea hq with w|⟨e,he,w⟩
  ·rw[h5]at w;cases w
  obtain⟨t0,t1⟩:=hes i i0 i1 e he;rcases H.mem e.to t0 t1 with⟨_,b⟩|⟨a,b⟩
  ·rw[H.far hh e.to t0 t1 b]at w;cases w
  obtain⟨j,j0,j1,hj⟩:∃j:Int,0≤j∧j<q.length∧nth q j=e.to:=by
   obtain⟨n,hn,e2⟩:=List.getElem_of_mem b;exact⟨n,by omega,by omega,by simp[nth,List.getD,hn,e2]⟩
  have hdl:nth d e.to≤nth d (nth q h):=by
   by_cases hle:nth d e.to≤nth d (nth q h)
   ·exact hle
   rw[(H.ok _ b).2 _ (show(nth d (nth q h)).toNat<(nth d e.to).toNat by omega)]at w;cases w
  have hjh:j<((h+1:Nat):Int):=by
   by_cases hlt:j<((h+1:Nat):Int)
   ·exact hlt
   have h6:=H.srt ((h+1:Nat):Int) j (by omega) (by omega) j1;rw[hj]at h6;omega
  exact hi (hpre j j0 hjh i i0 i1 ⟨e,he,hj.symm⟩)
theorem Bfs.done {d q:List Int} {h:Nat} (H:Bfs fin es d q h) (hh:h=q.length) (hes:∀i:Int,0≤i→i<es.length→∀e∈nth es i,0≤e.to∧e.to<es.length):IsD fin es d:=by
 have hall:∀k:Nat,∀i:Int,0≤i→i<es.length→i∉q→Br fin es k i=false:=by
  intro k
  induction k with
  |zero=>
   intro i i0 i1 hi;cases hf:Br fin es 0 i with
   |false=>rfl
   |true=>exact absurd (H.fin0 i i0 i1 hf) hi
  |succ k ih=>
   intro i i0 i1 hi;cases hf:Br fin es (k+1) i with
   |false=>rfl
   |true=>
    exfalso;rcases Ea hf with w|⟨e,he,w⟩
    ·rw[ih i i0 i1 hi]at w;cases w
    obtain⟨t0,t1⟩:=hes i i0 i1 e he
    by_cases b:e.to∈q
    ·obtain⟨n,hn,e2⟩:=List.getElem_of_mem b;exact hi (H.pre n (by omega) (by omega) i i0 i1 ⟨e,he,by simp[nth,List.getD,hn,e2]⟩)
    rw[ih e.to t0 t1 b]at w;cases w
 refine⟨H.len,fun i i0 i1=>?_⟩;rcases H.mem i i0 i1 with⟨a,b⟩|⟨a,b⟩
 ·exact .inl ⟨a,fun k=>hall k i i0 i1 b⟩
 exact .inr ⟨a,H.ok i b⟩
end
end Go.Proofs.YtmoojmgihdgceaaGreatDoor
namespace Go.Proofs.YtmoojmgihdgceaaGreatDoor
set_option linter.unusedVariables false
set_option linter.unusedSimpArgs false
open Go.RowKit Go.Proofs Go.MapKept
structure Task where
 k:Int
 n:Int
 a:Int
 deriving Inhabited,DecidableEq
abbrev wr (n:Int):Int:=IntKind.i64.wrap n
def canT (r:Room) (f x:P3) (at_:Int) (t:Task):Bool:=
 if t.k=1 then(decide (t.a=0)&&(decide (0≤t.n)&&decide (t.n≤(r.wys.l.length:Int)-1)))&&(decide ((nth r.wys.l t.n).a=at_)||decide ((nth r.wys.l t.n).b=at_))
 else if t.k=2 then(decide (0≤t.n)&&decide (t.n≤(r.ths.l.length:Int)-1))&&((decide ((nth r.ths.l t.n).pl=at_)&&(decide (0≤t.a)&&decide (t.a≤(nth r.ths.l t.n).st-1)))&&!decide (nth x.1 t.n=t.a))
 else if t.k=3 then((decide (t.a=0)&&(decide (0≤t.n)&&decide (t.n≤(r.prs.l.length:Int)-1)))&&!decide (nth x.2.1 t.n=nth f.2.1 t.n))&&(decide (nth f.2.1 t.n = -1)||(decide (nth f.2.1 t.n=at_)&&(HoldsV r x (nth r.prs.l t.n).wh.l).2))
 else false
def doT (r:Room) (f x:P3) (at_:Int) (t:Task):P3×Int:=
 if t.k=1 then(x,wr (wr ((nth r.wys.l t.n).a+(nth r.wys.l t.n).b)-at_))
 else if t.k=2 then((x.1.set t.n.toNat t.a,x.2),at_)
 else if t.k=3 then((x.1,x.2.1.set t.n.toNat (nth f.2.1 t.n),x.2.2),at_)
 else(x,at_)
def PI (r:Room) (f:P3):P3×Int→List Task→Option (P3×Int)
 |s,[]=>some s
 |s,t::l=>if canT r f s.1 s.2 t=true then PI r f (doT r f s.1 s.2 t) l else none
structure Len3 (r:Room) (x:P3):Prop where
 th:x.1.length=r.ths.l.length
 pr:x.2.1.length=r.prs.l.length
 bt:∀i:Int,0≤i→i<x.1.length→-1000≤nth x.1 i∧nth x.1 i≤1000
 bp:∀i:Int,0≤i→i<x.2.1.length→-1000≤nth x.2.1 i∧nth x.2.1 i≤1000
abbrev AtB (a:Int):Prop:= -9223372036854775808≤a∧a≤9223372036854775807
theorem Jbm (n:Int):AtB (wr n):=by
 unfold AtB wr;rw[IntKind.wrap_i64];omega
theorem UV {r:Room} {x:Thing} (h:thB r x=true):2≤x.st∧x.st≤6:=by
 simp only[thB,Bool.and_eq_true,decide_eq_true_eq]at h;omega
theorem Ur {l:List Int} {n:Int} {v:Int} (h:∀i:Int,0≤i→i<l.length→-1000≤nth l i∧nth l i≤1000) (hv: -1000≤v∧v≤1000):∀i:Int,0≤i→i<(l.set n.toNat v).length→-1000≤nth (l.set n.toNat v) i∧nth (l.set n.toNat v) i≤1000:=fun i h0 h1=>by
 rw[List.length_set]at h1
 have e:nth (l.set n.toNat v) i=v∨nth (l.set n.toNat v) i=nth l i:=by
  unfold nth;rw[List.getD_eq_getElem?_getD,List.getD_eq_getElem?_getD,List.getElem?_set];split
  ·split
   ·exact .inl rfl
   exact .inr (by rw[List.getElem?_eq_none (by omega)])
  exact .inr rfl
 rcases e with e|e
 ·rw[e];exact hv
 rw[e];exact h i h0 h1
theorem Len3.doT {r:Room} {f x:P3} {a:Int} {t:Task} (h:Len3 r x) (hf:Len3 r f) (hR:Ready r) (hc:canT r f x a t=true):Len3 r (doT r f x a t).1:=by
 obtain⟨h1,h2,h3,h4⟩:=h;unfold YtmoojmgihdgceaaGreatDoor.doT;unfold canT at hc
 by_cases k1:t.k=1
 ·rw[if_pos k1];exact⟨h1,h2,h3,h4⟩
 by_cases k2:t.k=2
 ·rw[if_neg k1,if_pos k2]at hc⊢;simp only[Bool.and_eq_true,decide_eq_true_eq]at hc;have hst:=UV (hR.ths _ (Ad hc.1.1 (show t.n<(r.ths.l.length:Int) by omega)));exact⟨by rw[List.length_set];exact h1,h2,Ur h3 (by omega),h4⟩
 by_cases k3:t.k=3
 ·rw[if_neg k1,if_neg k2,if_pos k3]at hc⊢;simp only[Bool.and_eq_true,decide_eq_true_eq]at hc;exact⟨h1,by rw[List.length_set];exact h2,h3,Ur h4 (hf.bp t.n (by omega) (by rw[hf.pr];omega))⟩
 rw[if_neg k1,if_neg k2,if_neg k3];exact⟨h1,h2,h3,h4⟩
theorem Y1 {r:Room} {f x:P3} {a:Int} {t:Task} (h:AtB a):AtB (doT r f x a t).2:=by
 unfold doT
 repeat' split
 ·exact Jbm _
 all_goals exact h
theorem X3 {r:Room} {f x:P3} {a:Int} {t:Task}:(doT r f x a t).1.2.2=x.2.2:=by
 unfold doT
 repeat' split
 all_goals rfl
structure Stand where
 z:Stt
 at_:Int
 bf:Int
 tk:Task
 deriving Inhabited
def Stand.s (s:Stand):P3×Int:=(s.z.x,s.at_)
structure Reach (r:Room) (f x0:P3) (ss:List Stand):Prop where
 ne:0<ss.length
 first:(nth ss 0).s=(x0,0)
 len:∀i:Int,0≤i→i<ss.length→Len3 r (nth ss i).z.x∧(nth ss i).z.x.2.2=x0.2.2∧AtB (nth ss i).at_
 step:∀i:Int,1≤i→i<ss.length→(0≤(nth ss i).bf∧(nth ss i).bf<i)∧canT r f (nth ss (nth ss i).bf).z.x (nth ss (nth ss i).bf).at_ (nth ss i).tk=true∧(nth ss i).s=doT r f (nth ss (nth ss i).bf).z.x (nth ss (nth ss i).bf).at_ (nth ss i).tk
theorem Reach.one {r:Room} {f:P3} {s:Stand} (h:Len3 r s.z.x) (h0:s.at_=0):Reach r f s.z.x [s]:=
 ⟨by simp,by unfold Stand.s;rw[show nth [s] 0=s from rfl,h0],fun i i0 i1=>by
  have:i=0:=by simp at i1;omega
  subst this;exact⟨h,rfl,by rw[show(nth [s] 0).at_=s.at_ from rfl,h0];decide⟩,fun i i0 i1=>by simp at i1;omega⟩
theorem C5 {α:Type} [Inhabited α] {l:List α} {x:α} {i:Int} (h0:0≤i) (h1:i<l.length):nth (l++[x]) i=nth l i:=Rx h1 h0
theorem Ih {α:Type} [Inhabited α] {l:List α} {x:α} {i:Int} (h:i=l.length):nth (l++[x]) i=x:=by
 rw[P5 (by omega),h,Int.sub_self];rfl
theorem Reach.snoc {r:Room} {f x0:P3} {ss:List Stand} {y:Stand} (h:Reach r f x0 ss) (hf:Len3 r f) (hR:Ready r) {i:Int} (h0:0≤i) (h1:i<ss.length) (hb:y.bf=i) (hc:canT r f (nth ss i).z.x (nth ss i).at_ y.tk=true) (hs:y.s=doT r f (nth ss i).z.x (nth ss i).at_ y.tk):Reach r f x0 (ss++[y]):=by
 have hz:y.z.x=(doT r f (nth ss i).z.x (nth ss i).at_ y.tk).1:=congrArg Prod.fst hs;have hz2:y.at_=(doT r f (nth ss i).z.x (nth ss i).at_ y.tk).2:=congrArg Prod.snd hs;have hl:=h.len i h0 h1;refine⟨by simp,by rw[C5 (Int.le_refl 0) (by have:=h.ne;omega)];exact h.first,fun j j0 j1=>?_,fun j j0 j1=>?_⟩
 ·by_cases hj:j<ss.length
  ·rw[C5 j0 hj];exact h.len j j0 hj
  rw[Ih (by simp at j1;omega),hz,hz2];exact⟨hl.1.doT hf hR hc,by rw[X3];exact hl.2.1,Y1 hl.2.2⟩
 by_cases hj:j<ss.length
 ·obtain⟨a1,a2,a3⟩:=h.step j j0 hj;rw[C5 (by omega) hj,C5 a1.1 (by omega)];exact⟨a1,a2,a3⟩
 rw[Ih (by simp at j1;omega),hb,C5 h0 h1];exact⟨⟨h0,by simp at j1;omega⟩,hc,hs⟩
theorem Reach.back {r:Room} {f x0:P3} {ss:List Stand} (h:Reach r f x0 ss) {i:Int} (h0:1≤i) (h1:i<ss.length) {out:List Task} {z:P3×Int} (hp:PI r f (nth ss i).s out.reverse=some z):
  PI r f (nth ss (nth ss i).bf).s (out++[(nth ss i).tk]).reverse=some z:=by
 obtain⟨a1,a2,a3⟩:=h.step i h0 h1;rw[List.reverse_append];show PI r f _ ((nth ss i).tk::out.reverse)=some z;unfold PI;have e1:canT r f (nth ss (nth ss i).bf).s.1 (nth ss (nth ss i).bf).s.2 (nth ss i).tk=true:=a2;rw[if_pos e1];rw[a3]at hp;exact hp
structure MapS (es:Array MapEntry):Prop where
 num:∀e∈es.toList,(∃s,e.key = .string s)∧∃v,e.val = .int .i64 v
section
variable {P:Program} {ro:Option Nat} {n0:Nat} {w0:World} {ds:List Deferred} {ops:Array Oper} {Q:Exit→Act→World→Prop} {L L':List SA} {rest:List Oper} {l:List Value} {ty:TypeId} {ps:String} {af:Array Edge}
 {T K E:TypeId} {x y z:Operand} {b j:Nat} {v:Int} {d:Option Tmp} {g:Option (Nat×Bool)} {t:ByteArray}
theorem MapS.keys {es:Array MapEntry} (h:MapS es):∀x∈es.toList,IsKey .string x.key:=fun x hx=>by
 obtain⟨⟨s,hs⟩,_⟩:=h.num x hx;rw[hs];trivial
theorem MapS.push {es:Array MapEntry} (h:MapS es) (t:ByteArray) (v:Int) (c:Nat):MapS (es.push ⟨.string t,.int .i64 v,c⟩):=⟨fun e he=>by
 rw[Array.toList_push,List.mem_append,List.mem_singleton]at he;rcases he with he|rfl
 ·exact h.num e he
 exact⟨⟨t,rfl⟩,v,rfl⟩⟩
theorem WS.callE {β:Type} {f:Operand} {args:List Operand} {ts:Array TypeId} {fn:FuncId} {cap:List Value} {vs:List Value} {v:β→Value} {p:β→Prop} {i:Nat} {l':β→List Value}
  (hf:evo l f=some (.func (.func fn) #[] cap.toArray)) (hv:evs l args=some vs) (he:Ent P fn)
  (hc:∀u,St n0 w0 L u→Calls P fn (vs++cap).toArray u (fun e u'=>∃x,p x∧RetB u (v x) e u'))
  (hl:∀x,lset l i (v x)=some (l' x)) (k:∀x,p x→WS P ro n0 w0 ds ops Q L rest (l' x)):
  WS P ro n0 w0 ds ops Q L (⟨some i,.call ⟨.value f,args.toArray,ts⟩,ty,ps,af,none⟩::rest) l:=
 WS.callS (L':=fun _=>L) hf hv he (fun u hu=>(hc u hu).mono fun e u' ⟨x,h1,h2,h3⟩=>⟨x,h1,h2,hu.ext h3⟩) hl k
variable {α:Type} [Inhabited α] {C:Cel α}
end
end Go.Proofs.YtmoojmgihdgceaaGreatDoor
namespace Go.Proofs.YtmoojmgihdgceaaGreatDoor
set_option linter.unusedVariables false
set_option linter.unusedSimpArgs false
open Go.RowKit Go.Proofs
def olst {α:Type} (f:α→Value) (e:TypeId) (v:Value) (xs:List α):SA:=osl e 1 v xs.length (xs.map f)
def lol {α:Type} (f:α→Value) (e:TypeId) (pl:List (Value×List α)):List SA:=pl.map fun p=>olst f e p.1 p.2
section
variable {α:Type} {f:α→Value}
theorem MM {e:TypeId} {pl:List (Value×List α)} {i:Nat} {p:Value×List α} (h:pl[i]? = some p):(lol f e pl).Perm (olst f e p.1 p.2::lol f e (pl.eraseIdx i)):=by
 have h1:(lol f e pl)[i]? = some (olst f e p.1 p.2):=by simp[lol,h]
 have h2:=CL h1;have h3:(lol f e pl).eraseIdx i=lol f e (pl.eraseIdx i):=by simp[lol,ER]
 rwa [h3]at h2
section
variable {P:Program} {ro:Option Nat} {n0:Nat} {w0:World} {ds:List Deferred} {ops:Array Oper} {Q:Exit→Act→World→Prop} {L:List SA}
 {rest:List Oper} {l:List Value} {d:Option Tmp} {ty:TypeId} {ps:String} {af:Array Edge} {g:Option (Nat×Bool)} {C:World→Prop}
theorem St.focusL {e:TypeId} {pl:List (Value×List α)} {i j:Nat} {p:Value×List α} (hj:L[j]? = some (YtmoojmgihdgceaaGreatDoor.star (lol f e pl))) (h:pl[i]? = some p) {u:World}:
  St n0 w0 L u↔St n0 w0 (olst f e p.1 p.2::YtmoojmgihdgceaaGreatDoor.star (lol f e (pl.eraseIdx i))::L.eraseIdx j) u:=by
 constructor
 ·intro hu;have h1:=(hu.perm (CL hj)).unpack;have h2:=h1.perm (List.Perm.append_right _ (MM h));exact((h2.perm (List.perm_middle (l₁:=lol f e (pl.eraseIdx i))).symm).pack).perm (.swap _ _ _)
 intro hu;have h1:=(hu.perm (.swap _ _ _)).unpack;have h2:=h1.perm (List.perm_middle (l₁:=lol f e (pl.eraseIdx i)));have h3:St n0 w0 ((olst f e p.1 p.2::lol f e (pl.eraseIdx i))++L.eraseIdx j) u:=h2;exact((h3.perm (List.Perm.append_right _ (MM h).symm)).pack).perm (CL hj).symm
theorem WS.appendAtL {T e:TypeId} {by_ t j i:Nat} {x y:Operand} {p:Value×List α} {z zc:Value} {a:α} {pl:List (Value×List α)} (hT:sl P T=some (e,1,by_)) (hz:zv P e=some [zc])
  (hx:evo l x=some p.1) (hj:L[j]? = some (star (lol f e pl))) (hi:pl[i]? = some p) (hy:evo l y=some z) (hn:∀u,St n0 w0 L u→SlC u z 1 1 [f a]) (h1:(f a).oneCell'=true)
  (hb:(p.2.length+1)*by_≤140737488355328) (hm:p.2.length+1≤9223372036854775807)
  {l':Value→List Value} (hl:∀v,lset l t v=some (l' v)) {L':Value→List SA} (hL:∀v',lset L j (star (lol f e (pl.set i (v',p.2++[a]))))=some (L' v')) (k:∀v',v'.oneCell'=true→WS P ro n0 w0 ds ops Q (L' v') rest (l' v')):
  WS P ro n0 w0 ds ops Q L (⟨some t,.call ⟨.builtin .append,#[x,y],#[T,T]⟩,ty,ps,af,none⟩::rest) l:=by
 refine WS.weak (fun u hu=>(St.focusL hj hi).1 hu) ?_;refine WS.append (j:=0) (m:=1) (n:=p.2.length) (xs:=p.2.map f) hT hz rfl Nat.one_pos hx rfl hy (fun u hu=>hn u ((St.focusL hj hi).2 hu)) (by simpa using h1) hm hb hl (fun _=>rfl) fun v'=>?_;refine WS.oc (j:=0) rfl fun hv=>?_;refine WS.weak (fun u hu=>?_) (k v' hv);have hjl:=(List.getElem?_eq_some_iff.1 hj).1;have hil:=(List.getElem?_eq_some_iff.1 hi).1;have h1:L' v'=L.set j (star (lol f e (pl.set i (v',p.2++[a])))):=(Ag (hL v')).symm;rw[h1];have a1:(L.set j (YtmoojmgihdgceaaGreatDoor.star (lol f e (pl.set i (v',p.2++[a])))))[j]? = some (YtmoojmgihdgceaaGreatDoor.star (lol f e (pl.set i (v',p.2++[a])))):=List.getElem?_set_self hjl;have a2:(pl.set i (v',p.2++[a]))[i]? = some (v',p.2++[a]):=List.getElem?_set_self hil;refine(St.focusL a1 a2).2 ?_;have e1:(pl.set i (v',p.2++[a])).eraseIdx i=pl.eraseIdx i:=List.eraseIdx_set_eq ..;have e2:(L.set j (star (lol f e (pl.set i (v',p.2++[a]))))).eraseIdx j=L.eraseIdx j:=List.eraseIdx_set_eq ..;rw[e1,e2];unfold olst
 simpa using hu
theorem St.nilsL {e:TypeId} {u:World} (h:St n0 w0 L u):∀n:Nat,St n0 w0 (YtmoojmgihdgceaaGreatDoor.star (lol f e (List.replicate n (.slice none 0 0,[])))::L) u
 |0=>St.pack (L1:=[]) h
 |n+1=>by
  have h1:=(St.nilsL (e:=e) h n).unpack;have h2:=h1.osl0 (e:=e) (size:=1);exact St.pack (L1:=lol f e (List.replicate (n+1) (.slice none 0 0,[]))) h2
theorem WS.makeListsL {T te e:TypeId} {by_ i:Nat} {x y:Operand} {n:Int} (hT:sl P T=some (te,1,by_)) (hx:evo l x=some (.int .i64 n)) (hy:evo l y=some (.int .i64 n)) (hz:zv P te=some [.slice none 0 0])
  (h0:0≤n) (hb:(by_:Int)*n≤281474976710656) (hm:n≤9223372036854775807)
  {l':Value→List Value} (hl:∀v,lset l i v=some (l' v)) (k:∀v,v.oneCell'=true→WS P ro n0 w0 ds ops Q (osl te 1 v ((List.replicate n.toNat ((Value.slice none 0 0,[]):Value×List α)).map (·.1)).length ((List.replicate n.toNat ((Value.slice none 0 0,[]):Value×List α)).map (·.1))::star (lol f e (List.replicate n.toNat (.slice none 0 0,[])))::L) rest (l' v)):
  WS P ro n0 w0 ds ops Q L (⟨some i,.makeSlice T x y,ty,ps,af,none⟩::rest) l:=by
 refine WS.weak (fun u hu=>St.nilsL (f:=f) (e:=e) hu n.toNat) ?_;refine WS.makeSlice (z:=e) hT hx hy hz rfl h0 rfl hb hm hl fun v=>?_
 have e1:(List.replicate n.toNat [Value.slice none 0 0]).flatten=(List.replicate n.toNat ((Value.slice none 0 0,[]):Value×List α)).map (·.1):=by
  generalize n.toNat=m
  induction m with
  |zero=>rfl
  |succ m ih=>simp[List.replicate_succ]
 rw[e1];refine WS.oc (j:=0) rfl fun hv=>?_;have:=k v hv
 simpa using this
theorem Star.olst {L:List SA} {S:Nat→Prop} {u:World} {e:TypeId} {v:Value} {xs:List α} {j:Nat} (hj:L[j]? = some (YtmoojmgihdgceaaGreatDoor.olst f e v xs)) (h:Star L S u):SlC u v xs.length 1 (xs.map f):=by
 obtain⟨T,_,h2⟩:=h.get hj;exact A1 h2.2
end
end
structure ChB (u:World) (b:Nat) (e:TypeId) (rows:List (List Bool)) (N:Int) (rv:Value) (gs:List Value):Prop where
 bk:BlkAt u b [rv,.int .i64 N] e
 sp:SlC u rv rows.length 1 gs
 el:∀i:Int,0≤i→i<rows.length→SlC u (nth gs i) (nth rows i).length 1 ((nth rows i).map Value.bool)
theorem ChB.ext {w u:World} {b:Nat} {e:TypeId} {rows:List (List Bool)} {N:Int} {rv:Value} {gs:List Value} (h:ChB w b e rows N rv gs) (hb:Below w.heap.size w u):ChB u b e rows N rv gs:=
 ⟨h.bk.ext hb,h.sp.ext hb,fun i h0 h1=>(h.el i h0 h1).ext hb⟩
theorem ChB.st {w0 u:World} {L:List SA} {b:Nat} {e:TypeId} {rows:List (List Bool)} {N:Int} {rv:Value} {gs:List Value} (h:ChB w0 b e rows N rv gs) (hu:St w0.heap.size w0 L u):ChB u b e rows N rv gs:=h.ext hu.below
theorem CS.drawnTillBut {P:Program} {ro:Option Nat} {n0:Nat} {w0:World} {ds:List Deferred} {Q:Exit→Act→World→Prop} {L:List SA} {l:List Value} (s j:Nat) {L0:List SA} {id:Nat} {os:List Oper} {k:Nat} {bl:List Bool} (hm:P.follows .mixedOrders=true) (hk:os.length=k) (hb:List.replicate k false=bl)
  (_hL:lera L j=some L0) (h:AT P ro n0 w0 ds os.toArray Q (St n0 w0 L0) s L k bl l):
  CS P ro n0 w0 ds (.region id os.toArray true) Q L l:=by subst hb;exact CS.drawnZ s _ hm hk h
end Go.Proofs.YtmoojmgihdgceaaGreatDoor
namespace Go.Proofs.YtmoojmgihdgceaaGreatDoor
set_option linter.unusedVariables false
set_option linter.unusedSimpArgs false
open Go.RowKit Go.Proofs Go.MapKept
def spL (ws:List (List UInt8)):List UInt8:=ws.flatMap fun x=>x++[32]
theorem Hh (a b:List (List UInt8)):spL (a++b)=spL a++spL b:=List.flatMap_append
theorem Mh:∀{a b r s:List UInt8},(32:UInt8)∉a→(32:UInt8)∉b→a++32::r=b++32::s→a=b∧r=s
 |[],[],r,s,_,_,h=>⟨rfl,(List.cons.inj h).2⟩
 |[],y::b,r,s,_,hb,h=>by
  have:=(List.cons.inj h).1;exact absurd (by rw[this];simp) hb
 |x::a,[],r,s,ha,_,h=>by
  have:=(List.cons.inj h).1;exact absurd (by rw[←this];simp) ha
 |x::a,y::b,r,s,ha,hb,h=>by
  obtain⟨h1,h2⟩:=List.cons.inj h;obtain⟨h3,h4⟩:=Mh (fun q=>ha (List.mem_cons_of_mem _ q)) (fun q=>hb (List.mem_cons_of_mem _ q)) h2;exact⟨by rw[h1,h3],h4⟩
theorem KD:∀{a b:List (List UInt8)},(∀x∈a,(32:UInt8)∉x)→(∀x∈b,(32:UInt8)∉x)→spL a=spL b→a=b
 |[],[],_,_,_=>rfl
 |[],y::b,_,_,h=>by
  have:=congrArg List.length h;simp[spL]at this
 |x::a,[],_,_,h=>by
  have:=congrArg List.length h;simp[spL]at this
 |x::a,y::b,ha,hb,h=>by
  have h1:x++32::spL a=y++32::spL b:=by simpa [spL]using h
  obtain⟨h2,h3⟩:=Mh (ha x (by simp)) (hb y (by simp)) h1;rw[h2,KD (fun z hz=>ha z (by simp[hz])) (fun z hz=>hb z (by simp[hz])) h3]
theorem Gy (n:Nat):(32:UInt8)∉Lib.decDigits n:=Tx (G8 n).1
theorem Kz {n m:Nat} (h:Lib.decDigits n=Lib.decDigits m):n=m:=by
 have h1:=(G8 n).2;have h2:=(G8 m).2;rw[h]at h1;omega
theorem LH (n:Nat):(45:UInt8)∉Lib.decDigits n:=fun hm=>by
 have:=(G8 n).1;unfold GV at this;have:=List.all_eq_true.1 this _ hm;simp at this
theorem SH (n:Int):(32:UInt8)∉Lib.itoa n:=fun hm=>by
 unfold Lib.itoa at hm;split at hm
 ·rcases List.mem_cons.1 hm with h|h
  ·exact absurd h (by decide)
  exact Gy _ h
 exact Gy _ hm
theorem WF {n m:Int} (h:Lib.itoa n=Lib.itoa m):n=m:=by
 unfold Lib.itoa at h;split at h<;>split at h
 ·have:=Kz (List.cons.inj h).2;omega
 ·exact absurd (by rw[←h];simp) (LH m.toNat)
 ·exact absurd (by rw[h];simp) (LH n.toNat)
 have:=Kz h;omega
def booL (b:Bool):List UInt8:=if b=true then[116,114,117,101]else[102,97,108,115,101]
theorem SN (b:Bool):(32:UInt8)∉booL b:=by cases b<;>decide
theorem Vg {a b:Bool} (h:booL a=booL b):a=b:=by revert h;cases a<;>cases b<;>decide
theorem Ll {α:Type} {f:α→List UInt8} (hf:∀a b,f a=f b→a=b):∀{x y:List α},x.map f=y.map f→x=y
 |[],[],_=>rfl
 |[],_::_,h=>by cases h
 |_::_,[],h=>by cases h
 |a::x,b::y,h=>by
  obtain⟨h1,h2⟩:=List.cons.inj h;rw[hf a b h1,Ll hf h2]
def numT (l:List Int):ByteArray:=ba (spL (l.map Lib.itoa))
def booT (l:List Bool):ByteArray:=ba (spL (l.map booL))
def keyI (x:PX):ByteArray:=numT (x.1.1++(x.1.2.1++x.1.2.2))++booT x.2
structure Alen (x y:PX):Prop where
 th:x.1.1.length=y.1.1.length
 pr:x.1.2.1.length=y.1.2.1.length
 pl:x.1.2.2.length=y.1.2.2.length
 rd:x.2.length=y.2.length
theorem UR {a b:List UInt8} (h:ba a=ba b):a=b:=by
 have:=congrArg bl h;exact this
theorem O6 {x y:P3} (h1:x.1.length=y.1.length) (h2:x.2.1.length=y.2.1.length) (h:x.1++(x.2.1++x.2.2)=y.1++(y.2.1++y.2.2)):x=y:=by
 obtain⟨a,b⟩:=List.append_inj h h1;obtain⟨c,d⟩:=List.append_inj b h2;obtain⟨x1,x2,x3⟩:=x;obtain⟨y1,y2,y3⟩:=y;simp only at a c d;rw[a,c,d]
theorem R6 {x y:PX} (hl:Alen x y) (h:keyI x=keyI y):x=y:=by
 unfold keyI numT booT at h;rw[DO,DO,←Hh,←Hh]at h;have h1:=KD (fun z hz=>?_) (fun z hz=>?_) (UR h)
 ·obtain⟨h2,h3⟩:=List.append_inj h1 (by have:=hl.th;have:=hl.pr;have:=hl.pl;simp;omega);have e1:=O6 hl.th hl.pr (Ll (fun _ _=>WF) h2);have e2:=Ll (fun _ _=>Vg) h3;exact Prod.ext e1 e2
 all_goals
  rcases List.mem_append.1 hz with hz|hz
  ·obtain⟨n,_,rfl⟩:=List.mem_map.1 hz;exact SH n
  obtain⟨n,_,rfl⟩:=List.mem_map.1 hz;exact SN n
def Gj (l:List Bool):List Int:=filI l.length fun i=>nth l i
def keyN (x:PX):List Int:=x.1.1++(x.1.2.1.map (fun n=>n+10)++(x.1.2.2++Gj x.2))
def keyR (x:PX):ByteArray:=ba (spL ((keyN x).map fun n:Int=>Lib.decDigits n.toNat))
structure Nneg (x:PX):Prop where
 th:∀n∈x.1.1,0≤n
 pr:∀n∈x.1.2.1,-10≤n
 pl:∀n∈x.1.2.2,0≤n
theorem EZ {l:List Bool} {i:Int}:i∈Gj l↔0≤i∧i<l.length∧nth l i=true:=by
 unfold Gj filI;rw[List.mem_filter];constructor
 ·rintro⟨h1,h2⟩;unfold Ca at h1;obtain⟨k,hk,rfl⟩:=List.mem_map.1 h1;have:=List.mem_range.1 hk;exact⟨by omega,by omega,h2⟩
 rintro⟨h0,h1,h2⟩;refine⟨?_,h2⟩;unfold Ca;exact List.mem_map.2 ⟨i.toNat,List.mem_range.2 (by omega),by omega⟩
theorem On {l m:List Bool} (hl:l.length=m.length) (h:Gj l=Gj m):l=m:=by
 refine IQ hl fun i h0 h1=>?_;have e1:=EZ (l:=l) (i:=i);have e2:=EZ (l:=m) (i:=i);rw[h]at e1;cases hx:nth l i<;>cases hy:nth m i
 ·rfl
 ·have:=e1.1 (e2.2 ⟨h0,by omega,hy⟩);rw[hx]at this;cases this.2.2
 ·have:=e2.1 (e1.2 ⟨h0,by omega,hx⟩);rw[hy]at this;cases this.2.2
 rfl
theorem MR:∀{x y:List Int},(∀n∈x,0≤n)→(∀n∈y,0≤n)→(x.map fun n:Int=>Lib.decDigits n.toNat)=(y.map fun n:Int=>Lib.decDigits n.toNat)→x=y
 |[],[],_,_,_=>rfl
 |[],_::_,_,_,h=>by cases h
 |_::_,[],_,_,h=>by cases h
 |a::x,b::y,hx,hy,h=>by
  obtain⟨h1,h2⟩:=List.cons.inj h;have:=Kz h1;have:=hx a (by simp);have:=hy b (by simp);rw[MR (fun n hn=>hx n (by simp[hn])) (fun n hn=>hy n (by simp[hn])) h2,show a=b by omega]
theorem OV {x:PX} (hx:Nneg x):∀n∈keyN x,0≤n:=fun n hn=>by
 unfold keyN at hn;rcases List.mem_append.1 hn with hn|hn
 ·exact hx.th n hn
 rcases List.mem_append.1 hn with hn|hn
 ·obtain⟨k,hk,rfl⟩:=List.mem_map.1 hn;have:=hx.pr k hk;omega
 rcases List.mem_append.1 hn with hn|hn
 ·exact hx.pl n hn
 exact(EZ.1 hn).1
theorem Si {x y:PX} (hl:Alen x y) (hx:Nneg x) (hy:Nneg y) (h:keyR x=keyR y):x=y:=by
 unfold keyR at h
 have h1:=KD (fun z hz=>by
  obtain⟨n,_,rfl⟩:=List.mem_map.1 hz
  exact Gy _) (fun z hz=>by
  obtain⟨n,_,rfl⟩:=List.mem_map.1 hz
  exact Gy _) (UR h)
 have h2:=MR (OV hx) (OV hy) h1;unfold keyN at h2;obtain⟨a,b⟩:=List.append_inj h2 hl.th;obtain⟨c,d⟩:=List.append_inj b (by simp[hl.pr]);obtain⟨e,f⟩:=List.append_inj d hl.pl
 have c2:x.1.2.1=y.1.2.1:=by
  have:=congrArg (List.map (fun n:Int=>n-10)) c
  simpa [Function.comp_def]using this
 obtain⟨⟨x1,x2,x3⟩,x4⟩:=x;obtain⟨⟨y1,y2,y3⟩,y4⟩:=y;simp only at a c2 e f;have f2:x4=y4:=On hl.rd f;rw[a,c2,e,f2]
def Cd (key:PX→ByteArray) (ps:List PX):ByteArray→Option Int:=fun t=>(ps.findIdx? fun p=>decide (key p=t)).map fun n:Nat=>(n:Int)
def updX (f:ByteArray→Option Int) (t:ByteArray) (v:Int):ByteArray→Option Int:=fun s=>if s=t then some v else f s
theorem Mk {key:PX→ByteArray} {ps:List PX} {q:PX} (h:∀p∈ps,key p=key q→p=q):Cd key ps (key q)=(idxG ps q).map fun n:Nat=>(n:Int):=by
 unfold Cd idxG;congr 1
 induction ps with
 |nil=>rfl
 |cons p ps ih=>
  have h1:=h p (by simp);rw[List.findIdx?_cons,List.findIdx?_cons,ih fun z hz=>h z (by simp[hz])]
  by_cases e:key p=key q
  ·simp[e,h1 e]
  have:p≠q:=fun e2=>e (by rw[e2]);simp[e,this]
theorem Da {key:PX→ByteArray} {ps:List PX} {q:PX} (h:Cd key ps (key q)=none):Cd key (ps++[q])=updX (Cd key ps) (key q) ps.length:=by
 funext t;unfold Cd at h⊢;unfold updX;rw[List.findIdx?_append]
 by_cases ht:t=key q
 ·subst ht;rw[Option.map_eq_none_iff]at h;rw[h];simp[List.findIdx?_cons]
 rw[if_neg ht]
 have:List.findIdx? (fun p=>decide (key p=t)) [q]=none:=by
  rw[List.findIdx?_cons];simp[Ne.symm ht]
 rw[this];simp
structure MapX (es:Array MapEntry) (f:ByteArray→Option Int):Prop where
 num:∀e∈es.toList,∃s v,e.key = .string s∧e.val = .int .i64 v∧f s=some v
 non:∀s,(∀e∈es.toList,e.key≠.string s)→f s=none
theorem MapX.keys {es:Array MapEntry} {f:ByteArray→Option Int} (h:MapX es f):∀x∈es.toList,IsKey .string x.key:=fun x hx=>by
 obtain⟨s,_,hs,_⟩:=h.num x hx;rw[hs];trivial
def mapX (b:Nat) (f:ByteArray→Option Int):SA where
 h S u:=(∀k,S k↔k=b)∧∃es c,u.heap[b]? = some (.map es c)∧MapX es f
 loc S u u' h hk:=by
  obtain⟨h1,es,c,h2,h3⟩:=h;exact⟨h1,es,c,hk b ((h1 b).2 rfl) _ h2,h3⟩
 dom S u k h hS:=by
  obtain⟨h1,es,c,h2,_⟩:=h;rw[(h1 k).1 hS];exact(Array.getElem?_eq_some_iff.1 h2).1
theorem MapX.push {es:Array MapEntry} {f:ByteArray→Option Int} (h:MapX es f) {t:ByteArray} (hk:∀x∈es.toList,x.key≠.string t) (v:Int) (c:Nat):MapX (es.push ⟨.string t,.int .i64 v,c⟩) (updX f t v):=by
 refine⟨fun e he=>?_,fun s hs=>?_⟩
 ·rw[Array.toList_push,List.mem_append,List.mem_singleton]at he;rcases he with he|rfl
  ·obtain⟨s,z,h1,h2,h3⟩:=h.num e he;refine⟨s,z,h1,h2,?_⟩;have:s≠t:=fun hq=>hk e he (by rw[h1,hq]);unfold updX;rw[if_neg this,h3]
  exact⟨t,v,rfl,rfl,if_pos rfl⟩
 have h1:s≠t:=fun hq=>hs ⟨.string t,.int .i64 v,c⟩ (by simp) (by rw[hq]);unfold updX;rw[if_neg h1];exact h.non s fun e he=>hs e (by simp[Array.toList_push];exact .inl (by simpa using he))
section
variable {P:Program} {ro:Option Nat} {n0:Nat} {w0:World} {ds:List Deferred} {ops:Array Oper} {Q:Exit→Act→World→Prop} {L L':List SA} {rest:List Oper} {l:List Value} {ty:TypeId} {ps:String} {af:Array Edge}
 {T K E:TypeId} {x y z:Operand} {b j:Nat} {v:Int} {d:Option Tmp} {g:Option (Nat×Bool)} {t:ByteArray} {f:ByteArray→Option Int}
theorem Lu {u:World} (h:St n0 w0 L u) (hj:L[j]? = some (mapX b f)):n0≤b∧∃es c,u.heap[b]? = some (.map es c)∧MapX es f:=by
 obtain⟨T,h1,h2,h3⟩:=h.get hj;exact⟨h1 b ((h2 b).2 rfl),h3⟩
theorem OD {u:World} (h:St n0 w0 L u) (hj:L[j]? = some (mapX b f)) {es:Array MapEntry} {c:Nat} {f':ByteArray→Option Int} (hm:MapX es f'):St n0 w0 (L.set j (mapX b f')) {u with heap:=u.heap.setIfInBounds b (.map es c)}:=by
 obtain⟨T,hT,⟨hS,es0,c0,hb,_⟩,hc⟩:=h.upd hj;have hlt:b<u.heap.size:=(Array.getElem?_eq_some_iff.1 hb).1;refine hc _ _ (fun k=>k=b) ⟨rfl,rfl,rfl,by simp,fun k hk=>?_⟩ (fun k hk o' hcell=>?_) ⟨fun k=>Iff.rfl,es,c,?_,hm⟩ (fun k hk=>by subst hk;exact⟨hT _ ((hS _).2 rfl),.inl ((hS _).2 rfl)⟩)
 ·have:=hT b ((hS b).2 rfl);simp only[Array.getElem?_setIfInBounds];rw[if_neg (by omega)]
 ·simp only[Array.getElem?_setIfInBounds];rw[if_neg (fun e=>hk.2.2 ((hS k).2 e.symm))];exact hcell
 simp[hlt]
theorem WS.makeMapX {i:Nat} {l':Nat→List Value} (hl:∀b,lset l i (.map (some b))=some (l' b)) (kk:∀b,n0≤b→WS P ro n0 w0 ds ops Q (mapX b (fun _=>none)::L) rest (l' b)):
  WS P ro n0 w0 ds ops Q L (⟨some i,.makeMap T none,ty,ps,af,none⟩::rest) l:=by
 refine WS.world rfl rfl fun u hu=>?_;refine⟨.map (some u.heap.size),u.alloc (.map #[] 0),?_,?_⟩
 ·simp[execOp,Instr.makeMap]
 rw[Ax,Ag (hl _)];exact kk _ hu.size _ (hu.cons (T:=fun k=>k=u.heap.size) ((Below.refl _ u).alloc (Nat.le_refl _) _) ⟨fun k=>Iff.rfl,_,_,World.alloc_heap_new u _,⟨by simp,fun _ _=>rfl⟩⟩ (fun k hk=>by omega))
theorem GB (hT:P.underlying T=some (.map K E)) (hK:P.underlying K=some .string) (hz:zo P E=some (.int .i64 0)) (hx:evo l x=some (.map (some b))) (hj:L[j]? = some (mapX b f)) (hy:evo l y=some (.string t)):
  Det P (St n0 w0 L) ⟨d,.lookup T x y true,ty,ps,af,g⟩ l (.tuple #[.int .i64 ((f t).getD 0),.bool (f t).isSome]):=fun u hu=>by
 (replace hx:=Am hx;replace hy:=Am hy)
 obtain⟨_,es,c,hb,hm⟩:=Lu hu hj;have hkey:IsKey .string (.string t):=trivial;rcases findNow_spec hkey es.toList 0 hm.keys with⟨h1,h2⟩|⟨q,e,h1,h2,h3⟩
 ·have h0:f t=none:=hm.non t h2;unfold zo at hz;cases hi:P.info? E with
  |none=>simp[hi]at hz
  |some inf=>
   have hz2:inf.zero=some (.int .i64 0):=by simpa [hi]using hz
   simp[execOp,Av,hx,hy,Instr.lookup,run_underlying hT,MapKept.run_getObj_map hb,run_checkKey hK hkey,run_findKey hK h1,Result.andThen,zeroValue,typeInfo,hi,hz2,h0]
 obtain⟨s,n,e1,e2,e3⟩:=hm.num e (List.mem_of_getElem? h2)
 have e4:f t=some n:=by
  rw[h3]at e1
  injection e1 with e1
  rw[e1];exact e3
 simp[execOp,Av,hx,hy,Instr.lookup,run_underlying hT,MapKept.run_getObj_map hb,run_checkKey hK hkey,run_findKey hK h1,Result.andThen,e2,e4]
theorem MI {u:World} {es:Array MapEntry} {c:Nat} (hT:P.underlying T=some (.map K E)) (hK:P.underlying K=some .string) (hb:u.heap[b]? = some (.map es c)) (hm:MapX es f) (hf:f t=none):
  ∃es' c',MapX es' (updX f t v)∧(Instr.mapUpdate T (.map (some b)) (.string t) (.int .i64 v)).run P u = .ok () {u with heap:=u.heap.setIfInBounds b (.map es' c')}:=by
 have hkey:IsKey .string (.string t):=trivial;rcases findNow_spec hkey es.toList 0 hm.keys with⟨h1,h2⟩|⟨q,e,h1,h2,h3⟩
 ·exact⟨_,c+1,hm.push h2 v c,by simp[Instr.mapUpdate,run_underlying hT,MapKept.run_getObj_map hb,run_checkKey hK hkey,run_findKey hK h1,MapKept.run_setObj_map _ hb,Result.andThen]⟩
 obtain⟨s,n,e1,e2,e3⟩:=hm.num e (List.mem_of_getElem? h2);rw[h3]at e1
 injection e1 with e1
 rw[←e1,hf]at e3;cases e3
theorem WS.updX (hT:P.underlying T=some (.map K E)) (hK:P.underlying K=some .string) (hx:evo l x=some (.map (some b))) (hj:L[j]? = some (mapX b f)) (hy:evo l y=some (.string t)) (hz:evo l z=some (.int .i64 v)) (hf:f t=none)
  (hL:lset L j (mapX b (YtmoojmgihdgceaaGreatDoor.updX f t v))=some L') (kk:WS P ro n0 w0 ds ops Q L' rest l):WS P ro n0 w0 ds ops Q L (⟨none,.mapUpdate T x y z,ty,ps,af,none⟩::rest) l:=by
 (replace hx:=Am hx;replace hy:=Am hy;replace hz:=Am hz)
 rw[←Ag hL]at kk;refine WS.world_skip rfl rfl rfl fun u hu=>?_;obtain⟨_,es,c,hb,hm⟩:=Lu hu hj;obtain⟨es',c',h1,h2⟩:=MI (v:=v) hT hK hb hm hf;refine⟨_,?_,kk _ (OD hu hj (c:=c') h1)⟩;simp[execOp,hx,hy,hz,h2,Result.andThen]
theorem WS.insX (hT:P.underlying T=some (.map K E)) (hK:P.underlying K=some .string) (hx:evo l x=some (.map (some b))) (hj:L[j]? = some (mapX b f)) (hy:evo l y=some (.string t)) (hz:evo l z=some (.int .i64 v)) (hf:f t=none)
  (hL:lset L j (mapX b (YtmoojmgihdgceaaGreatDoor.updX f t v))=some L') (kk:WS P ro n0 w0 ds ops Q L' rest l):WS P ro n0 w0 ds ops Q L (⟨none,.insert T x y z,ty,ps,af,none⟩::rest) l:=by
 (replace hx:=Am hx;replace hy:=Am hy;replace hz:=Am hz)
 rw[←Ag hL]at kk;refine WS.world_skip rfl rfl rfl fun u hu=>?_;obtain⟨_,es,c,hb,hm⟩:=Lu hu hj;obtain⟨es',c',h1,h2⟩:=MI (v:=v) hT hK hb hm hf;refine⟨_,?_,kk _ (OD hu hj (c:=c') h1)⟩;simp[execOp,hx,hy,hz,h2,Result.andThen]
end
end Go.Proofs.YtmoojmgihdgceaaGreatDoor
namespace Go.Proofs.YtmoojmgihdgceaaGreatDoor
set_option linter.unusedVariables false
set_option linter.unusedSimpArgs false
open Go Go.RowKit Go.Proofs
def qrow (e:TypeId) (v:Value) (xs:List Value):SA where
 h S u:=(∀k,S k↔v.ownBlock=some k)∧(v = .slice none 0 0∧xs=[]∨∃b off cap cur,v = .slice (some ⟨b,off,none⟩) xs.length cap∧u.heap[b]? = some (.cells cur e (0,0))∧xs.length≤cap∧cap≤maxLen∧off+cap≤cur.size∧(cur.toList.drop off).take xs.length=xs)
 loc S u u' h hk:=by
  obtain⟨h1,h2⟩:=h;refine⟨h1,h2.imp id ?_⟩;rintro⟨b,off,cap,cur,rfl,hb,r⟩;exact⟨b,off,cap,cur,rfl,hk b ((h1 b).2 rfl) _ hb,r⟩
 dom S u k h hS:=by
  obtain⟨h1,h2⟩:=h;rcases h2 with⟨rfl,_⟩|⟨b,off,cap,cur,rfl,hb,_⟩
  ·exact absurd ((h1 k).1 hS) (by simp[Value.ownBlock])
  have:k=b:=by
   have:=(h1 k).1 hS
   simpa [Value.ownBlock,eq_comm]using this
  subst this;exact(Array.getElem?_eq_some_iff.1 hb).1
theorem T4 {e:TypeId} {v:Value} {xs:List Value} {S:Nat→Prop} {u:World} (h:(qrow e v xs).h S u):SlC u v xs.length 1 xs:=by
 obtain⟨_,⟨rfl,rfl⟩|⟨b,off,cap,cur,rfl,hb,h1,h2,h3,h4⟩⟩:=h
 ·exact⟨by simp,none,0,rfl,⟨Nat.le_refl _,by omega⟩,.inl rfl⟩
 refine⟨by simp,_,cap,rfl,⟨h1,h2⟩,.inr ⟨b,off,rfl,fun m x hx=>?_⟩⟩;rw[cell_of_row u b _ cur e (0,0) hb,←Array.getElem?_toList];rw[←h4,List.getElem?_take]at hx;split at hx
 ·rw[List.getElem?_drop]at hx;exact hx
 cases hx
theorem ZJ {e:TypeId} {v:Value} {a:Value} {xs:List Value} {S:Nat→Prop} {u:World} (h:(qrow e v (a::xs)).h S u):(qrow e (sub2 1 v 1 (xs.length+1)) xs).h S u:=by
 obtain⟨hS,⟨_,h0⟩|⟨b,off,cap,cur,rfl,hb,h1,h2,h3,h4⟩⟩:=h
 ·cases h0
 simp only[List.length_cons]at h1 h4⊢;show(qrow e (.slice (if cap=1 then some ⟨b,off,none⟩else(some (⟨b,off,none⟩:Addr)).map (·.add (1*1))) (xs.length+1-1) (cap-1)) xs).h S u
 by_cases hc:cap=1
 ·rw[if_pos hc];have hx:xs=[]:=List.eq_nil_of_length_eq_zero (by omega);subst hx;exact⟨hS,.inr ⟨b,off,cap-1,cur,rfl,hb,by simp,by omega,by omega,by simp⟩⟩
 rw[if_neg hc];have ea:(⟨b,off,none⟩:Addr).add (1*1)=⟨b,off+1,none⟩:=by rw[Bl]
 simp only[Option.map_some,ea];refine⟨fun k=>by rw[hS k];simp[Value.ownBlock],.inr ⟨b,off+1,cap-1,cur,rfl,hb,by omega,by omega,by omega,?_⟩⟩;have h5:(cur.toList.drop off).take (xs.length+1)=a::xs:=h4;have h6:=congrArg List.tail h5;rw[List.tail_cons]at h6
 conv=>rhs;rw[←h6]
 apply List.ext_getElem? fun j=>?_
 simp only[List.getElem?_take,List.getElem?_drop,List.getElem?_tail]
 by_cases hj:j<xs.length
 ·rw[if_pos hj,if_pos (by omega),show off+1+j=off+(j+1) by omega]
 rw[if_neg hj,if_neg (by omega)]
section
variable {P:Program} {ro:Option Nat} {n0:Nat} {w0:World} {ds:List Deferred} {ops:Array Oper} {Q:Exit→Act→World→Prop} {L:List SA} {rest:List Oper} {l:List Value} {ty:TypeId} {ps:String} {af:Array Edge} {d:Option Tmp} {g:Option (Nat×Bool)}
theorem St.headMap {A B:SA} {u:World} (hp:∀S u,A.h S u→B.h S u) (h:St n0 w0 (A::L) u):St n0 w0 (B::L) u:=by
 obtain⟨h1,h2,T,h3,h4,h5⟩:=h;exact⟨h1,h2,T,h3,hp T u h4,h5⟩
theorem St.toQ {e:TypeId} {v:Value} {xs:List Int} {u:World} (h:St n0 w0 (oints e v xs::L) u):St n0 w0 (qrow e v (ints xs)::L) u:=by
 refine St.headMap (A:=oints e v xs) (B:=qrow e v (ints xs)) (fun S u hh=>?_) h;obtain⟨hS,hl,h2⟩:=hh;refine⟨hS,?_⟩;have hle:(ints xs).length=xs.length:=by simp[ints]
 rcases h2 with⟨rfl,h0⟩|⟨b,cap,cur,rfl,_,hb,hn,hm,hs,ht⟩
 ·exact .inl ⟨rfl,List.eq_nil_of_length_eq_zero (by omega)⟩
 refine .inr ⟨b,0,cap,cur,by rw[hle],hb,by omega,hm,by omega,?_⟩;rw[List.drop_zero,hle,←ht];simp
theorem Ti {e:TypeId} {v:Value} {xs:List Value} {j:Nat} {u:World} (hu:St n0 w0 L u) (hj:L[j]? = some (qrow e v xs)):SlC u v xs.length 1 xs:=by
 obtain⟨T,_,h⟩:=hu.get hj;exact T4 h
theorem RX {T e e':TypeId} {a b j:Nat} {x:Operand} {v:Value} {xs:List Int} (hT:sl P T=some (e,a,b)) (hx:evo l x=some v) (hj:L[j]? = some (qrow e' v (ints xs))):
  Det P (St n0 w0 L) ⟨d,.call ⟨.builtin .len,#[x],#[T]⟩,ty,ps,af,g⟩ l (.int .i64 xs.length):=fun u hu=>by
 have h:=Ti hu hj;have hle:(ints xs).length=xs.length:=by simp[ints]
 rw[hle]at h;exact Bi hT hx h u hu
theorem SV {T e e':TypeId} {by_ j:Nat} {x y:Operand} {v:Value} {i:Int} {xs:List Int} (hT:sl P T=some (e,1,by_)) (hx:evo l x=some v) (hy:evo l y=some (.int .i64 i)) (hj:L[j]? = some (qrow e' v (ints xs))) (h0:0≤i) (h1:i<xs.length):
  Det P (St n0 w0 L) ⟨d,.indexAddr T x y,ty,ps,af,g⟩ l (.pointer (some (sla v (i.toNat*1)))):=fun u hu=>by
 have h:=Ti hu hj;have hle:(ints xs).length=xs.length:=by simp[ints]
 exact BN hT hx hy h h0 (by omega) u hu
theorem VX {T:TypeId} {z j:Nat} {e:TypeId} {x:Operand} {v:Value} {i:Int} {xs:List Int} (hj:L[j]? = some (qrow e v (ints xs))) (hx:evo l x=some (.pointer (some (sla v (i.toNat*1))))) (h:0≤i∧i<xs.length) (hT:tk P T=some (false,z)):
  Det P (St n0 w0 L) ⟨d,.load T x,ty,ps,af,g⟩ l (.int .i64 (nth xs i)):=
 B7 hx (fun _ hu=>Ti hu hj) (by rw[Nat.mul_one];exact GZ h) hT
theorem WX {T e e':TypeId} {k by_ j:Nat} {x z:Operand} {v:Value} {xs:List Int} {lo:Int} (hT:sl P T=some (e,k,by_)) (hx:evo l x=some v) (hz:evo l z=some (.int .i64 lo))
  (hj:L[j]? = some (qrow e' v (ints xs))) (h1:0≤lo) (h2:lo≤xs.length):Det P (St n0 w0 L) ⟨d,.slice T x (some z) none none,ty,ps,af,g⟩ l (sub2 k v lo.toNat xs.length):=fun u hu=>by
 have h:=Ti hu hj;have hle:(ints xs).length=xs.length:=by simp[ints]
 rw[hle]at h;exact Ik hT hx hz h h1 (by omega) u hu
theorem St.qTail {e:TypeId} {v:Value} {x:Int} {xs:List Int} {u:World} (h:St n0 w0 (qrow e v (ints (x::xs))::L) u):St n0 w0 (qrow e (sub2 1 v 1 (x::xs).length) (ints xs)::L) u:=by
 refine St.headMap (A:=qrow e v (ints (x::xs))) (B:=qrow e (sub2 1 v 1 (x::xs).length) (ints xs)) (fun S u hh=>?_) h;have:=ZJ (xs:=ints xs) hh;have hle:(ints xs).length=xs.length:=by simp[ints]
 rw[hle]at this;exact this
theorem WS.appendQ {T e:TypeId} {by_ i j:Nat} {x y:Operand} {v z zc a:Value} {xs:List Value} (hT:sl P T=some (e,1,by_)) (hz:zv P e=some [zc])
  (hx:evo l x=some v) (hj:L[j]? = some (qrow e v xs)) (hy:evo l y=some z) (hnews:∀u,St n0 w0 L u→SlC u z 1 1 [a]) (h1:a.oneCell'=true)
  (hm:xs.length+1≤9223372036854775807) (hb:(xs.length+1)*by_≤140737488355328)
  {l':Value→List Value} (hl:∀v,lset l i v=some (l' v)) {L':Value→List SA} (hL:∀v',lset L j (qrow e v' (xs++[a]))=some (L' v')) (k:∀v',v'.oneCell'=true→WS P ro n0 w0 ds ops Q (L' v') rest (l' v')):
  WS P ro n0 w0 ds ops Q L (⟨some i,.call ⟨.builtin .append,#[x,y],#[T,T]⟩,ty,ps,af,none⟩::rest) l:=by
 (replace hx:=Am hx;replace hy:=Am hy)
 refine WS.world rfl rfl fun u hu=>?_;obtain⟨inf,hu1,hi,hs,hby⟩:=BS hT;unfold zv at hz;rw[hi]at hz;cases hz2:inf.zero with
 |none=>simp[hz2]at hz
 |some zz=>
  simp[hz2]at hz;obtain⟨S,hS,⟨hS1,hown⟩,hupd⟩:=hu.upd hj;have hml:xs.length+1≤maxLen:=hm;obtain⟨_,p,cap,rfl,hcap,hz3⟩:=hnews u hu;have hle:=hu.size;rcases hz3 with hz3|⟨nb,no,rfl,hc⟩
  ·omega
  have hc2:∀j' x,[a][j']? = some x→u.cell? ((⟨nb,no,none⟩:Addr).add j')=some x:=fun j' x hx=>by rw[Bl];exact hc j' x hx
  have hall:∀q∈[a],q.oneCell'=true:=fun q hq=>by rw[List.mem_singleton.1 hq];exact h1
  have hzc:zz.cells.size=1:=by
   have h9:zz.cells.toList.length=1:=by rw[hz];rfl
   simpa using h9
  have fin:∀v' u',(Builtin.append_ #[T,T] ty #[v,.slice (some ⟨nb,no,none⟩) 1 cap]).run P u = .ok v' u'→v'.oneCell'=true→(qrow e v' (xs++[a])).h (fun b=>v'.ownBlock=some b) u'→u.grownBy u' v.ownBlock→(∀b,v'.ownBlock=some b→n0≤b∧(v.ownBlock=some b∨u.heap.size≤b))→
    ∃v u',(execOp (ev l) ⟨some i,.call ⟨.builtin .append,#[x,y],#[T,T]⟩,ty,ps,af,none⟩).run P u = .ok (.value v) u'∧wpListIn (FW ro) 0 P ops Q rest ((Act.mk l.toArray ds).put (some i) v) u':=by
   intro v' u' hr ho h2 h3 h4;refine⟨v',u',by simp[execOp,resolve,invoke,builtin,hx,hy,hr],?_⟩;rw[Ax,Ag (hl _)];refine k v' ho u' (Ag (hL v')▸hupd u' _ (fun b=>v'.ownBlock=some b) ?_ ?_ h2 ?_)
   ·exact⟨h3.os,h3.tape,h3.output,h3.size,fun b hb=>h3.block b (by omega) fun e=>by have:=hS b ((hS1 b).2 e.symm);omega⟩
   ·intro b hb o hc;exact(h3.block b hb.2.1 fun e=>hb.2.2 ((hS1 b).2 e.symm)).trans hc
   intro b hb;obtain⟨ha,hb⟩:=h4 b hb;exact⟨ha,hb.imp (fun h=>(hS1 b).2 h) id⟩
  have grown:∀v' u' n,n=xs.length+1→u'.ownsRow u.heap.size e 1 v' n (xs++[a])→v'.oneCell'=true∧(qrow e v' (xs++[a])).h (fun b=>v'.ownBlock=some b) u'∧∀b,v'.ownBlock=some b→u.heap.size≤b:=by
   rintro v' u' n rfl ⟨hl2,h2⟩;rcases h2 with⟨rfl,h0⟩|⟨g,cap',cur,rfl,hg0,hg,hn,hm2,hs2,ht⟩
   ·omega
   refine⟨rfl,⟨fun b=>Iff.rfl,.inr ⟨g,0,cap',cur,by simp,hg,by simp;omega,hm2,by omega,?_⟩⟩,fun b hb=>?_⟩
   ·rw[List.drop_zero];have e9:(xs++[a]).length=(xs.length+1)*1:=by simp
    rw[e9];exact ht
   have:g=b:=by simpa [Value.ownBlock]using hb
   omega
  rcases hown with⟨rfl,rfl⟩|⟨b,off,cap',cur,rfl,hg,hn,hm2,hs2,ht⟩
  ·obtain⟨v',u',hr,h2,h3,h4⟩:=run_append_own (P:=P) u u.heap.size T ty e inf zz 1 by_ hu1 hi hz2 hs hby hzc Nat.one_pos (.slice none 0 0) 0 [] (World.ownsRow_nil u u.heap.size e 1) ⟨nb,no,none⟩ 1 cap [a] rfl hc2 hall (by simp[maxLen]) (by simpa using hb) (Nat.le_refl _);obtain⟨g1,g2,g3⟩:=grown v' u' (0+1) (by simp) (by simpa using h2);exact fin v' u' hr g1 g2 h3 fun b hb=>⟨by have:=g3 b hb;omega,.inr (g3 b hb)⟩
  by_cases hroom:xs.length+1≤cap'
  ·have hlt:off+xs.length<cur.size:=by omega
   have hcell:u.cell? ⟨b,off+xs.length,none⟩=some cur[off+xs.length]:=by simp[World.cell?,hg,hlt]
   have hfro:u.frozen? ⟨b,off+xs.length,none⟩=false:=by simp[World.frozen?,hg]
   have hr:=run_append_room_cells (P:=P) u T ty e inf hu1 hi b off xs.length cap' ⟨nb,no,none⟩ 1 cap [a] (by rw[hs];rfl) hc2 hall hroom
    (fun j' hj'=>by
     have:j'=0:=by simpa using hj'
     subst this
     rw[hs,Nat.mul_one,Nat.add_zero,hcell];rfl)
    (fun j' hj'=>by
     have:j'=0:=by simpa using hj'
     subst this
     rw[hs,Nat.mul_one,Nat.add_zero];exact hfro)
   rw[hs,Nat.mul_one]at hr
   have hset:u.setCells b (off+xs.length) [a]=u.setRow b (cur.setIfInBounds (off+xs.length) a):=by
    unfold World.setCells World.setCells;exact setCell_eq_setRow u b (off+xs.length) cur e (0,0) a hg
   rw[hset]at hr;refine fin _ _ hr rfl ⟨fun b=>Iff.rfl,.inr ⟨b,off,cap',_,by simp,setRow_heap u b cur _ e _ hg,by simp;omega,hm2,by simp;omega,?_⟩⟩ ⟨rfl,rfl,rfl,by simp,fun k' _ hk'=>setRow_other u b k' _ fun e=>hk' (by simp[Value.ownBlock,e])⟩ (fun b' hb'=>?_)
   ·rw[Array.toList_setIfInBounds];have h9:xs.length=((cur.toList.drop off).take xs.length).length:=by rw[ht]
    conv=>rhs;rw[←ht]
    apply List.ext_getElem? fun j'=>?_
    simp only[List.getElem?_take,List.getElem?_drop,List.getElem?_set,List.length_append,List.length_singleton,List.getElem?_append];rw[←h9]
    by_cases hj1:j'<xs.length
    ·rw[if_pos (by omega),if_neg (by omega),if_pos hj1,if_pos hj1]
    by_cases hj2:j'=xs.length
    ·subst hj2;rw[if_pos (by omega),if_pos rfl,if_pos (by simpa using hlt),if_neg hj1];simp
    rw[if_neg (by omega),if_neg hj1];have:¬j'-xs.length<1:=by omega
    simp;omega
   have:b=b':=by simpa [Value.ownBlock]using hb'
   subst this;exact⟨hS b ((hS1 b).2 rfl),.inl rfl⟩
  have holds:∀j' u',xs[j']? = some u'→u.cell? ((⟨b,off,none⟩:Addr).add j')=some u':=fun j' u' hj'=>by
   rw[Bl,cell_of_row u b _ cur e (0,0) hg,←Array.getElem?_toList];rw[←ht,List.getElem?_take]at hj';split at hj'
   ·rw[List.getElem?_drop]at hj';exact hj'
   cases hj'
  obtain⟨v',u',hr,h2,h3⟩:=run_append_arg_grows (P:=P) u T ty e inf zz 1 by_ hu1 hi hz2 hs hby hzc Nat.one_pos ⟨b,off,none⟩ xs.length cap' xs (by simp) holds ⟨nb,no,none⟩ 1 cap [a] rfl hc2 (by omega) hml hb;obtain⟨g1,g2,g3⟩:=grown v' u' (xs.length+1) rfl h2;exact fin v' u' hr g1 g2 ⟨h3.os,h3.tape,h3.output,h3.size,fun k' hk' _=>h3.block k' hk' (by simp)⟩ fun b hb=>⟨by have:=g3 b hb;omega,.inr (g3 b hb)⟩
theorem WS.copyO {T T2 e:TypeId} {by_ i j n m N dl:Nat} {x y:Operand} {v zd zs:Value} {cs vs xs xs':List Value} (hT:sl P T=some (e,1,by_)) (hx:evo l x=some zd) (hzd:∀b cap,v = .slice (some ⟨b,0,none⟩) n cap→n≤cap→∃dc,zd = .slice (some ⟨b,m,none⟩) dl dc)
  (hj:L[j]? = some (osl e 1 v n xs)) (hm:m+vs.length≤xs.length) (h0:0<N) (h00:0<xs.length) (hy:evo l y=some zs) (hsrc:∀u,St n0 w0 L u→SlC u zs N 1 cs) (hvs:vs=cs.take (Nat.min N dl)) (h1:∀a∈vs,a.oneCell'=true)
  (hxs:xs.take m++vs++xs.drop (m+vs.length)=xs')
  {l':List Value} (hl:lset l i (.int .i64 vs.length)=some l') {L':List SA} (hL:lset L j (osl e 1 v n xs')=some L') (k:WS P ro n0 w0 ds ops Q L' rest l'):
  WS P ro n0 w0 ds ops Q L (⟨some i,.call ⟨.builtin .copy,#[x,y],#[T,T2]⟩,ty,ps,af,none⟩::rest) l:=by
 rw[←Ag hL]at k;subst hxs
 (replace hx:=Am hx;replace hy:=Am hy)
 refine WS.world rfl rfl fun u hu=>?_;obtain⟨inf,hu1,hi,hs,hby⟩:=BS hT;obtain⟨S,hS,⟨hS1,hln,h2⟩,hupd⟩:=hu.upd hj;obtain⟨hcl,p,cap2,rfl,hcap,hz3⟩:=hsrc u hu;rcases hz3 with hz3|⟨sb,so,rfl,hc⟩
 ·omega
 rcases h2 with⟨rfl,rfl⟩|⟨b,cap,cur,rfl,hb,hg,hn,hcm,hcur,htake⟩
 ·simp at hln;subst hln;simp at h00
 obtain⟨dc,rfl⟩:=hzd b cap rfl hn;have hvl:vs.length=Nat.min N dl:=by rw[hvs,List.length_take];show min (min N dl) cs.length=min N dl;omega
 have hlen:xs.length=n:=by rw[hln,Nat.mul_one]
 have hcn:n≤cur.toList.length:=by rw[Array.length_toList,hcur,Nat.mul_one];exact hn
 have hr:=run_copy_row P u T T2 ty e b m dl dc ⟨sb,so,none⟩ N cap2 cur e vs hu1 (by rw[hi];simp[hs]) hg hvl
  (fun j' v' hj'=>by
   rw[Bl];refine hc j' v' ?_;rw[hvs,List.getElem?_take]at hj';split at hj'
   ·exact hj'
   cases hj') (by rw[hcur];omega) h1
 refine⟨.int .i64 vs.length,u.setRow b (cur.toList.take m++vs++cur.toList.drop (m+vs.length)).toArray,by simp only[execOp,resolve,invoke,builtin,hx,hy];simp[hx,hy,hr,goInt],?_⟩;rw[Ax,Ag hl];have hb':=hS b ((hS1 b).2 rfl)
 refine k _ (hupd _ _ (fun k=>k=b) ⟨rfl,rfl,rfl,by simp,fun k hk=>setRow_other u b k _ (fun e=>by omega)⟩ (fun k hk o' hcell=>?_) ⟨fun k=>?_,by simp;omega,.inr ⟨b,cap,_,rfl,hb,setRow_heap u b cur _ e _ hg,hn,hcm,by simp at hcn⊢;omega,?_⟩⟩
   (fun k hk=>by subst hk;exact⟨hb',.inl ((hS1 _).2 rfl)⟩))
 ·rw[setRow_other u b k _ (fun e=>hk.2.2 ((hS1 k).2 (by rw[e];rfl)))];exact hcell
 ·exact⟨fun h=>by rw[h];rfl,fun h=>by simpa [Value.ownBlock,eq_comm]using h⟩
 rw[←htake,Nat.mul_one];have:=MW cur.toList vs (m:=m) (N:=n) (by omega) hcn;exact this
end
end Go.Proofs.YtmoojmgihdgceaaGreatDoor
namespace Go.Proofs.YtmoojmgihdgceaaGreatDoor
set_option linter.unusedVariables false
set_option linter.unusedSimpArgs false
open Go.RowKit Go.Proofs
def dsOf (Ds:List Nat):List Deferred:=Ds.map mark
def mks (Ds:List Nat):SA:=star (Ds.map fun D=>recd D (.deferred (some [])))
theorem St.mks0 {n0:Nat} {w0 u:World} {L:List SA} (hu:St n0 w0 L u):St n0 w0 (mks []::L) u:=St.pack (L1:=[]) hu
theorem St.mksCons {n0:Nat} {w0 u:World} {L:List SA} {D:Nat} {Ds:List Nat} (hu:St n0 w0 (recd D (.deferred (some []))::mks Ds::L) u):St n0 w0 (mks (D::Ds)::L) u:=
 St.pack (L1:=recd D (.deferred (some []))::Ds.map fun D=>recd D (.deferred (some []))) (((hu.perm (List.Perm.swap _ _ _)).unpack).perm List.perm_middle)
def PM (n0:Nat) (w0:World) {σ:Type} (dd:σ→List Deferred) (l0:List Value) (dead:List Nat) (vals:σ→List (Nat×Value)) (M:σ→List SA) (I:σ→Prop) (a:Act) (u:World):Prop:=
 ∃s l',a=⟨l'.toArray,dd s⟩∧FM (pat l0 dead (vals s)) l'∧St n0 w0 (M s) u∧I s
section
variable {P:Program} {ro:Option Nat} {n0:Nat} {w0:World} {ds:List Deferred} {Q:Exit→Act→World→Prop} {L L0:List SA} {l:List Value}
theorem CS.loopD {σ:Type} {c:Code} (dd:σ→List Deferred) (dead:List Nat) (vals:σ→List (Nat×Value)) (M:σ→List SA) (I:σ→Prop) (μ:σ→Nat) (s0:σ) {fr:σ→(Nat→Value)→List Value}
  (hfr:∀s t,E0 (pat l dead (vals s)) t 0=some (fr s t)) (h0:E0 (pat l dead (vals s0)) (fun i=>l.getD i undef) 0=some l) (hM:M s0=L) (hI:I s0)
  (round:∀s t,I s→CS P ro n0 w0 (dd s) c (Exit.then (PM n0 w0 dd l dead vals M fun s'=>I s'∧μ s'<μ s) Q) (M s) (fr s t)) (hd:ds=dd s0:=by exact rfl):
  CS P ro n0 w0 ds (.loop c) Q L l:=by
 subst hd;intro u hu
 have hmin:∀a u,(∃k s l',a=(⟨l'.toArray,dd s⟩:Act)∧FM (pat l dead (vals s)) l'∧St n0 w0 (M s) u∧I s∧μ s=k)→
   ∃k,(∃s l',a=(⟨l'.toArray,dd s⟩:Act)∧FM (pat l dead (vals s)) l'∧St n0 w0 (M s) u∧I s∧μ s=k)∧
    ∀j,(∃s l',a=(⟨l'.toArray,dd s⟩:Act)∧FM (pat l dead (vals s)) l'∧St n0 w0 (M s) u∧I s∧μ s=j)→k≤j:=fun a u h=>TT h
 refine wpIn_loop (fun a u=>∃k s l',a=(⟨l'.toArray,dd s⟩:Act)∧FM (pat l dead (vals s)) l'∧St n0 w0 (M s) u∧I s∧μ s=k)
  (fun a u=> @dite Nat _ (Classical.propDecidable _) (fun h=>(hmin a u h).choose) (fun _=>0)) ⟨_,s0,l,rfl,TR h0,hM▸hu,hI,rfl⟩ ?_
 intro a u h;obtain⟨⟨s,l',rfl,hf,hst,hI,hk⟩,hle⟩:=(hmin a u h).choose_spec;obtain⟨t,rfl⟩:=hf.fill 0;have hr:=round s t hI u hst;rw[←Ek (hfr s t)]at hr;refine Go.wpIn_mono hr ?_;intro e a' u' hq;cases e<;>try exact hq
 obtain⟨s',l'',rfl,hf',hst',hI',hlt⟩:=hq;have h':∃k s l',(⟨l''.toArray,dd s'⟩:Act)=(⟨l'.toArray,dd s⟩:Act)∧FM (pat l dead (vals s)) l'∧St n0 w0 (M s) u'∧I s∧μ s=k:=⟨_,s',l'',rfl,hf',hst',hI',rfl⟩;refine⟨h',?_⟩;rw[dif_pos h',dif_pos h,←hk];exact Nat.lt_of_le_of_lt ((hmin _ _ h').choose_spec.2 _ ⟨s',l'',rfl,hf',hst',hI',rfl⟩) hlt
theorem QS.headD {σ:Type} {dd:σ→List Deferred} {l0:List Value} {dead:List Nat} {vals:σ→List (Nat×Value)} {M:σ→List SA} {I:σ→Prop} (s:σ)
  (hf:E0 (pat l0 dead (vals s)) (fun i=>l.getD i undef) 0=some l) (hM:M s=L) (hI:I s) (hd:ds=dd s:=by exact rfl):QS n0 w0 ds (Exit.then (PM n0 w0 dd l0 dead vals M I) Q) .normal L l:=fun u hu=>
 ⟨s,l,by rw[hd],TR hf,hM▸hu,hI⟩
theorem F7 {fn:Func} {R:Ending→World→Prop} {v:Value}:∀{Ds:List Nat} {u:World},St n0 w0 (mks Ds::L0) u→Res P fn l L0 n0 w0 v→(∀u,St n0 w0 L0 u→R (.returned v) u)→
  LeavesInM (FW none) 0 P fn l.toArray R (dsOf Ds) .returning u
 |[],u,hu,hr,hR=>⟨_,hr u hu.tail,hR u hu.tail⟩
 |D::Ds,u,hu,hr,hR=>by
  have h0:St n0 w0 (recd D (.deferred (some []))::((Ds.map fun D=>recd D (.deferred (some [])))++L0)) u:=St.unpack hu;obtain⟨_,h1⟩:=h0.rec_ (j:=0) rfl;have h2:=(h0.putRec (j:=0) rfl (.deferred none)).tail;exact⟨by simp,.inl ⟨D,_,rfl,run_takeDeferred h1,F7 (St.pack (L1:=Ds.map fun D=>recd D (.deferred (some []))) h2) hr hR⟩⟩
theorem Jam {fn:Func} {R:Ending→World→Prop} {Ds:List Nat} {e:Exit} {v:Value} (is:List Nat) (he:e = .ret∨e = .normal) (hL:selo L is=some (mks Ds::L0)) (hr:Res P fn l L0 n0 w0 v) (hR:∀u,St n0 w0 L0 u→R (.returned v) u):
  QS n0 w0 (dsOf Ds) (bodyPostM (FW none) 0 P fn R) e L l:=fun u hu=>by
 have:=F7 (P:=P) (hu.sel is hL) hr hR;rcases he with rfl|rfl<;>exact this
end
end Go.Proofs.YtmoojmgihdgceaaGreatDoor
namespace Go.Proofs.YtmoojmgihdgceaaGreatDoor
set_option linter.unusedVariables false
set_option linter.unusedSimpArgs false
open Go Go.RowKit Go.Proofs MapKept
structure MapW (w:World) (m:Nat) (es:List MapEntry) (c:Nat):Prop where
 at_:w.heap[m]? = some (.map es.toArray c)
 born:∀e∈es,e.born<c
 nodup:(es.map (·.born)).Nodup
theorem MapW.lt {w:World} {m:Nat} {es:List MapEntry} {c:Nat} (h:MapW w m es c):m<w.heap.size:=(Array.getElem?_eq_some_iff.1 h.at_).1
theorem MapW.ext {w u:World} {m:Nat} {es:List MapEntry} {c:Nat} (h:MapW w m es c) (hb:Below w.heap.size w u):MapW u m es c:=⟨(hb.block m h.lt).trans h.at_,h.born,h.nodup⟩
def ZG (seen:List Nat):Option MapEntry→List Nat
 |some e=>seen++[e.born]
 |none=>seen
def LR (es:List MapEntry) (seen:List Nat):Option MapEntry→Prop
 |some e=>e∈es∧e.born∉seen
 |none=>∀e∈es,e.born∈seen
def Gk:Option MapEntry→Value
 |some e=>.tuple #[.bool true,e.key,e.val]
 |none=>.tuple #[.bool false]
def Hd (es:List MapEntry) (seen:List Nat):Nat:=(es.filter fun e=>!seen.contains e.born).length
theorem Hk {es:List MapEntry} {seen:List Nat} {e:MapEntry} (h:e∈es∧e.born∉seen):Hd es (seen++[e.born])<Hd es seen:=by
 unfold Hd
 have hsub:(es.filter fun x=>!(seen++[e.born]).contains x.born)=(es.filter fun x=>!seen.contains x.born).filter fun x=>!(x.born == e.born):=by
  rw[List.filter_filter];refine List.filter_congr fun x _=>?_
  by_cases h1:x.born∈seen<;>by_cases h2:x.born=e.born<;>simp[h1,h2]
 rw[hsub];refine List.length_filter_lt_length_iff_exists.2 ⟨e,List.mem_filter.2 ⟨h.1,by simpa using h.2⟩,by simp⟩
def itP (r m c:Nat) (seen:List Nat):SA where
 h S u:=(∀k,S k↔k=r)∧u.heap[r]? = some (.mapIter (some m) c seen.toArray c)
 loc S u u' h hk:=⟨h.1,hk r ((h.1 r).2 rfl) _ h.2⟩
 dom S u k h hS:=by
  rw[(h.1 k).1 hS];exact(Array.getElem?_eq_some_iff.1 h.2).1
section
variable {P:Program} {ro:Option Nat} {n0:Nat} {w0:World} {ds:List Deferred} {ops:Array Oper} {Q:Exit→Act→World→Prop} {L L':List SA} {rest:List Oper} {l:List Value} {ty:TypeId} {ps:String} {af:Array Edge}
variable {T K E:TypeId} {x y:Operand} {d:Option Tmp} {g:Option (Nat×Bool)}
theorem St.itP {u:World} {r m c j:Nat} {seen:List Nat} (h:St n0 w0 L u) (hj:L[j]? = some (YtmoojmgihdgceaaGreatDoor.itP r m c seen)):n0≤r∧u.heap[r]? = some (.mapIter (some m) c seen.toArray c):=by
 obtain⟨S,h1,h2,h3⟩:=h.get hj;exact⟨h1 r ((h2 r).2 rfl),h3⟩
theorem WS.range {i m c:Nat} {es:List MapEntry} {l':Nat→List Value} (hT:P.underlying T=some (.map K E)) (hx:evo l x=some (.map (some m))) (hm:MapW w0 m es c) (hn:n0=w0.heap.size)
  (hl:∀r,lset l i (.pointer (some ⟨r,0,none⟩))=some (l' r)) (kk:∀r,n0≤r→WS P ro n0 w0 ds ops Q (YtmoojmgihdgceaaGreatDoor.itP r m c []::L) rest (l' r)):
  WS P ro n0 w0 ds ops Q L (⟨some i,.range T x,ty,ps,af,none⟩::rest) l:=by
 subst hn
 (replace hx:=Am hx)
 refine WS.world rfl rfl fun u hu=>?_;have hmu:=hm.ext hu.below;refine⟨.pointer (some ⟨u.heap.size,0,none⟩),u.alloc (.mapIter (some m) c #[] c),?_,?_⟩
 ·simp[execOp,Instr.range,hx,run_underlying hT,MapKept.run_getObj_map hmu.at_,Result.andThen]
 rw[Ax,Ag (hl _)];exact kk _ hu.size _ (hu.cons (T:=fun k=>k=u.heap.size) ((Below.refl _ u).alloc (Nat.le_refl _) _) ⟨fun k=>Iff.rfl,World.alloc_heap_new u _⟩ (fun k hk=>by omega))
theorem DJ {u:World} {r m c:Nat} {seen:List Nat} (hr:u.heap[r]? = some (.mapIter (some m) c seen.toArray c)):(getObj r).run P u = .ok (.mapIter (some m) c seen.toArray c) u:=by
 simp[getObj,Sem.run,hr]
theorem RZ {n:Nat} (h:0<n) (u:World):∃k d,k<n∧
  (if(Question.mapNext n).forced=true then Result.ok 0 u else Result.ok ((Question.mapNext n).cut (u.tape u.drawn (.mapNext n))) u.drew)=(Result.ok k {u with drawn:=d}:Result Nat):=by
 by_cases hf:(Question.mapNext n).forced=true
 ·exact⟨0,u.drawn,h,by rw[if_pos hf]⟩
 exact⟨u.tape u.drawn (.mapNext n)%n,u.drawn+1,Nat.mod_lt _ h,by rw[if_neg hf];rfl⟩
theorem Mu {u:World} {r m c:Nat} {es:List MapEntry} {seen:List Nat} (hm:MapW u m es c) (hr:u.heap[r]? = some (.mapIter (some m) c seen.toArray c)) (ty:TypeId):
  (∃d,LR es seen none∧(Instr.next (.pointer (some ⟨r,0,none⟩)) false ty).run P u = .ok (Gk none) {u with drawn:=d})∨
  ∃e d,LR es seen (some e)∧(Instr.next (.pointer (some ⟨r,0,none⟩)) false ty).run P u = .ok (Gk (some e)) {u with drawn:=d,heap:=u.heap.setIfInBounds r (.mapIter (some m) c (seen++[e.born]).toArray c)}:=by
 have h4:¬((¬seen=[]∧¬es=[])∧∀(i:Nat) (x:i<es.length),c≤(es[i]).born):=fun⟨⟨_,h2⟩,h3⟩=>by
  have hp:0<es.length:=List.length_pos_iff.2 h2;have:=hm.born _ (List.getElem_mem hp);have:=h3 0 hp;omega
 have f1:es.filter (fun a=>decide (a.born<c)&&!decide (a.born∈seen))=es.filter fun a=>!decide (a.born∈seen):=List.filter_congr fun a ha=>by simp[hm.born a ha]
 have f2:es.filter (fun a=>decide (c≤a.born)&&!decide (a.born∈seen))=[]:=List.filter_eq_nil_iff.2 fun a ha=>by have:=hm.born a ha;simp;omega
 by_cases hl:∀a,a∈es→a.born<c→a.born∈seen
 ·have hx:es.filter (fun a=>!decide (a.born∈seen))=[]:=List.filter_eq_nil_iff.2 fun a ha=>by simpa using hl a ha (hm.born a ha)
  refine .inl ⟨u.drawn,fun e he=>hl e he (hm.born e he),?_⟩;simp[Instr.next,DJ hr,MapKept.run_getObj_map hm.at_,Result.andThen,h4,f1,f2,hx,if_pos hl,Question.forced,Gk]
 have hx:0<(es.filter fun a=>!decide (a.born∈seen)).length:=List.length_pos_iff.2 fun h=>hl fun a ha _=>by simpa using List.filter_eq_nil_iff.1 h a ha
 obtain⟨k,d,hk,hr2⟩:=RZ hx u;obtain⟨e,he⟩:∃e,(es.filter fun a=>!decide (a.born∈seen))[k]? = some e:=⟨_,List.getElem?_eq_getElem hk⟩;have hmem:=List.mem_filter.1 (List.mem_of_getElem? he);refine .inr ⟨e,d,⟨hmem.1,by simpa using hmem.2⟩,?_⟩;simp[Instr.next,DJ hr,MapKept.run_getObj_map hm.at_,Result.andThen,h4,f1,f2,if_neg hl,hr2,he,Gk,setObj,Sem.run,hr]
theorem St.drawn {u:World} (h:St n0 w0 L u) (n:Nat):St n0 w0 L {u with drawn:=n}:=
 ⟨h.le,⟨h.below.os,h.below.tape,h.below.output,h.below.size,h.below.block⟩,h.star.keep (fun _ _ _ h=>h) fun _ h _=>h⟩
theorem St.itSet {u:World} {r m c j n:Nat} {seen seen':List Nat} (h:St n0 w0 L u) (hj:L[j]? = some (YtmoojmgihdgceaaGreatDoor.itP r m c seen)):
  St n0 w0 (L.set j (YtmoojmgihdgceaaGreatDoor.itP r m c seen')) {u with drawn:=n,heap:=u.heap.setIfInBounds r (.mapIter (some m) c seen'.toArray c)}:=by
 obtain⟨T,hT,⟨hS,hb⟩,hc⟩:=h.upd hj;have hlt:r<u.heap.size:=(Array.getElem?_eq_some_iff.1 hb).1;refine hc _ _ (fun k=>k=r) ⟨rfl,rfl,rfl,by simp,fun k hk=>?_⟩ (fun k hk o' hcell=>?_) ⟨fun k=>Iff.rfl,by simp[hlt]⟩ (fun k hk=>by subst hk;exact⟨hT _ ((hS _).2 rfl),.inl ((hS _).2 rfl)⟩)
 ·have:=hT r ((hS r).2 rfl);simp only[Array.getElem?_setIfInBounds];rw[if_neg (by omega)]
 simp only[Array.getElem?_setIfInBounds];rw[if_neg (fun e=>hk.2.2 ((hS k).2 e.symm))];exact hcell
theorem WS.next {i r m c j:Nat} {es:List MapEntry} {seen:List Nat} {l':Option MapEntry→List Value} {L':Option MapEntry→List SA} (hx:evo l x=some (.pointer (some ⟨r,0,none⟩))) (hj:L[j]? = some (YtmoojmgihdgceaaGreatDoor.itP r m c seen)) (hm:MapW w0 m es c) (hn:n0=w0.heap.size)
  (hl:∀o,lset l i (Gk o)=some (l' o)) (hL:∀o,lset L j (YtmoojmgihdgceaaGreatDoor.itP r m c (ZG seen o))=some (L' o)) (kk:∀o,LR es seen o→WS P ro n0 w0 ds ops Q (L' o) rest (l' o)):
  WS P ro n0 w0 ds ops Q L (⟨some i,.next x false,ty,ps,af,none⟩::rest) l:=by
 subst hn
 (replace hx:=Am hx)
 refine WS.world rfl rfl fun u hu=>?_;have hmu:=hm.ext hu.below;rcases Mu (P:=P) hmu (hu.itP hj).2 ty with⟨d,ho,hrun⟩|⟨e,d,ho,hrun⟩
 ·refine⟨Gk none,{u with drawn:=d},by simp only[execOp,hx];simp[hrun,Result.andThen],?_⟩;rw[Ax,Ag (hl _)];have h2:=kk none ho
  have hLn:L' none=L:=by
   have:=Ag (hL none);rw[←this];obtain⟨h8,h9⟩:=List.getElem?_eq_some_iff.1 hj;show L.set j (YtmoojmgihdgceaaGreatDoor.itP r m c seen)=L;rw[←h9];exact List.set_getElem_self h8
  rw[hLn]at h2;exact h2 _ (hu.drawn d)
 refine⟨Gk (some e),{u with drawn:=d,heap:=u.heap.setIfInBounds r (.mapIter (some m) c (seen++[e.born]).toArray c)},by simp only[execOp,hx];simp[hrun,Result.andThen],?_⟩;rw[Ax,Ag (hl _)];have h2:=kk (some e) ho;rw[←Ag (hL (some e))]at h2;exact h2 _ (hu.itSet hj)
theorem H3 {o:Option MapEntry} (hx:evo l x=some (Gk o)):Det P (St n0 w0 L) ⟨d,.extract x 0,ty,ps,af,g⟩ l (.bool o.isSome):=fun u _=>by
 (replace hx:=Am hx)
 cases o<;>simp[execOp,Av,hx,Gk,Instr.extract]
theorem Q1 {r m c j:Nat} {es:List MapEntry} {seen:List Nat} {e:MapEntry} (hx:evo l x=some (.pointer (some ⟨r,0,none⟩))) (hj:L[j]? = some (YtmoojmgihdgceaaGreatDoor.itP r m c (seen++[e.born]))) (hm:MapW w0 m es c) (he:e∈es):
  Det P (St w0.heap.size w0 L) ⟨d,.entry x,ty,ps,af,g⟩ l (.tuple #[e.key,e.val]):=fun u hu=>by
 (replace hx:=Am hx)
 have hmu:=hm.ext hu.below
 have hf:es.find? (fun x=>x.born == e.born)=some e:=by
  obtain⟨q,hq⟩:∃q,es.find? (fun x=>x.born == e.born)=some q:=by
   cases h9:es.find? (fun x=>x.born == e.born)with
   |none=>have:=List.find?_eq_none.1 h9 e he;simp at this
   |some q=>exact⟨q,rfl⟩
  have h1:q.born=e.born:=by simpa using List.find?_some hq
  have h2:=List.mem_of_find?_eq_some hq;have hnd:=hm.nodup;obtain⟨a,ha,ea⟩:=List.getElem_of_mem h2;obtain⟨b,hb,eb⟩:=List.getElem_of_mem he;have:=(List.getElem_inj (i:=a) (j:=b) (xs:=es.map fun z:MapEntry=>z.born) (h₀:=by simpa using ha) (h₁:=by simpa using hb) hnd).1 (by simp[ea,eb,h1]);subst this;rw[hq,←ea,eb]
 simp[execOp,Av,hx,Instr.entry,DJ (hu.itP hj).2,MapKept.run_getObj_map hmu.at_,Result.andThen,hf]
theorem Nf {r m c j:Nat} {es:List MapEntry} {seen:List Nat} {e:MapEntry} {k v:Value} (hx:evo l x=some (.pointer (some ⟨r,0,none⟩))) (hj:L[j]? = some (YtmoojmgihdgceaaGreatDoor.itP r m c (seen++[e.born]))) (hm:MapW w0 m es c) (he:e∈es) (hk:e.key=k) (hv:e.val=v):
  Det P (St w0.heap.size w0 L) ⟨d,.entry x,ty,ps,af,g⟩ l (.tuple #[k,v]):=by
 subst hk;subst hv;exact Q1 hx hj hm he
theorem TO {w:World} {m c:Nat} {es:List MapEntry} (hm:MapW w m es c) {e q:MapEntry} (he:e∈es) (hq:q∈es) (h:q.born=e.born):q=e:=by
 have hnd:=hm.nodup;obtain⟨a,ha,ea⟩:=List.getElem_of_mem hq;obtain⟨b,hb,eb⟩:=List.getElem_of_mem he;have:=(List.getElem_inj (i:=a) (j:=b) (xs:=es.map fun z:MapEntry=>z.born) (h₀:=by simpa using ha) (h₁:=by simpa using hb) hnd).1 (by simp[ea,eb,h]);subst this;rw[←ea,eb]
end
def BZ (ks:List Int):List MapEntry:=ks.zipIdx.map fun x=>⟨.int .i64 x.1,.int .i64 1,x.2⟩
def addK (ks:List Int) (k:Int):List Int:=if k∈ks then ks else ks++[k]
theorem DG {ks:List Int} {j:Nat} {k:Int} (h:ks[j]? = some k):(BZ ks)[j]? = some ⟨.int .i64 k,.int .i64 1,j⟩:=by
 unfold BZ;rw[List.getElem?_map,List.getElem?_zipIdx,h];simp
theorem Jt {ks:List Int} {j:Nat} {e:MapEntry} (h:(BZ ks)[j]? = some e):∃k,ks[j]? = some k∧e=⟨.int .i64 k,.int .i64 1,j⟩:=by
 unfold BZ at h;rw[List.getElem?_map,List.getElem?_zipIdx]at h;cases hk:ks[j]? with
 |none=>simp[hk]at h
 |some k=>simp[hk]at h;exact⟨k,rfl,h.symm⟩
theorem QG (ks:List Int):(BZ ks).length=ks.length:=by simp[BZ]
theorem N9 (ks:List Int) (k:Int):BZ (ks++[k])=BZ ks++[⟨.int .i64 k,.int .i64 1,ks.length⟩]:=by
 unfold BZ;rw[List.zipIdx_append,List.map_append];simp
theorem Fb {ks:List Int} {e:MapEntry} (h:e∈BZ ks):∃j k,ks[j]? = some k∧e=⟨.int .i64 k,.int .i64 1,j⟩:=by
 obtain⟨j,hj⟩:=List.getElem?_of_mem h;obtain⟨k,a,b⟩:=Jt hj;exact⟨j,k,a,b⟩
theorem Oe (ks:List Int):∀e∈BZ ks,IsKey (.int .i64) e.key:=fun e he=>by
 obtain⟨j,k,_,rfl⟩:=Fb he
 rfl
theorem NW (ks:List Int):∀e∈BZ ks,e.born<ks.length:=fun e he=>by
 obtain⟨j,k,h,rfl⟩:=Fb he;exact(List.getElem?_eq_some_iff.1 h).1
theorem KK (ks:List Int):((BZ ks).map (·.born)).Nodup:=by
 have e:(BZ ks).map (·.born)=List.range ks.length:=by
  apply List.ext_getElem?
  intro j;rw[List.getElem?_map]
  by_cases h:j<ks.length
  ·rw[DG (List.getElem?_eq_getElem h),List.getElem?_range h];rfl
  rw[List.getElem?_eq_none (by rw[QG];omega),List.getElem?_eq_none (by simpa using h)];rfl
 rw[e];exact List.nodup_range
def mapL (b:Nat) (ks:List Int):SA where
 h S u:=(∀k,S k↔k=b)∧u.heap[b]? = some (.map (BZ ks).toArray ks.length)
 loc S u u' h hk:=⟨h.1,hk b ((h.1 b).2 rfl) _ h.2⟩
 dom S u k h hS:=by
  rw[(h.1 k).1 hS];exact(Array.getElem?_eq_some_iff.1 h.2).1
section
variable {P:Program} {ro:Option Nat} {n0:Nat} {w0:World} {ds:List Deferred} {ops:Array Oper} {Q:Exit→Act→World→Prop} {L L':List SA} {rest:List Oper} {l:List Value} {ty:TypeId} {ps:String} {af:Array Edge}
 {T K E:TypeId} {x y z:Operand} {b j:Nat} {ks:List Int} {k:Int} {d:Option Tmp} {g:Option (Nat×Bool)}
theorem FH {u:World} (h:St n0 w0 L u) (hj:L[j]? = some (mapL b ks)):n0≤b∧MapW u b (BZ ks) ks.length:=by
 obtain⟨T,h1,h2,h3⟩:=h.get hj;exact⟨h1 b ((h2 b).2 rfl),h3,NW ks,KK ks⟩
theorem Pv {u:World} (h:St n0 w0 L u) (hj:L[j]? = some (mapL b ks)) {ks':List Int}:St n0 w0 (L.set j (mapL b ks')) {u with heap:=u.heap.setIfInBounds b (.map (BZ ks').toArray ks'.length)}:=by
 obtain⟨T,hT,⟨hS,hb⟩,hc⟩:=h.upd hj;have hlt:b<u.heap.size:=(Array.getElem?_eq_some_iff.1 hb).1;refine hc _ _ (fun k=>k=b) ⟨rfl,rfl,rfl,by simp,fun k hk=>?_⟩ (fun k hk o' hcell=>?_) ⟨fun k=>Iff.rfl,by simp[hlt]⟩ (fun k hk=>by subst hk;exact⟨hT _ ((hS _).2 rfl),.inl ((hS _).2 rfl)⟩)
 ·have:=hT b ((hS b).2 rfl);simp only[Array.getElem?_setIfInBounds];rw[if_neg (by omega)]
 simp only[Array.getElem?_setIfInBounds];rw[if_neg (fun e=>hk.2.2 ((hS k).2 e.symm))];exact hcell
theorem WS.makeMapL {i:Nat} {l':Nat→List Value} (hl:∀b,lset l i (.map (some b))=some (l' b)) (kk:∀b,n0≤b→WS P ro n0 w0 ds ops Q (mapL b []::L) rest (l' b)):
  WS P ro n0 w0 ds ops Q L (⟨some i,.makeMap T none,ty,ps,af,none⟩::rest) l:=by
 refine WS.world rfl rfl fun u hu=>?_;refine⟨.map (some u.heap.size),u.alloc (.map #[] 0),?_,?_⟩
 ·simp[execOp,Instr.makeMap]
 rw[Ax,Ag (hl _)];exact kk _ hu.size _ (hu.cons (T:=fun k=>k=u.heap.size) ((Below.refl _ u).alloc (Nat.le_refl _) _) ⟨fun k=>Iff.rfl,World.alloc_heap_new u _⟩ (fun k hk=>by omega))
theorem M2 {u:World} (hT:P.underlying T=some (.map K E)) (hK:P.underlying K=some (.int .i64)) (hb:u.heap[b]? = some (.map (BZ ks).toArray ks.length)):
  (Instr.mapUpdate T (.map (some b)) (.int .i64 k) (.int .i64 1)).run P u = .ok () {u with heap:=u.heap.setIfInBounds b (.map (BZ (addK ks k)).toArray (addK ks k).length)}:=by
 have hkey:IsKey (.int .i64) (.int .i64 k):=rfl;rcases findNow_spec hkey (BZ ks) 0 (Oe ks)with⟨h1,h2⟩|⟨q,e,h1,h2,h3⟩
 ·have hn:k∉ks:=fun hk=>by
   obtain⟨j,hj⟩:=List.getElem?_of_mem hk;exact h2 _ (List.mem_of_getElem? (DG hj)) rfl
  have e1:addK ks k=ks++[k]:=if_neg hn;rw[e1,N9];simp[Instr.mapUpdate,run_underlying hT,MapKept.run_getObj_map hb,run_checkKey hK hkey,run_findKey hK h1,MapKept.run_setObj_map _ hb,Result.andThen]
 obtain⟨k',hk',rfl⟩:=Jt h2;have e2:k'=k:=by injection h3
 subst e2;have e1:addK ks k'=ks:=if_pos (List.mem_of_getElem? hk')
 have em:((BZ ks).modify q fun e'=>{key:=Value.int .i64 k',val:=Value.int .i64 1,born:=e'.born})=BZ ks:=by
  rw[FR _ _ _ _ h2];obtain⟨h8,h9⟩:=List.getElem?_eq_some_iff.1 h2;show(BZ ks).set q ⟨.int .i64 k',.int .i64 1,q⟩=BZ ks;rw[←h9];exact List.set_getElem_self h8
 rw[e1];simp[Instr.mapUpdate,run_underlying hT,MapKept.run_getObj_map hb,run_checkKey hK hkey,run_findKey hK h1,h2,run_keyThatStays hkey,MapKept.run_setObj_map _ hb,Result.andThen,em]
theorem WS.updL (hT:P.underlying T=some (.map K E)) (hK:P.underlying K=some (.int .i64)) (hx:evo l x=some (.map (some b))) (hj:L[j]? = some (mapL b ks)) (hy:evo l y=some (.int .i64 k)) (hz:evo l z=some (.int .i64 1))
  (hL:lset L j (mapL b (addK ks k))=some L') (kk:WS P ro n0 w0 ds ops Q L' rest l):WS P ro n0 w0 ds ops Q L (⟨none,.mapUpdate T x y z,ty,ps,af,none⟩::rest) l:=by
 (replace hx:=Am hx;replace hy:=Am hy;replace hz:=Am hz)
 rw[←Ag hL]at kk;refine WS.world_skip rfl rfl rfl fun u hu=>?_;refine⟨_,?_,kk _ (Pv hu hj)⟩;simp[execOp,hx,hy,hz,M2 hT hK (FH hu hj).2.at_,Result.andThen]
theorem WS.insL (hT:P.underlying T=some (.map K E)) (hK:P.underlying K=some (.int .i64)) (hx:evo l x=some (.map (some b))) (hj:L[j]? = some (mapL b ks)) (hy:evo l y=some (.int .i64 k)) (hz:evo l z=some (.int .i64 1))
  (hL:lset L j (mapL b (addK ks k))=some L') (kk:WS P ro n0 w0 ds ops Q L' rest l):WS P ro n0 w0 ds ops Q L (⟨none,.insert T x y z,ty,ps,af,none⟩::rest) l:=by
 (replace hx:=Am hx;replace hy:=Am hy;replace hz:=Am hz)
 rw[←Ag hL]at kk;refine WS.world_skip rfl rfl rfl fun u hu=>?_;refine⟨_,?_,kk _ (Pv hu hj)⟩;simp[execOp,hx,hy,hz,M2 hT hK (FH hu hj).2.at_,Result.andThen]
theorem WS.rangeL {i jm:Nat} {l':Nat→List Value} (hT:P.underlying T=some (.map K E)) (hx:evo l x=some (.map (some b))) (hj:L[jm]? = some (mapL b ks))
  (hl:∀r,lset l i (.pointer (some ⟨r,0,none⟩))=some (l' r)) (kk:∀r,n0≤r→WS P ro n0 w0 ds ops Q (itP r b ks.length []::L) rest (l' r)):
  WS P ro n0 w0 ds ops Q L (⟨some i,.range T x,ty,ps,af,none⟩::rest) l:=by
 (replace hx:=Am hx)
 refine WS.world rfl rfl fun u hu=>?_;have hmu:=(FH hu hj).2;refine⟨.pointer (some ⟨u.heap.size,0,none⟩),u.alloc (.mapIter (some b) ks.length #[] ks.length),?_,?_⟩
 ·simp[execOp,Instr.range,hx,run_underlying hT,MapKept.run_getObj_map hmu.at_,Result.andThen]
 rw[Ax,Ag (hl _)];exact kk _ hu.size _ (hu.cons (T:=fun k=>k=u.heap.size) ((Below.refl _ u).alloc (Nat.le_refl _) _) ⟨fun k=>Iff.rfl,World.alloc_heap_new u _⟩ (fun k hk=>by omega))
theorem WS.nextL {i r jm:Nat} {seen:List Nat} {l':Option MapEntry→List Value} {L':Option MapEntry→List SA} (hx:evo l x=some (.pointer (some ⟨r,0,none⟩))) (hj:L[j]? = some (itP r b ks.length seen)) (hm:L[jm]? = some (mapL b ks))
  (hl:∀o,lset l i (Gk o)=some (l' o)) (hL:∀o,lset L j (itP r b ks.length (ZG seen o))=some (L' o)) (kk:∀o,LR (BZ ks) seen o→WS P ro n0 w0 ds ops Q (L' o) rest (l' o)):
  WS P ro n0 w0 ds ops Q L (⟨some i,.next x false,ty,ps,af,none⟩::rest) l:=by
 (replace hx:=Am hx)
 refine WS.world rfl rfl fun u hu=>?_;have hmu:=(FH hu hm).2;rcases Mu (P:=P) hmu (hu.itP hj).2 ty with⟨d,ho,hrun⟩|⟨e,d,ho,hrun⟩
 ·refine⟨Gk none,{u with drawn:=d},by simp only[execOp,hx];simp[hrun,Result.andThen],?_⟩;rw[Ax,Ag (hl _)];have h2:=kk none ho
  have hLn:L' none=L:=by
   have:=Ag (hL none);rw[←this];obtain⟨h8,h9⟩:=List.getElem?_eq_some_iff.1 hj;show L.set j (itP r b ks.length seen)=L;rw[←h9];exact List.set_getElem_self h8
  rw[hLn]at h2;exact h2 _ (hu.drawn d)
 refine⟨Gk (some e),{u with drawn:=d,heap:=u.heap.setIfInBounds r (.mapIter (some b) ks.length (seen++[e.born]).toArray ks.length)},by simp only[execOp,hx];simp[hrun,Result.andThen],?_⟩;rw[Ax,Ag (hl _)];have h2:=kk (some e) ho;rw[←Ag (hL (some e))]at h2;exact h2 _ (hu.itSet hj)
theorem M4 {r jm q:Nat} {seen:List Nat} (hx:evo l x=some (.pointer (some ⟨r,0,none⟩))) (hj:L[j]? = some (itP r b ks.length (seen++[q]))) (hm:L[jm]? = some (mapL b ks)) (hk:ks[q]? = some k):
  Det P (St n0 w0 L) ⟨d,.entry x,ty,ps,af,g⟩ l (.tuple #[.int .i64 k,.int .i64 1]):=fun u hu=>by
 (replace hx:=Am hx)
 have hmu:=(FH hu hm).2;have he:(⟨.int .i64 k,.int .i64 1,q⟩:MapEntry)∈BZ ks:=List.mem_of_getElem? (DG hk)
 have hf:(BZ ks).find? (fun x=>x.born == q)=some ⟨.int .i64 k,.int .i64 1,q⟩:=by
  cases h9:(BZ ks).find? (fun x=>x.born == q)with
  |none=>have:=List.find?_eq_none.1 h9 _ he;simp at this
  |some z=>
   have h1:z.born=q:=by simpa using List.find?_some h9
   rw[TO hmu he (List.mem_of_find?_eq_some h9) h1]
 simp[execOp,Av,hx,Instr.entry,DJ (hu.itP hj).2,MapKept.run_getObj_map hmu.at_,Result.andThen,hf]
end
end Go.Proofs.YtmoojmgihdgceaaGreatDoor
