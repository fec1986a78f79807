/- Merged texts of this proof (walks and plain laws), printed by a program of the prover. -/
import Derived.Test.YtmoojmgihdgceaaGreatDoorZb
import Derived.Lib.AppendZerosOnto
import Derived.ArgAppend
import Derived.Laws.CopyRow
namespace Go.Proofs.YtmoojmgihdgceaaGreatDoor
set_option linter.unusedVariables false
set_option linter.unusedSimpArgs false
open Go.RowKit Go.Proofs
section
variable {α:Type} (key:α→Int)
def Eqv (l l':List α):Prop:=∀v:Int,l'.filter (fun x=>decide (key x=v))=l.filter (fun x=>decide (key x=v))
def Srt (l:List α):Prop:=l.Pairwise fun x y=>key x≤key y
variable {key}
theorem Eqv.refl (l:List α):Eqv key l l:=fun _=>rfl
theorem Eqv.trans {a b c:List α} (h:Eqv key a b) (h2:Eqv key b c):Eqv key a c:=fun v=>(h2 v).trans (h v)
theorem Eqv.symm {a b:List α} (h:Eqv key a b):Eqv key b a:=fun v=>(h v).symm
theorem Eqv.app {a b c d:List α} (h:Eqv key a b) (h2:Eqv key c d):Eqv key (a++c) (b++d):=fun v=>by rw[List.filter_append,List.filter_append,h v,h2 v]
theorem Eqv.mem {a b:List α} (h:Eqv key a b) {x:α}:x∈b↔x∈a:=by
 have h1:x∈b.filter (fun y=>decide (key y=key x))↔x∈b:=by simp
 have h2:x∈a.filter (fun y=>decide (key y=key x))↔x∈a:=by simp
 rw[←h1,←h2,h (key x)]
theorem Eqv.swap {a b:List α} (h:∀x∈a,∀y∈b,key x≠key y):Eqv key (a++b) (b++a):=fun v=>by
 rw[List.filter_append,List.filter_append]
 by_cases ha:a.filter (fun x=>decide (key x=v))=[]
 ·rw[ha,List.append_nil,List.nil_append]
 have hb:b.filter (fun x=>decide (key x=v))=[]:=by
  rw[List.filter_eq_nil_iff];intro y hy hv;obtain⟨x,hx⟩:=List.exists_mem_of_ne_nil _ ha;rw[List.mem_filter]at hx;simp only[decide_eq_true_eq]at hx hv;exact h x hx.1 y hy (hx.2.trans hv.symm)
 rw[hb,List.append_nil,List.nil_append]
theorem Eqv.len:∀{a b:List α},Eqv key a b→b.length=a.length
 |[],b,h=>by
  cases b with
  |nil=>rfl
  |cons y b=>exact absurd (h.mem.1 (List.mem_cons_self (a:=y) (l:=b))) List.not_mem_nil
 |x::a,b,h=>by
  have hx:x∈b:=h.mem.2 List.mem_cons_self
  obtain⟨b1,b2,hb,hn⟩:∃b1 b2,b=b1++x::b2∧∀y∈b1,key y≠key x:=by
   have h1:=h (key x);rw[List.filter_cons,if_pos (by simp)]at h1;have h2:=List.filter_eq_cons_iff.1 h1;obtain⟨b1,b2,e,q1,_,_⟩:=h2;exact⟨b1,b2,e,fun y hy hk=>by have:=q1 y hy;simp[hk]at this⟩
  subst hb
  have h3:Eqv key (x::a) (x::(b1++b2)):=h.trans (by
   have q:Eqv key (b1++[x]) ([x]++b1):=Eqv.swap fun y hy z hz=>by rw[List.mem_singleton.1 hz];exact hn y hy
   have:=q.app (Eqv.refl b2)
   simpa using this)
  have h4:Eqv key a (b1++b2):=fun v=>by
   have:=h3 v;rw[List.filter_cons,List.filter_cons]at this
   by_cases hv:decide (key x=v)=true
   ·rw[if_pos hv,if_pos hv]at this;exact(List.cons.inj this).2
   rw[if_neg hv,if_neg hv]at this;exact this
  have:=Eqv.len h4;simp only[List.length_append,List.length_cons]at this⊢;omega
theorem Srt.app {a b:List α} (h:Srt key a) (h2:Srt key b) (h3:∀x∈a,∀y∈b,key x≤key y):Srt key (a++b):=List.pairwise_append.2 ⟨h,h2,h3⟩
theorem Srt.left {a b:List α} (h:Srt key (a++b)):Srt key a:=(List.pairwise_append.1 h).1
theorem Srt.right {a b:List α} (h:Srt key (a++b)):Srt key b:=(List.pairwise_append.1 h).2.1
theorem Srt.nil:Srt key []:=List.Pairwise.nil
theorem Srt.one (x:α):Srt key [x]:=List.pairwise_singleton _ _
theorem Srt.small {a:List α} (h:a.length≤1):Srt key a:=by
 match a,h with
 |[],_=>exact Srt.nil
 |[x],_=>exact Srt.one x
end
section
variable {α:Type} [Inhabited α]
theorem Jy2 {a b:List α} {i:Int} (h:i<a.length) (h0:0≤i):nth (a++b) i=nth a i:=by
 have:i.toNat<a.length:=by omega
 simp[nth,List.getD,List.getElem?_append_left this]
theorem Jya {a b:List α} {i:Int} (h:(a.length:Int)≤i):nth (a++b) i=nth b (i-a.length):=by
 have:a.length≤i.toNat:=by omega
 have e:i.toNat-a.length=(i-a.length).toNat:=by omega
 unfold nth;rw[List.getD_eq_getElem?_getD,List.getD_eq_getElem?_getD,List.getElem?_append_right this,e]
theorem J7h {l:List α} {i:Int} {n:Nat} (h:i<n) (h0:0≤i):nth (l.take n) i=nth l i:=by
 have:i.toNat<n:=by omega
 simp[nth,List.getD,List.getElem?_take,this]
variable {key:α→Int}
end
section
variable {α:Type} (key:α→Int)
variable {key}
theorem Eqv.cons {x:α} {a b:List α} (h:Eqv key a b):Eqv key (x::a) (x::b):=(Eqv.refl [x]).app h
theorem Eqv.parts (p:α→Bool) (hp:∀x y,key x=key y→p x=p y):∀(l:List α),Eqv key (l.filter p++l.filter fun x=>!p x) l
 |l=>fun v=>by
  rw[List.filter_append,List.filter_filter,List.filter_filter]
  by_cases h:∃x∈l,key x=v∧p x=true
  ·obtain⟨x,hx,hv,hpx⟩:=h
   have e1:(l.filter fun y=>decide (key y=v)&&p y)=l.filter fun y=>decide (key y=v):=List.filter_congr fun y hy=>by
    by_cases hk:key y=v
    ·rw[hp y x (hk.trans hv.symm),hpx];simp
    simp[hk]
   have e2:(l.filter fun y=>decide (key y=v)&&!p y)=[]:=by
    rw[List.filter_eq_nil_iff];intro y hy hc;simp at hc;rw[hp y x (hc.1.trans hv.symm),hpx]at hc;exact absurd hc.2 (by decide)
   rw[e1,e2,List.append_nil]
  have e1:(l.filter fun y=>decide (key y=v)&&p y)=[]:=by
   rw[List.filter_eq_nil_iff];intro y hy hc;simp at hc;exact h ⟨y,hy,hc.1,hc.2⟩
  have e2:(l.filter fun y=>decide (key y=v)&&!p y)=l.filter fun y=>decide (key y=v):=List.filter_congr fun y hy=>by
   by_cases hk:key y=v
   ·cases hq:p y
    ·simp
    exact absurd ⟨y,hy,hk,hq⟩ h
   simp[hk]
  rw[e1,e2,List.nil_append]
end
section
variable {α:Type} {key:α→Int}
inductive Blk (key:α→Int) (k:Nat):List α→Prop
 |last {l:List α}:l.length≤k→Srt key l→Blk key k l
 |cons {b l:List α}:b.length=k→Srt key b→Blk key k l→Blk key k (b++l)
inductive Full (key:α→Int) (k:Nat):List α→Prop
 |nil:Full key k []
 |snoc {D b:List α}:Full key k D→b.length=k→Srt key b→Full key k (D++b)
theorem Full.blk {k:Nat} {D l:List α} (h:Full key k D) (hl:Blk key k l):Blk key k (D++l):=by
 induction h generalizing l with
 |nil=>exact hl
 |snoc _ hb hs ih=>rw[List.append_assoc];exact ih (.cons hb hs hl)
theorem Blk.srt {k:Nat} {l:List α} (h:Blk key k l) (hl:l.length≤k):Srt key l:=by
 cases h with
 |last _ h=>exact h
 |cons hb hs h=>
  rename_i b l;have:l=[]:=List.eq_nil_of_length_eq_zero (by simp at hl;omega);subst this;simpa using hs
theorem Blk.split {k:Nat} {l:List α} (h:Blk key k l) (hl:k<l.length):∃b r,l=b++r∧b.length=k∧Srt key b∧Blk key k r:=by
 cases h with
 |last h _=>omega
 |cons hb hs h=>exact⟨_,_,rfl,hb,hs,h⟩
end
section
variable {α:Type}
def lk (A:List α) (x:α) (Y B:List α) (k:Int):List α:=A++(Y.take k.toNat++x::(Y.drop k.toNat++B))
end
section
variable {α:Type} [Inhabited α] {d:α→Bool}
theorem Joy {xs:List α} {j:Int} (h0:0≤j) (h1:j<xs.length):(xs.take (j+1).toNat).filter (fun x=>!d x)=(xs.take j.toNat).filter (fun x=>!d x)++(if d (nth xs j)=true then[]else[nth xs j]):=by
 rw[Jb0 h0 h1,List.filter_append];congr 1;cases hd:d (nth xs j)<;>simp[hd]
theorem Jzw {xs:List α} (h:∀j:Int,0≤j→j<xs.length→d (nth xs j)=false):xs.filter (fun x=>!d x)=xs:=by
 rw[List.filter_eq_self];intro a ha;obtain⟨i,h0,h1,rfl⟩:=Jbu ha;rw[h i h0 h1];rfl
theorem Jun {xs:List α} {i:Int} (h0:0≤i) (h1:i<xs.length) (h:∀j:Int,0≤j→j<i→d (nth xs j)=false) (hd:d (nth xs i)=true):(xs.take (i+1).toNat).filter (fun x=>!d x)=xs.take i.toNat:=by
 rw[Joy h0 h1,if_pos hd,List.append_nil];refine Jzw fun j j0 j1=>?_;rw[List.length_take]at j1;rw[J7h (by omega) j0];exact h j j0 (by omega)
end
section
variable {P:Program} {n0:Nat} {w0:World} {L:List SA} {l:List Value} {d:Option Tmp} {ty:TypeId} {ps:String} {af:Array Edge} {g:Option (Nat×Bool)} {C:World→Prop}
theorem Jj4 {T e e':TypeId} {k by_ j n k':Nat} {x z:Operand} {v:Value} {xs:List Value} {lo:Int} (hT:sl P T=some (e,k,by_)) (hx:evo l x=some v) (hz:evo l z=some (.int .i64 lo))
  (hj:L[j]? = some (osl e' k' v n xs)) (h1:0≤lo) (h2:lo≤n):Det P (St n0 w0 L) ⟨d,.slice T x (some z) none none,ty,ps,af,g⟩ l (sub2 k v lo.toNat n):=fun u hu=>Jlm hT hx hz (Jbq hu hj) h1 h2 u hu
end
structure DelI {α:Type} (d:α→Bool) (xs ys:List α) (i j:Int):Prop where
 i0:0≤i
 ij:i<j
 jn:j≤xs.length
 len:ys.length=xs.length
 tk:ys.take i.toNat=(xs.take j.toNat).filter (fun x=>!d x)
 dp:ys.drop j.toNat=xs.drop j.toNat
section
variable {α:Type} [Inhabited α] {d:α→Bool} {xs ys:List α} {i j:Int}
theorem DelI.first (h0:0≤i) (h1:i<xs.length) (h:∀k:Int,0≤k→k<i→d (nth xs k)=false) (hd:d (nth xs i)=true):DelI d xs xs i (i+1):=
 ⟨h0,by omega,by omega,rfl,(Jun h0 h1 h hd).symm,rfl⟩
theorem DelI.at (h:DelI d xs ys i j) (hj:j<xs.length):nth ys j=nth xs j:=by
 have h0:=h.i0;have h1:=h.ij;have h2:=h.len;have e1:=Ja0 (xs:=ys) (s:=j) (by omega) (by omega);rw[h.dp,Ja0 (by omega) hj]at e1;exact(List.cons.inj e1).1.symm
theorem DelI.keep (h:DelI d xs ys i j) (hj:j<xs.length) (hd:¬d (nth ys j)=true):DelI d xs (ys.set i.toNat (nth ys j)) (i+1) (j+1):=by
 have h0:=h.i0;have h1:=h.ij;have h2:=h.len;refine⟨by omega,by omega,by omega,by simp[h2],?_,?_⟩
 ·rw[Joy (by omega) hj,←h.at hj,if_neg hd,←h.tk,show(i+1).toNat=i.toNat+1 by omega];rw[List.take_add_one,List.take_set_of_le (Nat.le_refl _),List.getElem?_set_self (by omega)];rfl
 rw[show(j+1).toNat=j.toNat+1 by omega,List.drop_set_of_lt (by omega)];have e1:=Ja0 (xs:=ys) (s:=j) (by omega) (by omega);rw[h.dp,Ja0 (by omega) hj]at e1;rw[show(j+1).toNat=j.toNat+1 by omega]at e1;exact(List.cons.inj e1).2.symm
omit [Inhabited α] in
theorem DelI.fin (h:DelI d xs ys i j) (hj:¬j<xs.length):ys.take i.toNat=xs.filter fun x=>!d x:=by
 have h2:=h.jn;rw[h.tk,List.take_of_length_le (by omega)]
end
end Go.Proofs.YtmoojmgihdgceaaGreatDoor
namespace Go.Proofs.YtmoojmgihdgceaaGreatDoor
set_option linter.unusedVariables false
set_option linter.unusedSimpArgs false
open Go.RowKit Go.Proofs Go.MapKept
def MapAt (u:World) (b:Nat) (f:Int→Int):Prop:=∃es c,u.heap[b]? = some (.map es c)∧MapI es f
theorem MapAt.ext {w u:World} {b:Nat} {f:Int→Int} (h:MapAt w b f) (hb:Below w.heap.size w u):MapAt u b f:=by
 obtain⟨es,c,h1,h2⟩:=h;exact⟨es,c,(hb.block b (Array.getElem?_eq_some_iff.1 h1).1).trans h1,h2⟩
section
variable {P:Program} {n0:Nat} {w0:World} {L:List SA} {l:List Value} {d:Option Tmp} {ty:TypeId} {ps:String} {af:Array Edge} {g:Option (Nat×Bool)} {C:World→Prop}
theorem J7w {n:Int} (h: -9223372036854775808≤n∧n≤9223372036854775807):IntKind.i64.wrap n=n:=IntWalk.i64_in _ h
end
theorem Jsc {α:Type} (x:List (Sl α)) (i:Int):nth (x.map Sl.l) i=(nth x i).l:=by
 unfold nth;rw[List.getD_eq_getElem?_getD,List.getD_eq_getElem?_getD,List.getElem?_map];cases x[i.toNat]?<;>rfl
end Go.Proofs.YtmoojmgihdgceaaGreatDoor
namespace Go.Proofs.YtmoojmgihdgceaaGreatDoor
set_option linter.unusedVariables false
set_option linter.unusedSimpArgs false
open Go.RowKit Go.Proofs
structure EdgeD where
 m:Move
 to:Int
 deriving Inhabited,DecidableEq
def Jca:Cel EdgeD:=⟨4,fun x=>[.int .i64 x.m.p,.int .i64 x.m.k,.int .i64 x.m.n,.int .i64 x.to],fun _ _=>True,fun _=>rfl,fun _ _ _ _ _=>trivial,fun _ _ _ v hv=>by
 simp at hv;rcases hv with rfl|rfl|rfl|rfl<;>rfl⟩
theorem PosOk.one4 {w:World} {p:Pos} (h:PosOk w p):∀v∈[p.st.ths.v,p.st.prs.v,p.st.pls.v,p.rd.v],v.oneCell'=true:=by
 intro v hv;obtain⟨h1,h2,h3⟩:=h.st.ones;simp only[List.mem_cons,List.not_mem_nil,or_false]at hv;rcases hv with rfl|rfl|rfl|rfl
 ·exact h1
 ·exact h2
 ·exact h3
 exact Sl.one h.rd
def cPos:Cel Pos:=⟨4,fun p=>[p.st.ths.v,p.st.prs.v,p.st.pls.v,p.rd.v],PosOk,fun _=>rfl,fun _ _ _ h hb=>h.ext hb,fun _ _ h=>h.one4⟩
structure GraphD where
 ps:Sl Pos
 es:Sl (Sl EdgeD)
 deriving Inhabited
structure GraphOk (w:World) (X:GraphD):Prop where
 ps:SlT cPos w X.ps
 es:SlT (cSl Jca) w X.es
theorem GraphOk.ext {w u:World} {X:GraphD} (h:GraphOk w X) (hb:Below w.heap.size w u):GraphOk u X:=⟨h.ps.ext hb,h.es.ext hb⟩
theorem GraphOk.st {w u:World} {L:List SA} {X:GraphD} (h:GraphOk w X) (hu:St w.heap.size w L u):GraphOk u X:=h.ext hu.below
def GraphD.xs (X:GraphD):List PX:=X.ps.l.map Pos.x
def GraphD.ed (X:GraphD):List (List EdgeD):=X.es.l.map Sl.l
def idxG (ps:List PX) (q:PX):Option Nat:=ps.findIdx? fun p=>decide (p=q)
def addG (ps:List PX) (q:PX):List PX:=if(idxG ps q).isSome=true then ps else ps++[q]
def numG (ps:List PX) (q:PX):Int:=(((idxG ps q).getD ps.length:Nat):Int)
def Jde (ps:List PX) (q:PX):Bool:=(idxG ps q).isNone&&decide (ps.length=3000)
def edgN (G:GP) (x:PX) (ps:List PX):Nat→Option (List PX×List EdgeD)
 |0=>some (ps,[])
 |k+1=>match edgN G x ps k with
  |none=>none
  |some (qs,ed)=>if Jde qs (Ja6 G x (nth (Jae G x) k))=true then none else some (addG qs (Ja6 G x (nth (Jae G x) k)),ed++[⟨nth (Jae G x) k,numG qs (Ja6 G x (nth (Jae G x) k))⟩])
def expN (G:GP) (x0:PX):Nat→Option (List PX×List (List EdgeD))
 |0=>some ([x0],[])
 |i+1=>match expN G x0 i with
  |none=>none
  |some (ps,es)=>if i<ps.length then(match edgN G (nth ps i) ps (Jae G (nth ps i)).length with
    |none=>none
    |some (qs,ed)=>some (qs,es++[ed]))else some (ps,es)
def Jai (G:GP):Int×List PX×List (List EdgeD):=
 if(Jad G).1=0 then(match expN G (Jad G).2 3000 with|none=>(2,[],[])|some z=>(0,z))else((Jad G).1,[],[])
theorem Jpe {ps:List PX} {q:PX} {n:Nat} (h:idxG ps q=some n):n<ps.length∧ps[n]? = some q:=by
 unfold idxG at h;obtain⟨h1,h2,_⟩:=List.findIdx?_eq_some_iff_getElem.1 h;refine⟨h1,?_⟩;rw[List.getElem?_eq_getElem h1];congr 1;exact of_decide_eq_true h2
theorem Jnw {ps:List PX} {q:PX} (h:idxG ps q=none):q∉ps:=fun hq=>by
 unfold idxG at h;have:=List.findIdx?_eq_none_iff.1 h q hq;simp at this
theorem J2z {ps:List PX} {q:PX} (h:q∈ps):∃n,idxG ps q=some n:=by
 cases hx:idxG ps q with
 |none=>exact absurd h (Jnw hx)
 |some n=>exact⟨n,rfl⟩
theorem Jxl (ps:List PX) (q:PX):∃t,addG ps q=ps++t:=by
 unfold addG;split
 ·exact⟨[],by simp⟩
 exact⟨[q],rfl⟩
theorem Jf1 {α:Type} [Inhabited α] {l t:List α} {i:Int} (h0:0≤i) (h1:i<l.length):nth (l++t) i=nth l i:=by
 have:i.toNat<l.length:=by omega
 simp[nth,List.getD,List.getElem?_append_left this]
theorem Jpq {α:Type} [Inhabited α] {l:List α} {a:α} {i:Int} (h:i=l.length):nth (l++[a]) i=a:=by
 subst h;simp[nth,List.getD]
theorem J6m (ps:List PX) (q:PX):0≤numG ps q∧numG ps q<(addG ps q).length∧nth (addG ps q) (numG ps q)=q:=by
 unfold numG addG;cases h:idxG ps q with
 |none=>
  simp only[Option.isSome_none,Bool.false_eq_true,if_false,Option.getD_none];exact⟨by omega,by simp;omega,Jpq rfl⟩
 |some n=>
  obtain⟨h1,h2⟩:=Jpe h;simp only[Option.isSome_some,if_true,Option.getD_some];exact⟨by omega,by omega,by simp[nth,List.getD,h2]⟩
theorem Jmu {ps:List PX} {q:PX} {n:Nat} (h:idxG ps q=some n):addG ps q=ps∧numG ps q=n∧Jde ps q=false:=by
 unfold addG numG Jde;rw[h];simp
theorem Jnb {ps:List PX} {q:PX} (h:idxG ps q=none):addG ps q=ps++[q]∧numG ps q=ps.length∧Jde ps q=decide (ps.length=3000):=by
 unfold addG numG Jde;rw[h];simp
structure PsOk (G:GP) (x0:PX) (ps:List PX):Prop where
 pos:0<ps.length
 first:nth ps 0=x0
 nd:ps.Nodup
 ok:∀p∈ps,posG G p=0
 lim:ps.length≤3000
theorem PsOk.add {G:GP} {x0 q:PX} {ps:List PX} (h:PsOk G x0 ps) (hq:posG G q=0) (hf:Jde ps q=false):PsOk G x0 (addG ps q):=by
 cases hi:idxG ps q with
 |some n=>rw[(Jmu hi).1];exact h
 |none=>
  obtain⟨e1,_,e3⟩:=Jnb hi;rw[e3]at hf;rw[e1];refine⟨by simp,by rw[Jf1 (Int.le_refl 0) (by have:=h.pos;omega)];exact h.first,?_,?_,?_⟩
  ·rw[List.nodup_append];refine⟨h.nd,by simp,fun a ha b hb=>?_⟩;rw[List.mem_singleton]at hb;subst hb;exact fun e=>Jnw hi (e▸ha)
  ·intro p hp;rcases List.mem_append.1 hp with hp|hp
   ·exact h.ok p hp
   rw[List.mem_singleton.1 hp];exact hq
  have h1:=h.lim;have h2:ps.length≠3000:=of_decide_eq_false hf;simp;omega
structure EdOk (G:GP) (ps:List PX) (x:PX) (ms:List Move) (ed:List EdgeD):Prop where
 mv:ed.map EdgeD.m=ms
 to:∀e∈ed,0≤e.to∧e.to<ps.length∧nth ps e.to=Ja6 G x e.m
theorem EdOk.pre {G:GP} {ps qs:List PX} {x:PX} {ms:List Move} {ed:List EdgeD} (h:EdOk G ps x ms ed) (hq:∃t,qs=ps++t):EdOk G qs x ms ed:=by
 obtain⟨t,rfl⟩:=hq;refine⟨h.mv,fun e he=>?_⟩;obtain⟨a,b,c⟩:=h.to e he;exact⟨a,by simp;omega,by rw[Jf1 a b];exact c⟩
theorem EdOk.snoc {G:GP} {ps:List PX} {x:PX} {ms:List Move} {ed:List EdgeD} (h:EdOk G ps x ms ed) (m:Move):EdOk G (addG ps (Ja6 G x m)) x (ms++[m]) (ed++[⟨m,numG ps (Ja6 G x m)⟩]):=by
 refine⟨by rw[List.map_append,h.mv];rfl,fun e he=>?_⟩;rcases List.mem_append.1 he with he|he
 ·exact(h.pre (Jxl _ _)).to e he
 rw[List.mem_singleton.1 he];exact J6m _ _
theorem Jqf {G:GP} {x:PX} {ps:List PX} {k:Nat} (h:edgN G x ps k=none):∀j,edgN G x ps (k+j)=none
 |0=>h
 |j+1=>by
  show edgN G x ps (k+j+1)=none;unfold edgN;rw[Jqf h j]
theorem Jpb {G:GP} {x:PX} {ps qs:List PX} {ed:List EdgeD} {k n:Nat} (h:edgN G x ps k=some (qs,ed)) (hf:Jde qs (Ja6 G x (nth (Jae G x) k))=true) (hk:k<n):edgN G x ps n=none:=by
 have h1:edgN G x ps (k+1)=none:=by
  unfold edgN;rw[h];exact if_pos hf
 have:=Jqf h1 (n-(k+1))
 rwa [show k+1+(n-(k+1))=n by omega]at this
theorem Jof {G:GP} {x:PX} {ps qs:List PX} {ed:List EdgeD} {k:Nat} (h:edgN G x ps k=some (qs,ed)) (hf:Jde qs (Ja6 G x (nth (Jae G x) k))=false):
  edgN G x ps (k+1)=some (addG qs (Ja6 G x (nth (Jae G x) k)),ed++[⟨nth (Jae G x) k,numG qs (Ja6 G x (nth (Jae G x) k))⟩]):=by
 conv=>lhs;unfold edgN
 rw[h];simp only;rw[if_neg (by rw[hf];decide)]
theorem Ju4 {α:Type} [Inhabited α] {xs:List α} {k:Nat} (h:k<xs.length):xs.take (k+1)=xs.take k++[nth xs k]:=by
 rw[List.take_succ_eq_append_getElem h];simp[nth,List.getD,h]
theorem Jmq {G:GP} {x0 x:PX} {ps:List PX} (hP:PsOk G x0 ps) (hc:∀m∈Jae G x,posG G (Ja6 G x m)=0):∀{k:Nat},k≤(Jae G x).length→∀{qs:List PX} {ed:List EdgeD},edgN G x ps k=some (qs,ed)→
  PsOk G x0 qs∧(∃t,qs=ps++t)∧EdOk G qs x ((Jae G x).take k) ed
 |0,_,qs,ed,h=>by
  unfold edgN at h;cases h;exact⟨hP,⟨[],by simp⟩,rfl,fun e he=>by cases he⟩
 |k+1,hk,qs,ed,h=>by
  cases h1:edgN G x ps k with
  |none=>rw[Jqf h1 1]at h;cases h
  |some z=>
   obtain⟨qs1,ed1⟩:=z;obtain⟨a1,⟨t,a2⟩,a3⟩:=Jmq hP hc (by omega:k≤_) h1;cases hf:Jde qs1 (Ja6 G x (nth (Jae G x) k))with
   |true=>rw[Jpb h1 hf (Nat.lt_succ_self k)]at h;cases h
   |false=>
    rw[Jof h1 hf]at h;cases h;refine⟨a1.add (hc _ (Jac (by omega) (by omega))) hf,?_,?_⟩
    ·obtain⟨t2,h2⟩:=Jxl qs1 (Ja6 G x (nth (Jae G x) k));exact⟨t++t2,by rw[h2,a2,List.append_assoc]⟩
    rw[Ju4 (by omega)];exact a3.snoc _
structure GrOk (G:GP) (x0:PX) (ps:List PX) (es:List (List EdgeD)):Prop where
 pk:PsOk G x0 ps
 es:∀i:Int,0≤i→i<es.length→EdOk G ps (nth ps i) (Jae G (nth ps i)) (nth es i)
theorem Jp7 {G:GP} {x0:PX} {i:Nat} (h:expN G x0 i=none):∀j,expN G x0 (i+j)=none
 |0=>h
 |j+1=>by
  show expN G x0 (i+j+1)=none;unfold expN;rw[Jp7 h j]
theorem Jov {G:GP} {x0:PX} {i n:Nat} {ps:List PX} {es:List (List EdgeD)} (h:expN G x0 i=some (ps,es)) (hi:i<ps.length) (he:edgN G (nth ps i) ps (Jae G (nth ps i)).length=none) (hn:i<n):expN G x0 n=none:=by
 have h1:expN G x0 (i+1)=none:=by
  unfold expN;rw[h];simp only;rw[if_pos hi,he]
 have:=Jp7 h1 (n-(i+1))
 rwa [show i+1+(n-(i+1))=n by omega]at this
theorem Jpn {G:GP} {x0:PX} {i:Nat} {ps qs:List PX} {es:List (List EdgeD)} {ed:List EdgeD} (h:expN G x0 i=some (ps,es)) (hi:i<ps.length) (he:edgN G (nth ps i) ps (Jae G (nth ps i)).length=some (qs,ed)):
  expN G x0 (i+1)=some (qs,es++[ed]):=by
 conv=>lhs;unfold expN
 rw[h];simp only;rw[if_pos hi,he]
theorem Jk8 {G:GP} {x0:PX} {i:Nat} {ps:List PX} {es:List (List EdgeD)} (h:expN G x0 i=some (ps,es)) (hi:ps.length≤i):∀j,expN G x0 (i+j)=some (ps,es)
 |0=>h
 |j+1=>by
  show expN G x0 (i+j+1)=_
  conv=>lhs;unfold expN
  rw[Jk8 h hi j];simp only;rw[if_neg (by omega)]
theorem J2m {G:GP} {x0:PX} {i n:Nat} {ps:List PX} {es:List (List EdgeD)} (h:expN G x0 i=some (ps,es)) (hi:ps.length≤i) (hn:i≤n):expN G x0 n=some (ps,es):=by
 have:=Jk8 h hi (n-i)
 rwa [show i+(n-i)=n by omega]at this
theorem Jmc {G:GP} {x0:PX} (hc:∀x,posG G x=0→∀m∈Jae G x,posG G (Ja6 G x m)=0) (h0:posG G x0=0):∀{i:Nat} {ps:List PX} {es:List (List EdgeD)},expN G x0 i=some (ps,es)→GrOk G x0 ps es∧es.length=min i ps.length
 |0,ps,es,h=>by
  unfold expN at h;cases h;refine⟨⟨⟨by simp,rfl,by simp,fun p hp=>by rw[List.mem_singleton.1 hp];exact h0,by simp⟩,fun i h0 h1=>by simp at h1;omega⟩,by simp⟩
 |i+1,ps,es,h=>by
  cases h1:expN G x0 i with
  |none=>rw[Jp7 h1 1]at h;cases h
  |some z=>
   obtain⟨ps1,es1⟩:=z;obtain⟨a1,a2⟩:=Jmc hc h0 h1
   by_cases hi:i<ps1.length
   ·cases he:edgN G (nth ps1 i) ps1 (Jae G (nth ps1 i)).length with
    |none=>rw[Jov h1 hi he (Nat.lt_succ_self i)]at h;cases h
    |some y=>
     obtain⟨qs,ed⟩:=y;rw[Jpn h1 hi he]at h;cases h;obtain⟨b1,⟨t,b2⟩,b3⟩:=Jmq a1.pk (hc _ (a1.pk.ok _ (Jac (by omega) (by omega)))) (Nat.le_refl _) he;rw[List.take_length]at b3;have hl:es1.length=i:=by omega
     subst b2;refine⟨⟨b1,fun j j0 j1=>?_⟩,by simp;omega⟩
     by_cases hj:j<es1.length
     ·rw[Jf1 j0 hj,Jf1 j0 (by omega)];exact(a1.es j j0 hj).pre ⟨t,rfl⟩
     have:j=es1.length:=by simp at j1;omega
     rw[Jpq this,Jf1 j0 (by omega),show j=(i:Int) by omega];exact b3
   rw[Jk8 h1 (by omega) 1]at h;cases h;exact⟨a1,by omega⟩
structure GrAll (G:GP) (x0:PX) (ps:List PX) (es:List (List EdgeD)):Prop where
 ok:GrOk G x0 ps es
 len:es.length=ps.length
theorem Jrl {G:GP} (hc:∀x,posG G x=0→∀m∈Jae G x,posG G (Ja6 G x m)=0) (h0:(Jad G).1=0→posG G (Jad G).2=0) (h:(Jai G).1=0):(Jad G).1=0∧GrAll G (Jad G).2 (Jai G).2.1 (Jai G).2.2:=by
 unfold Jai at h⊢;split at h
 ·rename_i hb;refine⟨hb,?_⟩;rw[if_pos hb];cases he:expN G (Jad G).2 3000 with
  |none=>rw[he]at h;exact absurd h (by decide)
  |some z=>
   obtain⟨a1,a2⟩:=Jmc hc (h0 hb) he;have:=a1.pk.lim;exact⟨a1,show z.2.length=z.1.length by omega⟩
 rename_i hb;exact absurd h hb
theorem GrAll.to {G:GP} {x0:PX} {ps:List PX} {es:List (List EdgeD)} (h:GrAll G x0 ps es) {i:Int} (h0:0≤i) (h1:i<es.length):∀e∈nth es i,0≤e.to∧e.to<es.length:=fun e he=>by
 obtain⟨a,b,_⟩:=(h.ok.es i h0 h1).to e he;exact⟨a,by rw[h.len];exact b⟩
section
variable {fin:Int→Bool} {es:List (List EdgeD)}
def Jbx (fin:Int→Bool) (es:List (List EdgeD)):Nat→Int→Bool
 |0,i=>fin i
 |k+1,i=>Jbx fin es k i||(nth es i).any fun e=>Jbx fin es k e.to
theorem Jyn {k:Nat} {i:Int} (h:Jbx fin es k i=true):∀j,Jbx fin es (k+j) i=true
 |0=>h
 |j+1=>by
  show Jbx fin es (k+j+1) i=true;unfold Jbx;rw[Jyn h j];rfl
theorem J6p {k n:Nat} {i:Int} (h:Jbx fin es k i=true) (hn:k≤n):Jbx fin es n i=true:=by
 have:=Jyn h (n-k)
 rwa [show k+(n-k)=n by omega]at this
theorem Jit {k n:Nat} {i:Int} (h:Jbx fin es n i=false) (hn:k≤n):Jbx fin es k i=false:=by
 cases hk:Jbx fin es k i with
 |false=>rfl
 |true=>rw[J6p hk hn]at h;cases h
theorem Jga {k:Nat} {i:Int} {e:EdgeD} (he:e∈nth es i) (h:Jbx fin es k e.to=true):Jbx fin es (k+1) i=true:=by
 unfold Jbx;rw[Bool.or_eq_true];exact .inr (List.any_eq_true.2 ⟨e,he,h⟩)
theorem Jhj {k:Nat} {i:Int} (h:Jbx fin es (k+1) i=true):Jbx fin es k i=true∨∃e∈nth es i,Jbx fin es k e.to=true:=by
 unfold Jbx at h;rw[Bool.or_eq_true]at h;exact h.imp id fun h=>List.any_eq_true.1 h
def AtD (fin:Int→Bool) (es:List (List EdgeD)) (n:Nat) (i v:Int):Prop:=(v = -1∧Jbx fin es n i=false)∨(0≤v∧v≤n∧Jbx fin es v.toNat i=true∧∀k,k<v.toNat→Jbx fin es k i=false)
def DistAt (fin:Int→Bool) (es:List (List EdgeD)) (i v:Int):Prop:=(v = -1∧∀k,Jbx fin es k i=false)∨(0≤v∧Jbx fin es v.toNat i=true∧∀k,k<v.toNat→Jbx fin es k i=false)
structure IsD (fin:Int→Bool) (es:List (List EdgeD)) (d:List Int):Prop where
 len:d.length=es.length
 at_:∀i:Int,0≤i→i<es.length→DistAt fin es i (nth d i)
theorem DistAt.uniq {i v z:Int} (h:DistAt fin es i v) (h2:DistAt fin es i z):v=z:=by
 rcases h with⟨a,b⟩|⟨a,b,c⟩<;>rcases h2 with⟨a2,b2⟩|⟨a2,b2,c2⟩
 ·omega
 ·rw[b]at b2;cases b2
 ·rw[b2]at b;cases b
 rcases Nat.lt_trichotomy v.toNat z.toNat with h|h|h
 ·rw[c2 _ h]at b;cases b
 ·omega
 rw[c _ h]at b2;cases b2
theorem IsD.uniq {d d':List Int} (h:IsD fin es d) (h2:IsD fin es d'):d=d':=by
 refine Jzi (by rw[h.len,h2.len]) fun i h0 h1=>?_;rw[h.len]at h1;exact(h.at_ i h0 h1).uniq (h2.at_ i h0 h1)
theorem IsD.edge {d:List Int} (h:IsD fin es d) {i:Int} (h0:0≤i) (h1:i<es.length) {e:EdgeD} (he:e∈nth es i) (ht:0≤e.to∧e.to<es.length) (hd:0≤nth d e.to):0≤nth d i∧nth d i≤nth d e.to+1:=by
 rcases h.at_ e.to ht.1 ht.2 with⟨a,_⟩|⟨_,b,_⟩
 ·omega
 have h2:=Jga he b;rcases h.at_ i h0 h1 with⟨_,b2⟩|⟨a2,b2,c2⟩
 ·rw[b2]at h2;cases h2
 refine⟨a2,?_⟩
 by_cases hh:nth d i≤nth d e.to+1
 ·exact hh
 rw[c2 _ (by omega)]at h2;cases h2
theorem IsD.zero {d:List Int} (h:IsD fin es d) {i:Int} (h0:0≤i) (h1:i<es.length):nth d i=0↔fin i=true:=by
 rcases h.at_ i h0 h1 with⟨a,b⟩|⟨a,b,c⟩
 ·have:=b 0;unfold Jbx at this;rw[this,a];simp
 constructor
 ·intro e;rw[e]at b;exact b
 intro e
 by_cases hp:0<(nth d i).toNat
 ·have:=c 0 hp;unfold Jbx at this;rw[this]at e;cases e
 omega
structure Rnd (fin:Int→Bool) (es:List (List EdgeD)) (n:Nat) (i:Int) (d:List Int) (ch:Bool):Prop where
 len:d.length=es.length
 old:∀j:Int,i≤j→j<es.length→0≤j→AtD fin es n j (nth d j)
 new:∀j:Int,0≤j→j<i→j<es.length→AtD fin es (n+1) j (nth d j)
 same:ch=false→∀j:Int,0≤j→j<i→j<es.length→AtD fin es n j (nth d j)
theorem AtD.up {n:Nat} {i v:Int} (h:AtD fin es n i v) (h0:0≤v):AtD fin es (n+1) i v:=by
 rcases h with⟨a,_⟩|⟨a,b,c⟩
 ·omega
 exact .inr ⟨a,by omega,c⟩
theorem AtD.eqn {n:Nat} {i v:Int} (h:AtD fin es n i v) (hv:v=n):Jbx fin es n i=true∧∀k,k<n→Jbx fin es k i=false:=by
 rcases h with⟨a,_⟩|⟨a,b,c,d⟩
 ·omega
 have e:v.toNat=n:=by omega
 rw[e]at c d;exact⟨c,d⟩
theorem Rnd.any {n:Nat} {i j:Int} {d:List Int} {ch:Bool} (h:Rnd fin es n i d ch) (h0:0≤j) (h1:j<es.length):AtD fin es (n+1) j (nth d j)∨AtD fin es n j (nth d j):=by
 by_cases hj:j<i
 ·exact .inl (h.new j h0 hj h1)
 exact .inr (h.old j (by omega) h1 h0)
theorem Rnd.hit {n:Nat} {i:Int} {d:List Int} {ch:Bool} (h:Rnd fin es n i d ch) (h0:0≤i) (h1:i<es.length) (hn:nth d i<0) {e:EdgeD} (he:e∈nth es i) (ht:0≤e.to∧e.to<es.length) (hd:nth d e.to=n):Rnd fin es n (i+1) (d.set i.toNat (n+1)) true:=by
 have hd1:Jbx fin es n e.to=true:=by
  rcases h.any ht.1 ht.2 with q|q
  ·rcases q with⟨a,_⟩|⟨a,b,c,_⟩
   ·omega
   rwa [show(nth d e.to).toNat=n by omega]at c
  exact(q.eqn hd).1
 have hold:Jbx fin es n i=false:=by
  rcases h.old i (Int.le_refl i) h1 h0 with⟨_,b⟩|⟨a,_⟩
  ·exact b
  omega
 have hi:i<d.length:=by rw[h.len];exact h1
 refine⟨by rw[List.length_set];exact h.len,fun j a b c=>?_,fun j a b c=>?_,fun hc=>by cases hc⟩
 ·rw[Jaz h0 c (by omega)];exact h.old j (by omega) b c
 by_cases hj:j=i
 ·subst hj;rw[Jbv h0 hi];refine .inr ⟨by omega,by omega,?_,fun k hk=>Jit hold (by omega)⟩;rw[show((n:Int)+1).toNat=n+1 by omega];exact Jga he hd1
 rw[Jaz h0 a hj];exact h.new j a (by omega) c
theorem Rnd.old_ {n:Nat} {i:Int} {d:List Int} {ch:Bool} (h:Rnd fin es n i d ch) (h0:0≤i) (h1:i<es.length) (hn:0≤nth d i):Rnd fin es n (i+1) d ch:=by
 refine⟨h.len,fun j a b c=>h.old j (by omega) b c,fun j a b c=>?_,fun hc j a b c=>?_⟩
 ·by_cases hj:j=i
  ·subst hj;exact(h.old j (Int.le_refl j) h1 h0).up hn
  exact h.new j a (by omega) c
 by_cases hj:j=i
 ·subst hj;exact h.old j (Int.le_refl j) h1 h0
 exact h.same hc j a (by omega) c
theorem Rnd.miss {n:Nat} {i:Int} {d:List Int} {ch:Bool} (h:Rnd fin es n i d ch) (h0:0≤i) (h1:i<es.length) (hn:nth d i<0) (ht:∀e∈nth es i,0≤e.to∧e.to<es.length) (hd:∀e∈nth es i,nth d e.to≠n):Rnd fin es n (i+1) d ch:=by
 have hold:nth d i = -1∧Jbx fin es n i=false:=by
  rcases h.old i (Int.le_refl i) h1 h0 with h|⟨a,_⟩
  ·exact h
  omega
 have hnew:Jbx fin es (n+1) i=false:=by
  cases hq:Jbx fin es (n+1) i with
  |false=>rfl
  |true=>
   rcases Jhj hq with q|⟨e,he,q⟩
   ·rw[hold.2]at q;cases q
   exfalso;obtain⟨t0,t1⟩:=ht e he;have hne:=hd e he
   have key:0≤nth d e.to∧nth d e.to<n∧Jbx fin es (nth d e.to).toNat e.to=true:=by
    rcases h.any t0 t1 with w|w
    ·rcases w with⟨_,b⟩|⟨a,b,c,d'⟩
     ·rw[Jit b (Nat.le_succ n)]at q;cases q
     refine⟨a,?_,c⟩;have:¬n<(nth d e.to).toNat:=fun hk=>by rw[d' n hk]at q;cases q
     omega
    rcases w with⟨_,b⟩|⟨a,b,c,_⟩
    ·rw[b]at q;cases q
    exact⟨a,by omega,c⟩
   have h2:=Jga he key.2.2;rw[Jit hold.2 (by omega)]at h2;cases h2
 refine⟨h.len,fun j a b c=>h.old j (by omega) b c,fun j a b c=>?_,fun hc j a b c=>?_⟩
 ·by_cases hj:j=i
  ·subst hj;exact .inl ⟨hold.1,hnew⟩
  exact h.new j a (by omega) c
 by_cases hj:j=i
 ·subst hj;exact .inl hold
 exact h.same hc j a (by omega) c
theorem Rnd.next {n:Nat} {d:List Int} {ch:Bool} (h:Rnd fin es n es.length d ch):Rnd fin es (n+1) 0 d false:=
 ⟨h.len,fun j a b c=>h.new j c b b,fun j a b=>by omega,fun _ j a b=>by omega⟩
theorem Rnd.done {n:Nat} {d:List Int} (h:Rnd fin es n es.length d false) (hes:∀i:Int,0≤i→i<es.length→∀e∈nth es i,0≤e.to∧e.to<es.length):IsD fin es d:=by
 have hst:∀j:Int,0≤j→j<es.length→Jbx fin es n j=false→Jbx fin es (n+1) j=false:=fun j h0 h1 hf=>by
  rcases h.new j h0 h1 h1 with⟨_,b⟩|⟨a,b,c,_⟩
  ·exact b
  rcases h.same rfl j h0 h1 h1 with⟨a2,_⟩|⟨a2,b2,c2,_⟩
  ·omega
  rw[Jit hf (by omega)]at c2;cases c2
 have hall:∀k:Nat,∀j:Int,0≤j→j<es.length→Jbx fin es n j=false→Jbx fin es (n+k) j=false:=by
  intro k
  induction k with
  |zero=>exact fun j _ _ h=>h
  |succ k ih=>
   intro j h0 h1 hf;cases hq:Jbx fin es (n+(k+1)) j with
   |false=>rfl
   |true=>
    exfalso;rcases Jhj (k:=n+k) hq with q|⟨e,he,q⟩
    ·rw[ih j h0 h1 hf]at q;cases q
    obtain⟨t0,t1⟩:=hes j h0 h1 e he;cases hz:Jbx fin es n e.to with
    |false=>rw[ih e.to t0 t1 hz]at q;cases q
    |true=>
     have h3:=Jga he hz;rw[hst j h0 h1 hf]at h3;cases h3
 refine⟨h.len,fun i h0 h1=>?_⟩;rcases h.same rfl i h0 h1 h1 with⟨a,b⟩|⟨a,_,c⟩
 ·refine .inl ⟨a,fun k=>?_⟩
  by_cases hk:k≤n
  ·exact Jit b hk
  have:=hall (k-n) i h0 h1 b
  rwa [show n+(k-n)=k by omega]at this
 exact .inr ⟨a,c⟩
structure Bfs (fin:Int→Bool) (es:List (List EdgeD)) (d q:List Int) (h:Nat):Prop where
 len:d.length=es.length
 mem:∀i:Int,0≤i→i<es.length→(nth d i = -1∧i∉q)∨(0≤nth d i∧i∈q)
 rng:∀i∈q,0≤i∧i<es.length
 nd:q.Nodup
 ok:∀i∈q,Jbx fin es (nth d i).toNat i=true∧∀k,k<(nth d i).toNat→Jbx fin es k i=false
 srt:∀a b:Int,0≤a→a≤b→b<q.length→nth d (nth q a)≤nth d (nth q b)
 bnd:∀a:Int,0≤a→a<q.length→nth d (nth q a)≤a
 top:h<q.length→∀a:Int,0≤a→a<q.length→nth d (nth q a)≤nth d (nth q h)+1
 far:h<q.length→∀i:Int,0≤i→i<es.length→i∉q→Jbx fin es (nth d (nth q h)).toNat i=false
 fin0:∀i:Int,0≤i→i<es.length→fin i=true→i∈q
 pre:∀a:Int,0≤a→a<h→∀i:Int,0≤i→i<es.length→(∃e∈nth es i,e.to=nth q a)→i∈q
 hq:h≤q.length
theorem Jrt:∀{n:Nat} {q:List Int},q.Nodup→(∀i∈q,0≤i∧i<n)→q.length≤n
 |0,q,hn,h=>by
  cases q with
  |nil=>simp
  |cons a l=>
   have:=h a (by simp);omega
 |n+1,q,hn,h=>by
  have h1:=Jrt (n:=n) (hn.erase (n:Int)) (fun i hi=>by
   obtain⟨a,b⟩:=(hn.mem_erase_iff).1 hi;have:=h i b
   omega)
  rw[List.length_erase]at h1;split at h1<;>omega
theorem Bfs.add {d q:List Int} {h:Nat} (H:Bfs fin es d q h) (hh:h<q.length) {i:Int} (h0:0≤i) (h1:i<es.length) (hd:nth d i<0) (he:∃e∈nth es i,e.to=nth q h):Bfs fin es (d.set i.toNat (nth d (nth q h)+1)) (q++[i]) h:=by
 have hni:i∉q:=by
  rcases H.mem i h0 h1 with⟨_,b⟩|⟨a,_⟩
  ·exact b
  omega
 have hdl:i<d.length:=by rw[H.len];exact h1
 have hqh:nth q h∈q:=Jac (by omega) (by omega);obtain⟨z0,z1⟩:=H.rng _ hqh
 have hz:0≤nth d (nth q h):=by
  rcases H.mem _ z0 z1 with⟨_,b⟩|⟨a,_⟩
  ·exact absurd hqh b
  exact a
 have hds:∀j∈q,nth (d.set i.toNat (nth d (nth q h)+1)) j=nth d j:=fun j hj=>Jaz h0 (H.rng j hj).1 fun e=>hni (e▸hj);have hdi:nth (d.set i.toNat (nth d (nth q h)+1)) i=nth d (nth q h)+1:=Jbv h0 hdl;have hl:∀a:Int,0≤a→a<q.length→nth (q++[i]) a=nth q a:=fun a a0 a1=>Jf1 a0 a1;have hla:∀a:Int,0≤a→a<q.length→nth (d.set i.toNat (nth d (nth q h)+1)) (nth (q++[i]) a)=nth d (nth q a):=fun a a0 a1=>by rw[hl a a0 a1,hds _ (Jac a0 a1)]
 have hlb:nth (d.set i.toNat (nth d (nth q h)+1)) (nth (q++[i]) q.length)=nth d (nth q h)+1:=by rw[Jpq rfl,hdi]
 refine⟨by rw[List.length_set];exact H.len,fun j j0 j1=>?_,fun j hj=>?_,?_,fun j hj=>?_,fun a b a0 ab b1=>?_,fun a a0 a1=>?_,fun _ a a0 a1=>?_,fun _ j j0 j1 hj=>?_,fun j j0 j1 hf=>List.mem_append_left _ (H.fin0 j j0 j1 hf),fun a a0 a1 j j0 j1 hj=>?_,by simp;omega⟩
 ·by_cases hj:j=i
  ·subst hj;rw[hdi];exact .inr ⟨by omega,by simp⟩
  rw[Jaz h0 j0 hj];rcases H.mem j j0 j1 with⟨a,b⟩|⟨a,b⟩
  ·exact .inl ⟨a,by simp[b,hj]⟩
  exact .inr ⟨a,by simp[b]⟩
 ·rcases List.mem_append.1 hj with hj|hj
  ·exact H.rng j hj
  rw[List.mem_singleton.1 hj];exact⟨h0,h1⟩
 ·rw[List.nodup_append];refine⟨H.nd,by simp,fun a ha b hb=>?_⟩;rw[List.mem_singleton]at hb;subst hb;exact fun e=>hni (e▸ha)
 ·rcases List.mem_append.1 hj with hj|hj
  ·rw[hds j hj];exact H.ok j hj
  rw[List.mem_singleton.1 hj,hdi];obtain⟨e,he,ht⟩:=he;have h2:=(H.ok _ hqh).1;rw[←ht]at h2;have e1:(nth d (nth q h)+1).toNat=(nth d e.to).toNat+1:=by rw[ht];omega
  rw[e1];refine⟨Jga he h2,fun k hk=>?_⟩;refine Jit (H.far hh i h0 h1 hni) ?_;rw[ht]at hk;omega
 ·simp only[List.length_append,List.length_singleton]at b1
  by_cases hb:b<q.length
  ·rw[hla a a0 (by omega),hla b (by omega) hb];exact H.srt a b a0 ab hb
  have eb:b=q.length:=by omega
  subst eb
  by_cases ha:a<q.length
  ·rw[hla a a0 ha,hlb];exact H.top hh a a0 ha
  rw[show a=q.length by omega];exact Int.le_refl _
 ·simp only[List.length_append,List.length_singleton]at a1
  by_cases ha:a<q.length
  ·rw[hla a a0 ha];exact H.bnd a a0 ha
  rw[show a=q.length by omega,hlb];have:=H.bnd h (by omega) (by omega);omega
 ·simp only[List.length_append,List.length_singleton]at a1;rw[hla h (by omega) (by omega)]
  by_cases ha:a<q.length
  ·rw[hla a a0 ha];exact H.top hh a a0 ha
  rw[show a=q.length by omega,hlb];exact Int.le_refl _
 ·rw[hla h (by omega) (by omega)];exact H.far hh j j0 j1 fun hq=>hj (List.mem_append_left _ hq)
 rw[hl a a0 (by omega)]at hj;exact List.mem_append_left _ (H.pre a a0 a1 j j0 j1 hj)
theorem Bfs.next {d q:List Int} {h:Nat} (H:Bfs fin es d q h) (hh:h<q.length) (hes:∀i:Int,0≤i→i<es.length→∀e∈nth es i,0≤e.to∧e.to<es.length)
  (hp:∀i:Int,0≤i→i<es.length→(∃e∈nth es i,e.to=nth q h)→i∈q):Bfs fin es d q (h+1):=by
 have hpre:∀a:Int,0≤a→a<((h+1:Nat):Int)→∀i:Int,0≤i→i<es.length→(∃e∈nth es i,e.to=nth q a)→i∈q:=fun a a0 a1 i i0 i1 he=>by
  by_cases ha:a<h
  ·exact H.pre a a0 ha i i0 i1 he
  rw[show a=(h:Int) by omega]at he;exact hp i i0 i1 he
 refine⟨H.len,H.mem,H.rng,H.nd,H.ok,H.srt,H.bnd,fun h2 a a0 a1=>?_,fun h2 i i0 i1 hi=>?_,H.fin0,hpre,by omega⟩
 ·have h3:=H.srt h (h+1:Nat) (by omega) (by omega) (by omega);have h4:=H.top hh a a0 a1;omega
 have h3:=H.srt h (h+1:Nat) (by omega) (by omega) (by omega);have h4:=H.top hh (h+1:Nat) (by omega) (by omega);have h5:=H.far hh i i0 i1 hi;have hqh:nth q h∈q:=Jac (by omega) (by omega);have hqn:nth q ((h+1:Nat):Int)∈q:=Jac (by omega) (by omega)
 have hz:0≤nth d (nth q h):=by
  rcases H.mem _ (H.rng _ hqh).1 (H.rng _ hqh).2 with⟨_,b⟩|⟨a,_⟩
  ·exact absurd hqh b
  exact a
 by_cases hs:nth d (nth q ((h+1:Nat):Int))=nth d (nth q h)
 ·rw[hs];exact h5
 cases hq:Jbx fin es (nth d (nth q ((h+1:Nat):Int))).toNat i with
 |false=>rfl
 |true=>
  exfalso;rw[show(nth d (nth q ((h+1:Nat):Int))).toNat=(nth d (nth q h)).toNat+1 by omega]at hq;rcases Jhj hq with w|⟨e,he,w⟩
  ·rw[h5]at w;cases w
  obtain⟨t0,t1⟩:=hes i i0 i1 e he;rcases H.mem e.to t0 t1 with⟨_,b⟩|⟨a,b⟩
  ·rw[H.far hh e.to t0 t1 b]at w;cases w
  obtain⟨j,j0,j1,hj⟩:∃j:Int,0≤j∧j<q.length∧nth q j=e.to:=by
   obtain⟨n,hn,e2⟩:=List.getElem_of_mem b;exact⟨n,by omega,by omega,by simp[nth,List.getD,hn,e2]⟩
  have hdl:nth d e.to≤nth d (nth q h):=by
   by_cases hle:nth d e.to≤nth d (nth q h)
   ·exact hle
   rw[(H.ok _ b).2 _ (show(nth d (nth q h)).toNat<(nth d e.to).toNat by omega)]at w;cases w
  have hjh:j<((h+1:Nat):Int):=by
   by_cases hlt:j<((h+1:Nat):Int)
   ·exact hlt
   have h6:=H.srt ((h+1:Nat):Int) j (by omega) (by omega) j1;rw[hj]at h6;omega
  exact hi (hpre j j0 hjh i i0 i1 ⟨e,he,hj.symm⟩)
theorem Bfs.done {d q:List Int} {h:Nat} (H:Bfs fin es d q h) (hh:h=q.length) (hes:∀i:Int,0≤i→i<es.length→∀e∈nth es i,0≤e.to∧e.to<es.length):IsD fin es d:=by
 have hall:∀k:Nat,∀i:Int,0≤i→i<es.length→i∉q→Jbx fin es k i=false:=by
  intro k
  induction k with
  |zero=>
   intro i i0 i1 hi;cases hf:Jbx fin es 0 i with
   |false=>rfl
   |true=>exact absurd (H.fin0 i i0 i1 hf) hi
  |succ k ih=>
   intro i i0 i1 hi;cases hf:Jbx fin es (k+1) i with
   |false=>rfl
   |true=>
    exfalso;rcases Jhj hf with w|⟨e,he,w⟩
    ·rw[ih i i0 i1 hi]at w;cases w
    obtain⟨t0,t1⟩:=hes i i0 i1 e he
    by_cases b:e.to∈q
    ·obtain⟨n,hn,e2⟩:=List.getElem_of_mem b;exact hi (H.pre n (by omega) (by omega) i i0 i1 ⟨e,he,by simp[nth,List.getD,hn,e2]⟩)
    rw[ih e.to t0 t1 b]at w;cases w
 refine⟨H.len,fun i i0 i1=>?_⟩;rcases H.mem i i0 i1 with⟨a,b⟩|⟨a,b⟩
 ·exact .inl ⟨a,fun k=>hall k i i0 i1 b⟩
 exact .inr ⟨a,H.ok i b⟩
end
end Go.Proofs.YtmoojmgihdgceaaGreatDoor
namespace Go.Proofs.YtmoojmgihdgceaaGreatDoor
set_option linter.unusedVariables false
set_option linter.unusedSimpArgs false
open Go.RowKit Go.Proofs Go.MapKept
structure Task where
 k:Int
 n:Int
 a:Int
 deriving Inhabited,DecidableEq
abbrev wr (n:Int):Int:=IntKind.i64.wrap n
def canT (r:Room) (f x:P3) (at_:Int) (t:Task):Bool:=
 if t.k=1 then(decide (t.a=0)&&(decide (0≤t.n)&&decide (t.n≤(r.wys.l.length:Int)-1)))&&(decide ((nth r.wys.l t.n).a=at_)||decide ((nth r.wys.l t.n).b=at_))
 else if t.k=2 then(decide (0≤t.n)&&decide (t.n≤(r.ths.l.length:Int)-1))&&((decide ((nth r.ths.l t.n).pl=at_)&&(decide (0≤t.a)&&decide (t.a≤(nth r.ths.l t.n).st-1)))&&!decide (nth x.1 t.n=t.a))
 else if t.k=3 then((decide (t.a=0)&&(decide (0≤t.n)&&decide (t.n≤(r.prs.l.length:Int)-1)))&&!decide (nth x.2.1 t.n=nth f.2.1 t.n))&&(decide (nth f.2.1 t.n = -1)||(decide (nth f.2.1 t.n=at_)&&(HoldsV r x (nth r.prs.l t.n).wh.l).2))
 else false
def doT (r:Room) (f x:P3) (at_:Int) (t:Task):P3×Int:=
 if t.k=1 then(x,wr (wr ((nth r.wys.l t.n).a+(nth r.wys.l t.n).b)-at_))
 else if t.k=2 then((x.1.set t.n.toNat t.a,x.2),at_)
 else if t.k=3 then((x.1,x.2.1.set t.n.toNat (nth f.2.1 t.n),x.2.2),at_)
 else(x,at_)
def Jyo (r:Room) (f:P3):P3×Int→List Task→Option (P3×Int)
 |s,[]=>some s
 |s,t::l=>if canT r f s.1 s.2 t=true then Jyo r f (doT r f s.1 s.2 t) l else none
structure Len3 (r:Room) (x:P3):Prop where
 th:x.1.length=r.ths.l.length
 pr:x.2.1.length=r.prs.l.length
 bt:∀i:Int,0≤i→i<x.1.length→-1000≤nth x.1 i∧nth x.1 i≤1000
 bp:∀i:Int,0≤i→i<x.2.1.length→-1000≤nth x.2.1 i∧nth x.2.1 i≤1000
abbrev AtB (a:Int):Prop:= -9223372036854775808≤a∧a≤9223372036854775807
theorem Kfy (n:Int):AtB (wr n):=by
 unfold AtB wr;rw[IntKind.wrap_i64];omega
theorem J5b {r:Room} {x:Thing} (h:thB r x=true):2≤x.st∧x.st≤6:=by
 simp only[thB,Bool.and_eq_true,decide_eq_true_eq]at h;omega
theorem J54 {l:List Int} {n:Int} {v:Int} (h:∀i:Int,0≤i→i<l.length→-1000≤nth l i∧nth l i≤1000) (hv: -1000≤v∧v≤1000):∀i:Int,0≤i→i<(l.set n.toNat v).length→-1000≤nth (l.set n.toNat v) i∧nth (l.set n.toNat v) i≤1000:=fun i h0 h1=>by
 rw[List.length_set]at h1
 have e:nth (l.set n.toNat v) i=v∨nth (l.set n.toNat v) i=nth l i:=by
  unfold nth;rw[List.getD_eq_getElem?_getD,List.getD_eq_getElem?_getD,List.getElem?_set];split
  ·split
   ·exact .inl rfl
   exact .inr (by rw[List.getElem?_eq_none (by omega)])
  exact .inr rfl
 rcases e with e|e
 ·rw[e];exact hv
 rw[e];exact h i h0 h1
theorem Len3.doT {r:Room} {f x:P3} {a:Int} {t:Task} (h:Len3 r x) (hf:Len3 r f) (hR:Ready r) (hc:canT r f x a t=true):Len3 r (doT r f x a t).1:=by
 obtain⟨h1,h2,h3,h4⟩:=h;unfold YtmoojmgihdgceaaGreatDoor.doT;unfold canT at hc
 by_cases k1:t.k=1
 ·rw[if_pos k1];exact⟨h1,h2,h3,h4⟩
 by_cases k2:t.k=2
 ·rw[if_neg k1,if_pos k2]at hc⊢;simp only[Bool.and_eq_true,decide_eq_true_eq]at hc;have hst:=J5b (hR.ths _ (Jac hc.1.1 (show t.n<(r.ths.l.length:Int) by omega)));exact⟨by rw[List.length_set];exact h1,h2,J54 h3 (by omega),h4⟩
 by_cases k3:t.k=3
 ·rw[if_neg k1,if_neg k2,if_pos k3]at hc⊢;simp only[Bool.and_eq_true,decide_eq_true_eq]at hc;exact⟨h1,by rw[List.length_set];exact h2,h3,J54 h4 (hf.bp t.n (by omega) (by rw[hf.pr];omega))⟩
 rw[if_neg k1,if_neg k2,if_neg k3];exact⟨h1,h2,h3,h4⟩
theorem Kdk {r:Room} {f x:P3} {a:Int} {t:Task} (h:AtB a):AtB (doT r f x a t).2:=by
 unfold doT
 repeat' split
 ·exact Kfy _
 all_goals exact h
theorem Kax {r:Room} {f x:P3} {a:Int} {t:Task}:(doT r f x a t).1.2.2=x.2.2:=by
 unfold doT
 repeat' split
 all_goals rfl
structure Stand where
 z:Stt
 at_:Int
 bf:Int
 tk:Task
 deriving Inhabited
def Stand.s (s:Stand):P3×Int:=(s.z.x,s.at_)
structure Reach (r:Room) (f x0:P3) (ss:List Stand):Prop where
 ne:0<ss.length
 first:(nth ss 0).s=(x0,0)
 len:∀i:Int,0≤i→i<ss.length→Len3 r (nth ss i).z.x∧(nth ss i).z.x.2.2=x0.2.2∧AtB (nth ss i).at_
 step:∀i:Int,1≤i→i<ss.length→(0≤(nth ss i).bf∧(nth ss i).bf<i)∧canT r f (nth ss (nth ss i).bf).z.x (nth ss (nth ss i).bf).at_ (nth ss i).tk=true∧(nth ss i).s=doT r f (nth ss (nth ss i).bf).z.x (nth ss (nth ss i).bf).at_ (nth ss i).tk
theorem Reach.one {r:Room} {f:P3} {s:Stand} (h:Len3 r s.z.x) (h0:s.at_=0):Reach r f s.z.x [s]:=
 ⟨by simp,by unfold Stand.s;rw[show nth [s] 0=s from rfl,h0],fun i i0 i1=>by
  have:i=0:=by simp at i1;omega
  subst this;exact⟨h,rfl,by rw[show(nth [s] 0).at_=s.at_ from rfl,h0];decide⟩,fun i i0 i1=>by simp at i1;omega⟩
theorem Jeu {α:Type} [Inhabited α] {l:List α} {x:α} {i:Int} (h0:0≤i) (h1:i<l.length):nth (l++[x]) i=nth l i:=Jy2 h1 h0
theorem Jlv {α:Type} [Inhabited α] {l:List α} {x:α} {i:Int} (h:i=l.length):nth (l++[x]) i=x:=by
 rw[Jya (by omega),h,Int.sub_self];rfl
theorem Reach.snoc {r:Room} {f x0:P3} {ss:List Stand} {y:Stand} (h:Reach r f x0 ss) (hf:Len3 r f) (hR:Ready r) {i:Int} (h0:0≤i) (h1:i<ss.length) (hb:y.bf=i) (hc:canT r f (nth ss i).z.x (nth ss i).at_ y.tk=true) (hs:y.s=doT r f (nth ss i).z.x (nth ss i).at_ y.tk):Reach r f x0 (ss++[y]):=by
 have hz:y.z.x=(doT r f (nth ss i).z.x (nth ss i).at_ y.tk).1:=congrArg Prod.fst hs;have hz2:y.at_=(doT r f (nth ss i).z.x (nth ss i).at_ y.tk).2:=congrArg Prod.snd hs;have hl:=h.len i h0 h1;refine⟨by simp,by rw[Jeu (Int.le_refl 0) (by have:=h.ne;omega)];exact h.first,fun j j0 j1=>?_,fun j j0 j1=>?_⟩
 ·by_cases hj:j<ss.length
  ·rw[Jeu j0 hj];exact h.len j j0 hj
  rw[Jlv (by simp at j1;omega),hz,hz2];exact⟨hl.1.doT hf hR hc,by rw[Kax];exact hl.2.1,Kdk hl.2.2⟩
 by_cases hj:j<ss.length
 ·obtain⟨a1,a2,a3⟩:=h.step j j0 hj;rw[Jeu (by omega) hj,Jeu a1.1 (by omega)];exact⟨a1,a2,a3⟩
 rw[Jlv (by simp at j1;omega),hb,Jeu h0 h1];exact⟨⟨h0,by simp at j1;omega⟩,hc,hs⟩
theorem Reach.back {r:Room} {f x0:P3} {ss:List Stand} (h:Reach r f x0 ss) {i:Int} (h0:1≤i) (h1:i<ss.length) {out:List Task} {z:P3×Int} (hp:Jyo r f (nth ss i).s out.reverse=some z):
  Jyo r f (nth ss (nth ss i).bf).s (out++[(nth ss i).tk]).reverse=some z:=by
 obtain⟨a1,a2,a3⟩:=h.step i h0 h1;rw[List.reverse_append];show Jyo r f _ ((nth ss i).tk::out.reverse)=some z;unfold Jyo;have e1:canT r f (nth ss (nth ss i).bf).s.1 (nth ss (nth ss i).bf).s.2 (nth ss i).tk=true:=a2;rw[if_pos e1];rw[a3]at hp;exact hp
structure MapS (es:Array MapEntry):Prop where
 num:∀e∈es.toList,(∃s,e.key = .string s)∧∃v,e.val = .int .i64 v
section
variable {P:Program} {ro:Option Nat} {n0:Nat} {w0:World} {ds:List Deferred} {ops:Array Oper} {Q:Exit→Act→World→Prop} {L L':List SA} {rest:List Oper} {l:List Value} {ty:TypeId} {ps:String} {af:Array Edge}
 {T K E:TypeId} {x y z:Operand} {b j:Nat} {v:Int} {d:Option Tmp} {g:Option (Nat×Bool)} {t:ByteArray}
theorem MapS.keys {es:Array MapEntry} (h:MapS es):∀x∈es.toList,IsKey .string x.key:=fun x hx=>by
 obtain⟨⟨s,hs⟩,_⟩:=h.num x hx;rw[hs];trivial
theorem MapS.push {es:Array MapEntry} (h:MapS es) (t:ByteArray) (v:Int) (c:Nat):MapS (es.push ⟨.string t,.int .i64 v,c⟩):=⟨fun e he=>by
 rw[Array.toList_push,List.mem_append,List.mem_singleton]at he;rcases he with he|rfl
 ·exact h.num e he
 exact⟨⟨t,rfl⟩,v,rfl⟩⟩
theorem WS.callE {β:Type} {f:Operand} {args:List Operand} {ts:Array TypeId} {fn:FuncId} {cap:List Value} {vs:List Value} {v:β→Value} {p:β→Prop} {i:Nat} {l':β→List Value}
  (hf:evo l f=some (.func (.func fn) #[] cap.toArray)) (hv:evs l args=some vs) (he:Ent P fn)
  (hc:∀u,St n0 w0 L u→Calls P fn (vs++cap).toArray u (fun e u'=>∃x,p x∧RetB u (v x) e u'))
  (hl:∀x,lset l i (v x)=some (l' x)) (k:∀x,p x→WS P ro n0 w0 ds ops Q L rest (l' x)):
  WS P ro n0 w0 ds ops Q L (⟨some i,.call ⟨.value f,args.toArray,ts⟩,ty,ps,af,none⟩::rest) l:=
 WS.callS (L':=fun _=>L) hf hv he (fun u hu=>(hc u hu).mono fun e u' ⟨x,h1,h2,h3⟩=>⟨x,h1,h2,hu.ext h3⟩) hl k
variable {α:Type} [Inhabited α] {C:Cel α}
end
end Go.Proofs.YtmoojmgihdgceaaGreatDoor
namespace Go.Proofs.YtmoojmgihdgceaaGreatDoor
set_option linter.unusedVariables false
set_option linter.unusedSimpArgs false
open Go.RowKit Go.Proofs
def olst {α:Type} (f:α→Value) (e:TypeId) (v:Value) (xs:List α):SA:=osl e 1 v xs.length (xs.map f)
def lol {α:Type} (f:α→Value) (e:TypeId) (pl:List (Value×List α)):List SA:=pl.map fun p=>olst f e p.1 p.2
section
variable {α:Type} {f:α→Value}
theorem Jtc {e:TypeId} {pl:List (Value×List α)} {i:Nat} {p:Value×List α} (h:pl[i]? = some p):(lol f e pl).Perm (olst f e p.1 p.2::lol f e (pl.eraseIdx i)):=by
 have h1:(lol f e pl)[i]? = some (olst f e p.1 p.2):=by simp[lol,h]
 have h2:=Jd6 h1;have h3:(lol f e pl).eraseIdx i=lol f e (pl.eraseIdx i):=by simp[lol,Jhx]
 rwa [h3]at h2
section
variable {P:Program} {ro:Option Nat} {n0:Nat} {w0:World} {ds:List Deferred} {ops:Array Oper} {Q:Exit→Act→World→Prop} {L:List SA}
 {rest:List Oper} {l:List Value} {d:Option Tmp} {ty:TypeId} {ps:String} {af:Array Edge} {g:Option (Nat×Bool)} {C:World→Prop}
theorem St.focusL {e:TypeId} {pl:List (Value×List α)} {i j:Nat} {p:Value×List α} (hj:L[j]? = some (YtmoojmgihdgceaaGreatDoor.star (lol f e pl))) (h:pl[i]? = some p) {u:World}:
  St n0 w0 L u↔St n0 w0 (olst f e p.1 p.2::YtmoojmgihdgceaaGreatDoor.star (lol f e (pl.eraseIdx i))::L.eraseIdx j) u:=by
 constructor
 ·intro hu;have h1:=(hu.perm (Jd6 hj)).unpack;have h2:=h1.perm (List.Perm.append_right _ (Jtc h));exact((h2.perm (List.perm_middle (l₁:=lol f e (pl.eraseIdx i))).symm).pack).perm (.swap _ _ _)
 intro hu;have h1:=(hu.perm (.swap _ _ _)).unpack;have h2:=h1.perm (List.perm_middle (l₁:=lol f e (pl.eraseIdx i)));have h3:St n0 w0 ((olst f e p.1 p.2::lol f e (pl.eraseIdx i))++L.eraseIdx j) u:=h2;exact((h3.perm (List.Perm.append_right _ (Jtc h).symm)).pack).perm (Jd6 hj).symm
theorem WS.appendAtL {T e:TypeId} {by_ t j i:Nat} {x y:Operand} {p:Value×List α} {z zc:Value} {a:α} {pl:List (Value×List α)} (hT:sl P T=some (e,1,by_)) (hz:zv P e=some [zc])
  (hx:evo l x=some p.1) (hj:L[j]? = some (star (lol f e pl))) (hi:pl[i]? = some p) (hy:evo l y=some z) (hn:∀u,St n0 w0 L u→SlC u z 1 1 [f a]) (h1:(f a).oneCell'=true)
  (hb:(p.2.length+1)*by_≤140737488355328) (hm:p.2.length+1≤9223372036854775807)
  {l':Value→List Value} (hl:∀v,lset l t v=some (l' v)) {L':Value→List SA} (hL:∀v',lset L j (star (lol f e (pl.set i (v',p.2++[a]))))=some (L' v')) (k:∀v',v'.oneCell'=true→WS P ro n0 w0 ds ops Q (L' v') rest (l' v')):
  WS P ro n0 w0 ds ops Q L (⟨some t,.call ⟨.builtin .append,#[x,y],#[T,T]⟩,ty,ps,af,none⟩::rest) l:=by
 refine WS.weak (fun u hu=>(St.focusL hj hi).1 hu) ?_;refine WS.append (j:=0) (m:=1) (n:=p.2.length) (xs:=p.2.map f) hT hz rfl Nat.one_pos hx rfl hy (fun u hu=>hn u ((St.focusL hj hi).2 hu)) (by simpa using h1) hm hb hl (fun _=>rfl) fun v'=>?_;refine WS.oc (j:=0) rfl fun hv=>?_;refine WS.weak (fun u hu=>?_) (k v' hv);have hjl:=(List.getElem?_eq_some_iff.1 hj).1;have hil:=(List.getElem?_eq_some_iff.1 hi).1;have h1:L' v'=L.set j (star (lol f e (pl.set i (v',p.2++[a])))):=(Jaj (hL v')).symm;rw[h1];have a1:(L.set j (YtmoojmgihdgceaaGreatDoor.star (lol f e (pl.set i (v',p.2++[a])))))[j]? = some (YtmoojmgihdgceaaGreatDoor.star (lol f e (pl.set i (v',p.2++[a])))):=List.getElem?_set_self hjl;have a2:(pl.set i (v',p.2++[a]))[i]? = some (v',p.2++[a]):=List.getElem?_set_self hil;refine(St.focusL a1 a2).2 ?_;have e1:(pl.set i (v',p.2++[a])).eraseIdx i=pl.eraseIdx i:=List.eraseIdx_set_eq ..;have e2:(L.set j (star (lol f e (pl.set i (v',p.2++[a]))))).eraseIdx j=L.eraseIdx j:=List.eraseIdx_set_eq ..;rw[e1,e2];unfold olst
 simpa using hu
theorem St.nilsL {e:TypeId} {u:World} (h:St n0 w0 L u):∀n:Nat,St n0 w0 (YtmoojmgihdgceaaGreatDoor.star (lol f e (List.replicate n (.slice none 0 0,[])))::L) u
 |0=>St.pack (L1:=[]) h
 |n+1=>by
  have h1:=(St.nilsL (e:=e) h n).unpack;have h2:=h1.osl0 (e:=e) (size:=1);exact St.pack (L1:=lol f e (List.replicate (n+1) (.slice none 0 0,[]))) h2
theorem WS.makeListsL {T te e:TypeId} {by_ i:Nat} {x y:Operand} {n:Int} (hT:sl P T=some (te,1,by_)) (hx:evo l x=some (.int .i64 n)) (hy:evo l y=some (.int .i64 n)) (hz:zv P te=some [.slice none 0 0])
  (h0:0≤n) (hb:(by_:Int)*n≤281474976710656) (hm:n≤9223372036854775807)
  {l':Value→List Value} (hl:∀v,lset l i v=some (l' v)) (k:∀v,v.oneCell'=true→WS P ro n0 w0 ds ops Q (osl te 1 v ((List.replicate n.toNat ((Value.slice none 0 0,[]):Value×List α)).map (·.1)).length ((List.replicate n.toNat ((Value.slice none 0 0,[]):Value×List α)).map (·.1))::star (lol f e (List.replicate n.toNat (.slice none 0 0,[])))::L) rest (l' v)):
  WS P ro n0 w0 ds ops Q L (⟨some i,.makeSlice T x y,ty,ps,af,none⟩::rest) l:=by
 refine WS.weak (fun u hu=>St.nilsL (f:=f) (e:=e) hu n.toNat) ?_;refine WS.makeSlice (z:=e) hT hx hy hz rfl h0 rfl hb hm hl fun v=>?_
 have e1:(List.replicate n.toNat [Value.slice none 0 0]).flatten=(List.replicate n.toNat ((Value.slice none 0 0,[]):Value×List α)).map (·.1):=by
  generalize n.toNat=m
  induction m with
  |zero=>rfl
  |succ m ih=>simp[List.replicate_succ]
 rw[e1];refine WS.oc (j:=0) rfl fun hv=>?_;have:=k v hv
 simpa using this
theorem Star.olst {L:List SA} {S:Nat→Prop} {u:World} {e:TypeId} {v:Value} {xs:List α} {j:Nat} (hj:L[j]? = some (YtmoojmgihdgceaaGreatDoor.olst f e v xs)) (h:Star L S u):SlC u v xs.length 1 (xs.map f):=by
 obtain⟨T,_,h2⟩:=h.get hj;exact Jbh h2.2
end
end
structure ChB (u:World) (b:Nat) (e:TypeId) (rows:List (List Bool)) (N:Int) (rv:Value) (gs:List Value):Prop where
 bk:BlkAt u b [rv,.int .i64 N] e
 sp:SlC u rv rows.length 1 gs
 el:∀i:Int,0≤i→i<rows.length→SlC u (nth gs i) (nth rows i).length 1 ((nth rows i).map Value.bool)
theorem ChB.ext {w u:World} {b:Nat} {e:TypeId} {rows:List (List Bool)} {N:Int} {rv:Value} {gs:List Value} (h:ChB w b e rows N rv gs) (hb:Below w.heap.size w u):ChB u b e rows N rv gs:=
 ⟨h.bk.ext hb,h.sp.ext hb,fun i h0 h1=>(h.el i h0 h1).ext hb⟩
theorem ChB.st {w0 u:World} {L:List SA} {b:Nat} {e:TypeId} {rows:List (List Bool)} {N:Int} {rv:Value} {gs:List Value} (h:ChB w0 b e rows N rv gs) (hu:St w0.heap.size w0 L u):ChB u b e rows N rv gs:=h.ext hu.below
theorem CS.drawnTillBut {P:Program} {ro:Option Nat} {n0:Nat} {w0:World} {ds:List Deferred} {Q:Exit→Act→World→Prop} {L:List SA} {l:List Value} (s j:Nat) {L0:List SA} {id:Nat} {os:List Oper} {k:Nat} {bl:List Bool} (hm:P.follows .mixedOrders=true) (hk:os.length=k) (hb:List.replicate k false=bl)
  (_hL:lera L j=some L0) (h:AT P ro n0 w0 ds os.toArray Q (St n0 w0 L0) s L k bl l):
  CS P ro n0 w0 ds (.region id os.toArray true) Q L l:=by subst hb;exact CS.drawnZ s _ hm hk h
end Go.Proofs.YtmoojmgihdgceaaGreatDoor
namespace Go.Proofs.YtmoojmgihdgceaaGreatDoor
set_option linter.unusedVariables false
set_option linter.unusedSimpArgs false
open Go.RowKit Go.Proofs Go.MapKept
def spL (ws:List (List UInt8)):List UInt8:=ws.flatMap fun x=>x++[32]
theorem Jkb (a b:List (List UInt8)):spL (a++b)=spL a++spL b:=List.flatMap_append
theorem Jsj:∀{a b r s:List UInt8},(32:UInt8)∉a→(32:UInt8)∉b→a++32::r=b++32::s→a=b∧r=s
 |[],[],r,s,_,_,h=>⟨rfl,(List.cons.inj h).2⟩
 |[],y::b,r,s,_,hb,h=>by
  have:=(List.cons.inj h).1;exact absurd (by rw[this];simp) hb
 |x::a,[],r,s,ha,_,h=>by
  have:=(List.cons.inj h).1;exact absurd (by rw[←this];simp) ha
 |x::a,y::b,r,s,ha,hb,h=>by
  obtain⟨h1,h2⟩:=List.cons.inj h;obtain⟨h3,h4⟩:=Jsj (fun q=>ha (List.mem_cons_of_mem _ q)) (fun q=>hb (List.mem_cons_of_mem _ q)) h2;exact⟨by rw[h1,h3],h4⟩
theorem Jqx:∀{a b:List (List UInt8)},(∀x∈a,(32:UInt8)∉x)→(∀x∈b,(32:UInt8)∉x)→spL a=spL b→a=b
 |[],[],_,_,_=>rfl
 |[],y::b,_,_,h=>by
  have:=congrArg List.length h;simp[spL]at this
 |x::a,[],_,_,h=>by
  have:=congrArg List.length h;simp[spL]at this
 |x::a,y::b,ha,hb,h=>by
  have h1:x++32::spL a=y++32::spL b:=by simpa [spL]using h
  obtain⟨h2,h3⟩:=Jsj (ha x (by simp)) (hb y (by simp)) h1;rw[h2,Jqx (fun z hz=>ha z (by simp[hz])) (fun z hz=>hb z (by simp[hz])) h3]
theorem Jje (n:Nat):(32:UInt8)∉Lib.decDigits n:=J2k (Jk0 n).1
theorem Jqy {n m:Nat} (h:Lib.decDigits n=Lib.decDigits m):n=m:=by
 have h1:=(Jk0 n).2;have h2:=(Jk0 m).2;rw[h]at h1;omega
theorem Jr3 (n:Nat):(45:UInt8)∉Lib.decDigits n:=fun hm=>by
 have:=(Jk0 n).1;unfold Jkj at this;have:=List.all_eq_true.1 this _ hm;simp at this
theorem J3w (n:Int):(32:UInt8)∉Lib.itoa n:=fun hm=>by
 unfold Lib.itoa at hm;split at hm
 ·rcases List.mem_cons.1 hm with h|h
  ·exact absurd h (by decide)
  exact Jje _ h
 exact Jje _ hm
theorem J8f {n m:Int} (h:Lib.itoa n=Lib.itoa m):n=m:=by
 unfold Lib.itoa at h;split at h<;>split at h
 ·have:=Jqy (List.cons.inj h).2;omega
 ·exact absurd (by rw[←h];simp) (Jr3 m.toNat)
 ·exact absurd (by rw[h];simp) (Jr3 n.toNat)
 have:=Jqy h;omega
def booL (b:Bool):List UInt8:=if b=true then[116,114,117,101]else[102,97,108,115,101]
theorem J3x (b:Bool):(32:UInt8)∉booL b:=by cases b<;>decide
theorem J8q {a b:Bool} (h:booL a=booL b):a=b:=by revert h;cases a<;>cases b<;>decide
theorem Jpv {α:Type} {f:α→List UInt8} (hf:∀a b,f a=f b→a=b):∀{x y:List α},x.map f=y.map f→x=y
 |[],[],_=>rfl
 |[],_::_,h=>by cases h
 |_::_,[],h=>by cases h
 |a::x,b::y,h=>by
  obtain⟨h1,h2⟩:=List.cons.inj h;rw[hf a b h1,Jpv hf h2]
def numT (l:List Int):ByteArray:=ba (spL (l.map Lib.itoa))
def booT (l:List Bool):ByteArray:=ba (spL (l.map booL))
def keyI (x:PX):ByteArray:=numT (x.1.1++(x.1.2.1++x.1.2.2))++booT x.2
structure Alen (x y:PX):Prop where
 th:x.1.1.length=y.1.1.length
 pr:x.1.2.1.length=y.1.2.1.length
 pl:x.1.2.2.length=y.1.2.2.length
 rd:x.2.length=y.2.length
theorem J5t {a b:List UInt8} (h:ba a=ba b):a=b:=by
 have:=congrArg bl h;exact this
theorem J0o {x y:P3} (h1:x.1.length=y.1.length) (h2:x.2.1.length=y.2.1.length) (h:x.1++(x.2.1++x.2.2)=y.1++(y.2.1++y.2.2)):x=y:=by
 obtain⟨a,b⟩:=List.append_inj h h1;obtain⟨c,d⟩:=List.append_inj b h2;obtain⟨x1,x2,x3⟩:=x;obtain⟨y1,y2,y3⟩:=y;simp only at a c d;rw[a,c,d]
theorem J3m {x y:PX} (hl:Alen x y) (h:keyI x=keyI y):x=y:=by
 unfold keyI numT booT at h;rw[Jfq,Jfq,←Jkb,←Jkb]at h;have h1:=Jqx (fun z hz=>?_) (fun z hz=>?_) (J5t h)
 ·obtain⟨h2,h3⟩:=List.append_inj h1 (by have:=hl.th;have:=hl.pr;have:=hl.pl;simp;omega);have e1:=J0o hl.th hl.pr (Jpv (fun _ _=>J8f) h2);have e2:=Jpv (fun _ _=>J8q) h3;exact Prod.ext e1 e2
 all_goals
  rcases List.mem_append.1 hz with hz|hz
  ·obtain⟨n,_,rfl⟩:=List.mem_map.1 hz;exact J3w n
  obtain⟨n,_,rfl⟩:=List.mem_map.1 hz;exact J3x n
def Ji4 (l:List Bool):List Int:=filI l.length fun i=>nth l i
def keyN (x:PX):List Int:=x.1.1++(x.1.2.1.map (fun n=>n+10)++(x.1.2.2++Ji4 x.2))
def keyR (x:PX):ByteArray:=ba (spL ((keyN x).map fun n:Int=>Lib.decDigits n.toNat))
structure Nneg (x:PX):Prop where
 th:∀n∈x.1.1,0≤n
 pr:∀n∈x.1.2.1,-10≤n
 pl:∀n∈x.1.2.2,0≤n
theorem Jhe {l:List Bool} {i:Int}:i∈Ji4 l↔0≤i∧i<l.length∧nth l i=true:=by
 unfold Ji4 filI;rw[List.mem_filter];constructor
 ·rintro⟨h1,h2⟩;unfold Jdx at h1;obtain⟨k,hk,rfl⟩:=List.mem_map.1 h1;have:=List.mem_range.1 hk;exact⟨by omega,by omega,h2⟩
 rintro⟨h0,h1,h2⟩;refine⟨?_,h2⟩;unfold Jdx;exact List.mem_map.2 ⟨i.toNat,List.mem_range.2 (by omega),by omega⟩
theorem Jwf {l m:List Bool} (hl:l.length=m.length) (h:Ji4 l=Ji4 m):l=m:=by
 refine Jm1 hl fun i h0 h1=>?_;have e1:=Jhe (l:=l) (i:=i);have e2:=Jhe (l:=m) (i:=i);rw[h]at e1;cases hx:nth l i<;>cases hy:nth m i
 ·rfl
 ·have:=e1.1 (e2.2 ⟨h0,by omega,hy⟩);rw[hx]at this;cases this.2.2
 ·have:=e2.1 (e1.2 ⟨h0,by omega,hx⟩);rw[hy]at this;cases this.2.2
 rfl
theorem Jsd:∀{x y:List Int},(∀n∈x,0≤n)→(∀n∈y,0≤n)→(x.map fun n:Int=>Lib.decDigits n.toNat)=(y.map fun n:Int=>Lib.decDigits n.toNat)→x=y
 |[],[],_,_,_=>rfl
 |[],_::_,_,_,h=>by cases h
 |_::_,[],_,_,h=>by cases h
 |a::x,b::y,hx,hy,h=>by
  obtain⟨h1,h2⟩:=List.cons.inj h;have:=Jqy h1;have:=hx a (by simp);have:=hy b (by simp);rw[Jsd (fun n hn=>hx n (by simp[hn])) (fun n hn=>hy n (by simp[hn])) h2,show a=b by omega]
theorem Jyy {x:PX} (hx:Nneg x):∀n∈keyN x,0≤n:=fun n hn=>by
 unfold keyN at hn;rcases List.mem_append.1 hn with hn|hn
 ·exact hx.th n hn
 rcases List.mem_append.1 hn with hn|hn
 ·obtain⟨k,hk,rfl⟩:=List.mem_map.1 hn;have:=hx.pr k hk;omega
 rcases List.mem_append.1 hn with hn|hn
 ·exact hx.pl n hn
 exact(Jhe.1 hn).1
theorem J4q {x y:PX} (hl:Alen x y) (hx:Nneg x) (hy:Nneg y) (h:keyR x=keyR y):x=y:=by
 unfold keyR at h
 have h1:=Jqx (fun z hz=>by
  obtain⟨n,_,rfl⟩:=List.mem_map.1 hz
  exact Jje _) (fun z hz=>by
  obtain⟨n,_,rfl⟩:=List.mem_map.1 hz
  exact Jje _) (J5t h)
 have h2:=Jsd (Jyy hx) (Jyy hy) h1;unfold keyN at h2;obtain⟨a,b⟩:=List.append_inj h2 hl.th;obtain⟨c,d⟩:=List.append_inj b (by simp[hl.pr]);obtain⟨e,f⟩:=List.append_inj d hl.pl
 have c2:x.1.2.1=y.1.2.1:=by
  have:=congrArg (List.map (fun n:Int=>n-10)) c
  simpa [Function.comp_def]using this
 obtain⟨⟨x1,x2,x3⟩,x4⟩:=x;obtain⟨⟨y1,y2,y3⟩,y4⟩:=y;simp only at a c2 e f;have f2:x4=y4:=Jwf hl.rd f;rw[a,c2,e,f2]
def Jdf (key:PX→ByteArray) (ps:List PX):ByteArray→Option Int:=fun t=>(ps.findIdx? fun p=>decide (key p=t)).map fun n:Nat=>(n:Int)
def updX (f:ByteArray→Option Int) (t:ByteArray) (v:Int):ByteArray→Option Int:=fun s=>if s=t then some v else f s
theorem Jub {key:PX→ByteArray} {ps:List PX} {q:PX} (h:∀p∈ps,key p=key q→p=q):Jdf key ps (key q)=(idxG ps q).map fun n:Nat=>(n:Int):=by
 unfold Jdf idxG;congr 1
 induction ps with
 |nil=>rfl
 |cons p ps ih=>
  have h1:=h p (by simp);rw[List.findIdx?_cons,List.findIdx?_cons,ih fun z hz=>h z (by simp[hz])]
  by_cases e:key p=key q
  ·simp[e,h1 e]
  have:p≠q:=fun e2=>e (by rw[e2]);simp[e,this]
theorem Jep {key:PX→ByteArray} {ps:List PX} {q:PX} (h:Jdf key ps (key q)=none):Jdf key (ps++[q])=updX (Jdf key ps) (key q) ps.length:=by
 funext t;unfold Jdf at h⊢;unfold updX;rw[List.findIdx?_append]
 by_cases ht:t=key q
 ·subst ht;rw[Option.map_eq_none_iff]at h;rw[h];simp[List.findIdx?_cons]
 rw[if_neg ht]
 have:List.findIdx? (fun p=>decide (key p=t)) [q]=none:=by
  rw[List.findIdx?_cons];simp[Ne.symm ht]
 rw[this];simp
structure MapX (es:Array MapEntry) (f:ByteArray→Option Int):Prop where
 num:∀e∈es.toList,∃s v,e.key = .string s∧e.val = .int .i64 v∧f s=some v
 non:∀s,(∀e∈es.toList,e.key≠.string s)→f s=none
theorem MapX.keys {es:Array MapEntry} {f:ByteArray→Option Int} (h:MapX es f):∀x∈es.toList,IsKey .string x.key:=fun x hx=>by
 obtain⟨s,_,hs,_⟩:=h.num x hx;rw[hs];trivial
def mapX (b:Nat) (f:ByteArray→Option Int):SA where
 h S u:=(∀k,S k↔k=b)∧∃es c,u.heap[b]? = some (.map es c)∧MapX es f
 loc S u u' h hk:=by
  obtain⟨h1,es,c,h2,h3⟩:=h;exact⟨h1,es,c,hk b ((h1 b).2 rfl) _ h2,h3⟩
 dom S u k h hS:=by
  obtain⟨h1,es,c,h2,_⟩:=h;rw[(h1 k).1 hS];exact(Array.getElem?_eq_some_iff.1 h2).1
theorem MapX.push {es:Array MapEntry} {f:ByteArray→Option Int} (h:MapX es f) {t:ByteArray} (hk:∀x∈es.toList,x.key≠.string t) (v:Int) (c:Nat):MapX (es.push ⟨.string t,.int .i64 v,c⟩) (updX f t v):=by
 refine⟨fun e he=>?_,fun s hs=>?_⟩
 ·rw[Array.toList_push,List.mem_append,List.mem_singleton]at he;rcases he with he|rfl
  ·obtain⟨s,z,h1,h2,h3⟩:=h.num e he;refine⟨s,z,h1,h2,?_⟩;have:s≠t:=fun hq=>hk e he (by rw[h1,hq]);unfold updX;rw[if_neg this,h3]
  exact⟨t,v,rfl,rfl,if_pos rfl⟩
 have h1:s≠t:=fun hq=>hs ⟨.string t,.int .i64 v,c⟩ (by simp) (by rw[hq]);unfold updX;rw[if_neg h1];exact h.non s fun e he=>hs e (by simp[Array.toList_push];exact .inl (by simpa using he))
section
variable {P:Program} {ro:Option Nat} {n0:Nat} {w0:World} {ds:List Deferred} {ops:Array Oper} {Q:Exit→Act→World→Prop} {L L':List SA} {rest:List Oper} {l:List Value} {ty:TypeId} {ps:String} {af:Array Edge}
 {T K E:TypeId} {x y z:Operand} {b j:Nat} {v:Int} {d:Option Tmp} {g:Option (Nat×Bool)} {t:ByteArray} {f:ByteArray→Option Int}
theorem Jpy {u:World} (h:St n0 w0 L u) (hj:L[j]? = some (mapX b f)):n0≤b∧∃es c,u.heap[b]? = some (.map es c)∧MapX es f:=by
 obtain⟨T,h1,h2,h3⟩:=h.get hj;exact⟨h1 b ((h2 b).2 rfl),h3⟩
theorem Jx0 {u:World} (h:St n0 w0 L u) (hj:L[j]? = some (mapX b f)) {es:Array MapEntry} {c:Nat} {f':ByteArray→Option Int} (hm:MapX es f'):St n0 w0 (L.set j (mapX b f')) {u with heap:=u.heap.setIfInBounds b (.map es c)}:=by
 obtain⟨T,hT,⟨hS,es0,c0,hb,_⟩,hc⟩:=h.upd hj;have hlt:b<u.heap.size:=(Array.getElem?_eq_some_iff.1 hb).1;refine hc _ _ (fun k=>k=b) ⟨rfl,rfl,rfl,by simp,fun k hk=>?_⟩ (fun k hk o' hcell=>?_) ⟨fun k=>Iff.rfl,es,c,?_,hm⟩ (fun k hk=>by subst hk;exact⟨hT _ ((hS _).2 rfl),.inl ((hS _).2 rfl)⟩)
 ·have:=hT b ((hS b).2 rfl);simp only[Array.getElem?_setIfInBounds];rw[if_neg (by omega)]
 ·simp only[Array.getElem?_setIfInBounds];rw[if_neg (fun e=>hk.2.2 ((hS k).2 e.symm))];exact hcell
 simp[hlt]
theorem WS.makeMapX {i:Nat} {l':Nat→List Value} (hl:∀b,lset l i (.map (some b))=some (l' b)) (kk:∀b,n0≤b→WS P ro n0 w0 ds ops Q (mapX b (fun _=>none)::L) rest (l' b)):
  WS P ro n0 w0 ds ops Q L (⟨some i,.makeMap T none,ty,ps,af,none⟩::rest) l:=by
 refine WS.world rfl rfl fun u hu=>?_;refine⟨.map (some u.heap.size),u.alloc (.map #[] 0),?_,?_⟩
 ·simp[execOp,Instr.makeMap]
 rw[Jay,Jaj (hl _)];exact kk _ hu.size _ (hu.cons (T:=fun k=>k=u.heap.size) ((Below.refl _ u).alloc (Nat.le_refl _) _) ⟨fun k=>Iff.rfl,_,_,World.alloc_heap_new u _,⟨by simp,fun _ _=>rfl⟩⟩ (fun k hk=>by omega))
theorem Jju (hT:P.underlying T=some (.map K E)) (hK:P.underlying K=some .string) (hz:zo P E=some (.int .i64 0)) (hx:evo l x=some (.map (some b))) (hj:L[j]? = some (mapX b f)) (hy:evo l y=some (.string t)):
  Det P (St n0 w0 L) ⟨d,.lookup T x y true,ty,ps,af,g⟩ l (.tuple #[.int .i64 ((f t).getD 0),.bool (f t).isSome]):=fun u hu=>by
 (replace hx:=Jan hx;replace hy:=Jan hy)
 obtain⟨_,es,c,hb,hm⟩:=Jpy hu hj;have hkey:IsKey .string (.string t):=trivial;rcases findNow_spec hkey es.toList 0 hm.keys with⟨h1,h2⟩|⟨q,e,h1,h2,h3⟩
 ·have h0:f t=none:=hm.non t h2;unfold zo at hz;cases hi:P.info? E with
  |none=>simp[hi]at hz
  |some inf=>
   have hz2:inf.zero=some (.int .i64 0):=by simpa [hi]using hz
   simp[execOp,Jar,hx,hy,Instr.lookup,run_underlying hT,MapKept.run_getObj_map hb,run_checkKey hK hkey,run_findKey hK h1,Result.andThen,zeroValue,typeInfo,hi,hz2,h0]
 obtain⟨s,n,e1,e2,e3⟩:=hm.num e (List.mem_of_getElem? h2)
 have e4:f t=some n:=by
  rw[h3]at e1
  injection e1 with e1
  rw[e1];exact e3
 simp[execOp,Jar,hx,hy,Instr.lookup,run_underlying hT,MapKept.run_getObj_map hb,run_checkKey hK hkey,run_findKey hK h1,Result.andThen,e2,e4]
theorem Jth {u:World} {es:Array MapEntry} {c:Nat} (hT:P.underlying T=some (.map K E)) (hK:P.underlying K=some .string) (hb:u.heap[b]? = some (.map es c)) (hm:MapX es f) (hf:f t=none):
  ∃es' c',MapX es' (updX f t v)∧(Instr.mapUpdate T (.map (some b)) (.string t) (.int .i64 v)).run P u = .ok () {u with heap:=u.heap.setIfInBounds b (.map es' c')}:=by
 have hkey:IsKey .string (.string t):=trivial;rcases findNow_spec hkey es.toList 0 hm.keys with⟨h1,h2⟩|⟨q,e,h1,h2,h3⟩
 ·exact⟨_,c+1,hm.push h2 v c,by simp[Instr.mapUpdate,run_underlying hT,MapKept.run_getObj_map hb,run_checkKey hK hkey,run_findKey hK h1,MapKept.run_setObj_map _ hb,Result.andThen]⟩
 obtain⟨s,n,e1,e2,e3⟩:=hm.num e (List.mem_of_getElem? h2);rw[h3]at e1
 injection e1 with e1
 rw[←e1,hf]at e3;cases e3
theorem WS.updX (hT:P.underlying T=some (.map K E)) (hK:P.underlying K=some .string) (hx:evo l x=some (.map (some b))) (hj:L[j]? = some (mapX b f)) (hy:evo l y=some (.string t)) (hz:evo l z=some (.int .i64 v)) (hf:f t=none)
  (hL:lset L j (mapX b (YtmoojmgihdgceaaGreatDoor.updX f t v))=some L') (kk:WS P ro n0 w0 ds ops Q L' rest l):WS P ro n0 w0 ds ops Q L (⟨none,.mapUpdate T x y z,ty,ps,af,none⟩::rest) l:=by
 (replace hx:=Jan hx;replace hy:=Jan hy;replace hz:=Jan hz)
 rw[←Jaj hL]at kk;refine WS.world_skip rfl rfl rfl fun u hu=>?_;obtain⟨_,es,c,hb,hm⟩:=Jpy hu hj;obtain⟨es',c',h1,h2⟩:=Jth (v:=v) hT hK hb hm hf;refine⟨_,?_,kk _ (Jx0 hu hj (c:=c') h1)⟩;simp[execOp,hx,hy,hz,h2,Result.andThen]
theorem WS.insX (hT:P.underlying T=some (.map K E)) (hK:P.underlying K=some .string) (hx:evo l x=some (.map (some b))) (hj:L[j]? = some (mapX b f)) (hy:evo l y=some (.string t)) (hz:evo l z=some (.int .i64 v)) (hf:f t=none)
  (hL:lset L j (mapX b (YtmoojmgihdgceaaGreatDoor.updX f t v))=some L') (kk:WS P ro n0 w0 ds ops Q L' rest l):WS P ro n0 w0 ds ops Q L (⟨none,.insert T x y z,ty,ps,af,none⟩::rest) l:=by
 (replace hx:=Jan hx;replace hy:=Jan hy;replace hz:=Jan hz)
 rw[←Jaj hL]at kk;refine WS.world_skip rfl rfl rfl fun u hu=>?_;obtain⟨_,es,c,hb,hm⟩:=Jpy hu hj;obtain⟨es',c',h1,h2⟩:=Jth (v:=v) hT hK hb hm hf;refine⟨_,?_,kk _ (Jx0 hu hj (c:=c') h1)⟩;simp[execOp,hx,hy,hz,h2,Result.andThen]
end
end Go.Proofs.YtmoojmgihdgceaaGreatDoor
namespace Go.Proofs.YtmoojmgihdgceaaGreatDoor
set_option linter.unusedVariables false
set_option linter.unusedSimpArgs false
open Go Go.RowKit Go.Proofs
def qrow (e:TypeId) (v:Value) (xs:List Value):SA where
 h S u:=(∀k,S k↔v.ownBlock=some k)∧(v = .slice none 0 0∧xs=[]∨∃b off cap cur,v = .slice (some ⟨b,off,none⟩) xs.length cap∧u.heap[b]? = some (.cells cur e (0,0))∧xs.length≤cap∧cap≤maxLen∧off+cap≤cur.size∧(cur.toList.drop off).take xs.length=xs)
 loc S u u' h hk:=by
  obtain⟨h1,h2⟩:=h;refine⟨h1,h2.imp id ?_⟩;rintro⟨b,off,cap,cur,rfl,hb,r⟩;exact⟨b,off,cap,cur,rfl,hk b ((h1 b).2 rfl) _ hb,r⟩
 dom S u k h hS:=by
  obtain⟨h1,h2⟩:=h;rcases h2 with⟨rfl,_⟩|⟨b,off,cap,cur,rfl,hb,_⟩
  ·exact absurd ((h1 k).1 hS) (by simp[Value.ownBlock])
  have:k=b:=by
   have:=(h1 k).1 hS
   simpa [Value.ownBlock,eq_comm]using this
  subst this;exact(Array.getElem?_eq_some_iff.1 hb).1
theorem J3e {e:TypeId} {v:Value} {xs:List Value} {S:Nat→Prop} {u:World} (h:(qrow e v xs).h S u):SlC u v xs.length 1 xs:=by
 obtain⟨_,⟨rfl,rfl⟩|⟨b,off,cap,cur,rfl,hb,h1,h2,h3,h4⟩⟩:=h
 ·exact⟨by simp,none,0,rfl,⟨Nat.le_refl _,by omega⟩,.inl rfl⟩
 refine⟨by simp,_,cap,rfl,⟨h1,h2⟩,.inr ⟨b,off,rfl,fun m x hx=>?_⟩⟩;rw[cell_of_row u b _ cur e (0,0) hb,←Array.getElem?_toList];rw[←h4,List.getElem?_take]at hx;split at hx
 ·rw[List.getElem?_drop]at hx;exact hx
 cases hx
theorem Kad {e:TypeId} {v:Value} {a:Value} {xs:List Value} {S:Nat→Prop} {u:World} (h:(qrow e v (a::xs)).h S u):(qrow e (sub2 1 v 1 (xs.length+1)) xs).h S u:=by
 obtain⟨hS,⟨_,h0⟩|⟨b,off,cap,cur,rfl,hb,h1,h2,h3,h4⟩⟩:=h
 ·cases h0
 simp only[List.length_cons]at h1 h4⊢;show(qrow e (.slice (if cap=1 then some ⟨b,off,none⟩else(some (⟨b,off,none⟩:Addr)).map (·.add (1*1))) (xs.length+1-1) (cap-1)) xs).h S u
 by_cases hc:cap=1
 ·rw[if_pos hc];have hx:xs=[]:=List.eq_nil_of_length_eq_zero (by omega);subst hx;exact⟨hS,.inr ⟨b,off,cap-1,cur,rfl,hb,by simp,by omega,by omega,by simp⟩⟩
 rw[if_neg hc];have ea:(⟨b,off,none⟩:Addr).add (1*1)=⟨b,off+1,none⟩:=by rw[Jby]
 simp only[Option.map_some,ea];refine⟨fun k=>by rw[hS k];simp[Value.ownBlock],.inr ⟨b,off+1,cap-1,cur,rfl,hb,by omega,by omega,by omega,?_⟩⟩;have h5:(cur.toList.drop off).take (xs.length+1)=a::xs:=h4;have h6:=congrArg List.tail h5;rw[List.tail_cons]at h6
 conv=>rhs;rw[←h6]
 apply List.ext_getElem? fun j=>?_
 simp only[List.getElem?_take,List.getElem?_drop,List.getElem?_tail]
 by_cases hj:j<xs.length
 ·rw[if_pos hj,if_pos (by omega),show off+1+j=off+(j+1) by omega]
 rw[if_neg hj,if_neg (by omega)]
section
variable {P:Program} {ro:Option Nat} {n0:Nat} {w0:World} {ds:List Deferred} {ops:Array Oper} {Q:Exit→Act→World→Prop} {L:List SA} {rest:List Oper} {l:List Value} {ty:TypeId} {ps:String} {af:Array Edge} {d:Option Tmp} {g:Option (Nat×Bool)}
theorem St.headMap {A B:SA} {u:World} (hp:∀S u,A.h S u→B.h S u) (h:St n0 w0 (A::L) u):St n0 w0 (B::L) u:=by
 obtain⟨h1,h2,T,h3,h4,h5⟩:=h;exact⟨h1,h2,T,h3,hp T u h4,h5⟩
theorem St.toQ {e:TypeId} {v:Value} {xs:List Int} {u:World} (h:St n0 w0 (oints e v xs::L) u):St n0 w0 (qrow e v (ints xs)::L) u:=by
 refine St.headMap (A:=oints e v xs) (B:=qrow e v (ints xs)) (fun S u hh=>?_) h;obtain⟨hS,hl,h2⟩:=hh;refine⟨hS,?_⟩;have hle:(ints xs).length=xs.length:=by simp[ints]
 rcases h2 with⟨rfl,h0⟩|⟨b,cap,cur,rfl,_,hb,hn,hm,hs,ht⟩
 ·exact .inl ⟨rfl,List.eq_nil_of_length_eq_zero (by omega)⟩
 refine .inr ⟨b,0,cap,cur,by rw[hle],hb,by omega,hm,by omega,?_⟩;rw[List.drop_zero,hle,←ht];simp
theorem J2y {e:TypeId} {v:Value} {xs:List Value} {j:Nat} {u:World} (hu:St n0 w0 L u) (hj:L[j]? = some (qrow e v xs)):SlC u v xs.length 1 xs:=by
 obtain⟨T,_,h⟩:=hu.get hj;exact J3e h
theorem J1q {T e e':TypeId} {a b j:Nat} {x:Operand} {v:Value} {xs:List Int} (hT:sl P T=some (e,a,b)) (hx:evo l x=some v) (hj:L[j]? = some (qrow e' v (ints xs))):
  Det P (St n0 w0 L) ⟨d,.call ⟨.builtin .len,#[x],#[T]⟩,ty,ps,af,g⟩ l (.int .i64 xs.length):=fun u hu=>by
 have h:=J2y hu hj;have hle:(ints xs).length=xs.length:=by simp[ints]
 rw[hle]at h;exact Jbt hT hx h u hu
theorem J3s {T e e':TypeId} {by_ j:Nat} {x y:Operand} {v:Value} {i:Int} {xs:List Int} (hT:sl P T=some (e,1,by_)) (hx:evo l x=some v) (hy:evo l y=some (.int .i64 i)) (hj:L[j]? = some (qrow e' v (ints xs))) (h0:0≤i) (h1:i<xs.length):
  Det P (St n0 w0 L) ⟨d,.indexAddr T x y,ty,ps,af,g⟩ l (.pointer (some (sla v (i.toNat*1)))):=fun u hu=>by
 have h:=J2y hu hj;have hle:(ints xs).length=xs.length:=by simp[ints]
 exact Jcs hT hx hy h h0 (by omega) u hu
theorem J8m {T:TypeId} {z j:Nat} {e:TypeId} {x:Operand} {v:Value} {i:Int} {xs:List Int} (hj:L[j]? = some (qrow e v (ints xs))) (hx:evo l x=some (.pointer (some (sla v (i.toNat*1))))) (h:0≤i∧i<xs.length) (hT:tk P T=some (false,z)):
  Det P (St n0 w0 L) ⟨d,.load T x,ty,ps,af,g⟩ l (.int .i64 (nth xs i)):=
 Jcy hx (fun _ hu=>J2y hu hj) (by rw[Nat.mul_one];exact Jkc h) hT
theorem J72 {T e e':TypeId} {k by_ j:Nat} {x z:Operand} {v:Value} {xs:List Int} {lo:Int} (hT:sl P T=some (e,k,by_)) (hx:evo l x=some v) (hz:evo l z=some (.int .i64 lo))
  (hj:L[j]? = some (qrow e' v (ints xs))) (h1:0≤lo) (h2:lo≤xs.length):Det P (St n0 w0 L) ⟨d,.slice T x (some z) none none,ty,ps,af,g⟩ l (sub2 k v lo.toNat xs.length):=fun u hu=>by
 have h:=J2y hu hj;have hle:(ints xs).length=xs.length:=by simp[ints]
 rw[hle]at h;exact Jlm hT hx hz h h1 (by omega) u hu
theorem St.qTail {e:TypeId} {v:Value} {x:Int} {xs:List Int} {u:World} (h:St n0 w0 (qrow e v (ints (x::xs))::L) u):St n0 w0 (qrow e (sub2 1 v 1 (x::xs).length) (ints xs)::L) u:=by
 refine St.headMap (A:=qrow e v (ints (x::xs))) (B:=qrow e (sub2 1 v 1 (x::xs).length) (ints xs)) (fun S u hh=>?_) h;have:=Kad (xs:=ints xs) hh;have hle:(ints xs).length=xs.length:=by simp[ints]
 rw[hle]at this;exact this
theorem WS.appendQ {T e:TypeId} {by_ i j:Nat} {x y:Operand} {v z zc a:Value} {xs:List Value} (hT:sl P T=some (e,1,by_)) (hz:zv P e=some [zc])
  (hx:evo l x=some v) (hj:L[j]? = some (qrow e v xs)) (hy:evo l y=some z) (hnews:∀u,St n0 w0 L u→SlC u z 1 1 [a]) (h1:a.oneCell'=true)
  (hm:xs.length+1≤9223372036854775807) (hb:(xs.length+1)*by_≤140737488355328)
  {l':Value→List Value} (hl:∀v,lset l i v=some (l' v)) {L':Value→List SA} (hL:∀v',lset L j (qrow e v' (xs++[a]))=some (L' v')) (k:∀v',v'.oneCell'=true→WS P ro n0 w0 ds ops Q (L' v') rest (l' v')):
  WS P ro n0 w0 ds ops Q L (⟨some i,.call ⟨.builtin .append,#[x,y],#[T,T]⟩,ty,ps,af,none⟩::rest) l:=by
 (replace hx:=Jan hx;replace hy:=Jan hy)
 refine WS.world rfl rfl fun u hu=>?_;obtain⟨inf,hu1,hi,hs,hby⟩:=Jcu hT;unfold zv at hz;rw[hi]at hz;cases hz2:inf.zero with
 |none=>simp[hz2]at hz
 |some zz=>
  simp[hz2]at hz;obtain⟨S,hS,⟨hS1,hown⟩,hupd⟩:=hu.upd hj;have hml:xs.length+1≤maxLen:=hm;obtain⟨_,p,cap,rfl,hcap,hz3⟩:=hnews u hu;have hle:=hu.size;rcases hz3 with hz3|⟨nb,no,rfl,hc⟩
  ·omega
  have hc2:∀j' x,[a][j']? = some x→u.cell? ((⟨nb,no,none⟩:Addr).add j')=some x:=fun j' x hx=>by rw[Jby];exact hc j' x hx
  have hall:∀q∈[a],q.oneCell'=true:=fun q hq=>by rw[List.mem_singleton.1 hq];exact h1
  have hzc:zz.cells.size=1:=by
   have h9:zz.cells.toList.length=1:=by rw[hz];rfl
   simpa using h9
  have fin:∀v' u',(Builtin.append_ #[T,T] ty #[v,.slice (some ⟨nb,no,none⟩) 1 cap]).run P u = .ok v' u'→v'.oneCell'=true→(qrow e v' (xs++[a])).h (fun b=>v'.ownBlock=some b) u'→u.grownBy u' v.ownBlock→(∀b,v'.ownBlock=some b→n0≤b∧(v.ownBlock=some b∨u.heap.size≤b))→
    ∃v u',(execOp (ev l) ⟨some i,.call ⟨.builtin .append,#[x,y],#[T,T]⟩,ty,ps,af,none⟩).run P u = .ok (.value v) u'∧wpListIn (FW ro) 0 P ops Q rest ((Act.mk l.toArray ds).put (some i) v) u':=by
   intro v' u' hr ho h2 h3 h4;refine⟨v',u',by simp[execOp,resolve,invoke,builtin,hx,hy,hr],?_⟩;rw[Jay,Jaj (hl _)];refine k v' ho u' (Jaj (hL v')▸hupd u' _ (fun b=>v'.ownBlock=some b) ?_ ?_ h2 ?_)
   ·exact⟨h3.os,h3.tape,h3.output,h3.size,fun b hb=>h3.block b (by omega) fun e=>by have:=hS b ((hS1 b).2 e.symm);omega⟩
   ·intro b hb o hc;exact(h3.block b hb.2.1 fun e=>hb.2.2 ((hS1 b).2 e.symm)).trans hc
   intro b hb;obtain⟨ha,hb⟩:=h4 b hb;exact⟨ha,hb.imp (fun h=>(hS1 b).2 h) id⟩
  have grown:∀v' u' n,n=xs.length+1→u'.ownsRow u.heap.size e 1 v' n (xs++[a])→v'.oneCell'=true∧(qrow e v' (xs++[a])).h (fun b=>v'.ownBlock=some b) u'∧∀b,v'.ownBlock=some b→u.heap.size≤b:=by
   rintro v' u' n rfl ⟨hl2,h2⟩;rcases h2 with⟨rfl,h0⟩|⟨g,cap',cur,rfl,hg0,hg,hn,hm2,hs2,ht⟩
   ·omega
   refine⟨rfl,⟨fun b=>Iff.rfl,.inr ⟨g,0,cap',cur,by simp,hg,by simp;omega,hm2,by omega,?_⟩⟩,fun b hb=>?_⟩
   ·rw[List.drop_zero];have e9:(xs++[a]).length=(xs.length+1)*1:=by simp
    rw[e9];exact ht
   have:g=b:=by simpa [Value.ownBlock]using hb
   omega
  rcases hown with⟨rfl,rfl⟩|⟨b,off,cap',cur,rfl,hg,hn,hm2,hs2,ht⟩
  ·obtain⟨v',u',hr,h2,h3,h4⟩:=run_append_own (P:=P) u u.heap.size T ty e inf zz 1 by_ hu1 hi hz2 hs hby hzc Nat.one_pos (.slice none 0 0) 0 [] (World.ownsRow_nil u u.heap.size e 1) ⟨nb,no,none⟩ 1 cap [a] rfl hc2 hall (by simp[maxLen]) (by simpa using hb) (Nat.le_refl _);obtain⟨g1,g2,g3⟩:=grown v' u' (0+1) (by simp) (by simpa using h2);exact fin v' u' hr g1 g2 h3 fun b hb=>⟨by have:=g3 b hb;omega,.inr (g3 b hb)⟩
  by_cases hroom:xs.length+1≤cap'
  ·have hlt:off+xs.length<cur.size:=by omega
   have hcell:u.cell? ⟨b,off+xs.length,none⟩=some cur[off+xs.length]:=by simp[World.cell?,hg,hlt]
   have hfro:u.frozen? ⟨b,off+xs.length,none⟩=false:=by simp[World.frozen?,hg]
   have hr:=run_append_room_cells (P:=P) u T ty e inf hu1 hi b off xs.length cap' ⟨nb,no,none⟩ 1 cap [a] (by rw[hs];rfl) hc2 hall hroom
    (fun j' hj'=>by
     have:j'=0:=by simpa using hj'
     subst this
     rw[hs,Nat.mul_one,Nat.add_zero,hcell];rfl)
    (fun j' hj'=>by
     have:j'=0:=by simpa using hj'
     subst this
     rw[hs,Nat.mul_one,Nat.add_zero];exact hfro)
   rw[hs,Nat.mul_one]at hr
   have hset:u.setCells b (off+xs.length) [a]=u.setRow b (cur.setIfInBounds (off+xs.length) a):=by
    unfold World.setCells World.setCells;exact setCell_eq_setRow u b (off+xs.length) cur e (0,0) a hg
   rw[hset]at hr;refine fin _ _ hr rfl ⟨fun b=>Iff.rfl,.inr ⟨b,off,cap',_,by simp,setRow_heap u b cur _ e _ hg,by simp;omega,hm2,by simp;omega,?_⟩⟩ ⟨rfl,rfl,rfl,by simp,fun k' _ hk'=>setRow_other u b k' _ fun e=>hk' (by simp[Value.ownBlock,e])⟩ (fun b' hb'=>?_)
   ·rw[Array.toList_setIfInBounds];have h9:xs.length=((cur.toList.drop off).take xs.length).length:=by rw[ht]
    conv=>rhs;rw[←ht]
    apply List.ext_getElem? fun j'=>?_
    simp only[List.getElem?_take,List.getElem?_drop,List.getElem?_set,List.length_append,List.length_singleton,List.getElem?_append];rw[←h9]
    by_cases hj1:j'<xs.length
    ·rw[if_pos (by omega),if_neg (by omega),if_pos hj1,if_pos hj1]
    by_cases hj2:j'=xs.length
    ·subst hj2;rw[if_pos (by omega),if_pos rfl,if_pos (by simpa using hlt),if_neg hj1];simp
    rw[if_neg (by omega),if_neg hj1];have:¬j'-xs.length<1:=by omega
    simp;omega
   have:b=b':=by simpa [Value.ownBlock]using hb'
   subst this;exact⟨hS b ((hS1 b).2 rfl),.inl rfl⟩
  have holds:∀j' u',xs[j']? = some u'→u.cell? ((⟨b,off,none⟩:Addr).add j')=some u':=fun j' u' hj'=>by
   rw[Jby,cell_of_row u b _ cur e (0,0) hg,←Array.getElem?_toList];rw[←ht,List.getElem?_take]at hj';split at hj'
   ·rw[List.getElem?_drop]at hj';exact hj'
   cases hj'
  obtain⟨v',u',hr,h2,h3⟩:=run_append_arg_grows (P:=P) u T ty e inf zz 1 by_ hu1 hi hz2 hs hby hzc Nat.one_pos ⟨b,off,none⟩ xs.length cap' xs (by simp) holds ⟨nb,no,none⟩ 1 cap [a] rfl hc2 (by omega) hml hb;obtain⟨g1,g2,g3⟩:=grown v' u' (xs.length+1) rfl h2;exact fin v' u' hr g1 g2 ⟨h3.os,h3.tape,h3.output,h3.size,fun k' hk' _=>h3.block k' hk' (by simp)⟩ fun b hb=>⟨by have:=g3 b hb;omega,.inr (g3 b hb)⟩
theorem WS.copyO {T T2 e:TypeId} {by_ i j n m N dl:Nat} {x y:Operand} {v zd zs:Value} {cs vs xs xs':List Value} (hT:sl P T=some (e,1,by_)) (hx:evo l x=some zd) (hzd:∀b cap,v = .slice (some ⟨b,0,none⟩) n cap→n≤cap→∃dc,zd = .slice (some ⟨b,m,none⟩) dl dc)
  (hj:L[j]? = some (osl e 1 v n xs)) (hm:m+vs.length≤xs.length) (h0:0<N) (h00:0<xs.length) (hy:evo l y=some zs) (hsrc:∀u,St n0 w0 L u→SlC u zs N 1 cs) (hvs:vs=cs.take (Nat.min N dl)) (h1:∀a∈vs,a.oneCell'=true)
  (hxs:xs.take m++vs++xs.drop (m+vs.length)=xs')
  {l':List Value} (hl:lset l i (.int .i64 vs.length)=some l') {L':List SA} (hL:lset L j (osl e 1 v n xs')=some L') (k:WS P ro n0 w0 ds ops Q L' rest l'):
  WS P ro n0 w0 ds ops Q L (⟨some i,.call ⟨.builtin .copy,#[x,y],#[T,T2]⟩,ty,ps,af,none⟩::rest) l:=by
 rw[←Jaj hL]at k;subst hxs
 (replace hx:=Jan hx;replace hy:=Jan hy)
 refine WS.world rfl rfl fun u hu=>?_;obtain⟨inf,hu1,hi,hs,hby⟩:=Jcu hT;obtain⟨S,hS,⟨hS1,hln,h2⟩,hupd⟩:=hu.upd hj;obtain⟨hcl,p,cap2,rfl,hcap,hz3⟩:=hsrc u hu;rcases hz3 with hz3|⟨sb,so,rfl,hc⟩
 ·omega
 rcases h2 with⟨rfl,rfl⟩|⟨b,cap,cur,rfl,hb,hg,hn,hcm,hcur,htake⟩
 ·simp at hln;subst hln;simp at h00
 obtain⟨dc,rfl⟩:=hzd b cap rfl hn;have hvl:vs.length=Nat.min N dl:=by rw[hvs,List.length_take];show min (min N dl) cs.length=min N dl;omega
 have hlen:xs.length=n:=by rw[hln,Nat.mul_one]
 have hcn:n≤cur.toList.length:=by rw[Array.length_toList,hcur,Nat.mul_one];exact hn
 have hr:=run_copy_row P u T T2 ty e b m dl dc ⟨sb,so,none⟩ N cap2 cur e vs hu1 (by rw[hi];simp[hs]) hg hvl
  (fun j' v' hj'=>by
   rw[Jby];refine hc j' v' ?_;rw[hvs,List.getElem?_take]at hj';split at hj'
   ·exact hj'
   cases hj') (by rw[hcur];omega) h1
 refine⟨.int .i64 vs.length,u.setRow b (cur.toList.take m++vs++cur.toList.drop (m+vs.length)).toArray,by simp only[execOp,resolve,invoke,builtin,hx,hy];simp[hx,hy,hr,goInt],?_⟩;rw[Jay,Jaj hl];have hb':=hS b ((hS1 b).2 rfl)
 refine k _ (hupd _ _ (fun k=>k=b) ⟨rfl,rfl,rfl,by simp,fun k hk=>setRow_other u b k _ (fun e=>by omega)⟩ (fun k hk o' hcell=>?_) ⟨fun k=>?_,by simp;omega,.inr ⟨b,cap,_,rfl,hb,setRow_heap u b cur _ e _ hg,hn,hcm,by simp at hcn⊢;omega,?_⟩⟩
   (fun k hk=>by subst hk;exact⟨hb',.inl ((hS1 _).2 rfl)⟩))
 ·rw[setRow_other u b k _ (fun e=>hk.2.2 ((hS1 k).2 (by rw[e];rfl)))];exact hcell
 ·exact⟨fun h=>by rw[h];rfl,fun h=>by simpa [Value.ownBlock,eq_comm]using h⟩
 rw[←htake,Nat.mul_one];have:=Jug cur.toList vs (m:=m) (N:=n) (by omega) hcn;exact this
end
end Go.Proofs.YtmoojmgihdgceaaGreatDoor
