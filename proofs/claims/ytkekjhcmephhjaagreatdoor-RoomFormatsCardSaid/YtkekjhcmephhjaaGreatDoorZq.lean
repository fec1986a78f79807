/- Merged texts of this proof (walks and plain laws), printed by a program of the prover. -/
import Derived.Test.YtkekjhcmephhjaaGreatDoorZb
import Derived.Lib.AppendStr
import Derived.Lib.AppendZerosOnto
namespace Go.Proofs.YtkekjhcmephhjaaGreatDoor
set_option linter.unusedVariables false
set_option linter.unusedSimpArgs false
open Go.RowKit Go.Proofs
section
variable {P:Program} {ro:Option Nat} {n0:Nat} {w0:World} {ds:List Deferred} {ops:Array Oper} {Q:Exit→Act→World→Prop} {L:List SA} {rest:List Oper} {l:List Value} {ty:TypeId} {ps:String} {af:Array Edge}
theorem WS.appendS {T U e:TypeId} {i j n:Nat} {x y:Operand} {v:Value} {s:ByteArray} {xs:List Value} (hT:sl P T=some (e,1,1)) (hz:zo P e=some (.int .u8 0)) (hU:P.underlying U=some .string)
  (hx:evo l x=some v) (hj:L[j]? = some (osl e 1 v n xs)) (hy:evo l y=some (.string s)) (hb:n+s.size≤140737488355328)
  {l':Value→List Value} (hl:∀ v,lset l i v=some (l' v)) {L':Value→List SA} (hL:∀ v',lset L j (osl e 1 v' (n+s.size) (xs++Lib.strCells s))=some (L' v')) (k:∀ v',v'.oneCell'=true→WS P ro n0 w0 ds ops Q (L' v') rest (l' v')) :
  WS P ro n0 w0 ds ops Q L (⟨some i,.call ⟨.builtin .append, #[x,y], #[T,U]⟩,ty,ps,af,none⟩::rest) l:=by
 (replace hx:=Jan hx; replace hy:=Jan hy)
 refine WS.world rfl rfl fun u hu=>?_
 obtain ⟨inf,hu1,hi,hs,hby⟩:=Jcc hT
 have hz2:inf.zero=some (.int .u8 0):=by
  unfold zo at hz
  simpa [hi] using hz
 obtain ⟨S,hS,⟨hS1,hown⟩,hupd⟩:=hu.upd hj
 have hml:n+s.size≤maxLen:=by simp only [maxLen]; omega
 have fin:∀ v' u',(Builtin.append_ #[T,U] ty #[v,.string s]).run P u = .ok v' u'→u'.ownsRow 0 e 1 v' (n+s.size) (xs++Lib.strCells s)→u.grownBy u' v.ownBlock→(∀ b,v'.ownBlock=some b→n0≤b∧(v.ownBlock=some b∨u.heap.size≤b)) →
   ∃ v u',(execOp (ev l) ⟨some i,.call ⟨.builtin .append, #[x,y], #[T,U]⟩,ty,ps,af,none⟩).run P u = .ok (.value v) u'∧wpListIn (FW ro) 0 P ops Q rest ((Act.mk l.toArray ds).put (some i) v) u':=by
  intro v' u' hr h2 h3 h4
  refine ⟨v',u',by simp [execOp,resolve,invoke,builtin,hx,hy,hr],?_⟩
  have ho:v'.oneCell'=true:=by
   rcases h2.2 with ⟨rfl,_⟩ | ⟨g,c,cur,rfl,_⟩ <;> rfl
  rw [Jaz,Jal (hl _)]
  refine k v' ho u' (Jal (hL v') ▸ hupd u' _ (fun b=>v'.ownBlock=some b) ?_ ?_ ⟨fun b=>Iff.rfl,h2⟩ ?_)
  ·
   exact ⟨h3.os,h3.tape,h3.output,h3.size,fun b hb=>h3.block b (by have:=hu.size; omega) fun e=>by have:=hS b ((hS1 b).2 e.symm); omega⟩
  ·
   intro b hb o hc
   exact (h3.block b hb.2.1 fun e=>hb.2.2 ((hS1 b).2 e.symm)).trans hc
  intro b hb
  obtain ⟨ha,hb⟩:=h4 b hb
  exact ⟨ha,hb.imp (fun h=>(hS1 b).2 h) id⟩
 have hle:=hu.size
 obtain ⟨v',u',hr,h2,h3,h4⟩:=Lib.run_append_own_string (P:=P) u 0 T U ty e inf hu1 hU hi hz2 hs hby v n xs hown s hml hb (Nat.zero_le _)
 refine fin v' u' hr h2 h3 fun b' hb'=>?_
 by_cases hlt:b' < u.heap.size
 ·
  by_cases hv:v.ownBlock=some b'
  ·
   exact ⟨hS b' ((hS1 b').2 hv),.inl hv⟩
  exfalso
  rcases hown.2 with ⟨rfl,rfl⟩ | ⟨g,cap',cur,rfl,_,hg,hnc,hcm,hcs,htake⟩
  ·
   have hx0:xs=[]:=List.eq_nil_of_length_eq_zero (by simpa using hown.1)
   subst hx0
   obtain ⟨v2,u2,hr2,h22,h23,_⟩:=Lib.run_append_own_string (P:=P) u u.heap.size T U ty e inf hu1 hU hi hz2 hs hby _ 0 [] (World.ownsRow_nil u u.heap.size e 1) s hml hb (Nat.le_refl _)
   rw [hr] at hr2
   injection hr2 with e1 e2
   subst e1
   have:=(h22.lt b' hb').1
   omega
  have hxl:xs.length=n:=by simpa using hown.1
  have hcs':cur.size=cap':=by simpa using hcs
  by_cases hroom:n+s.size≤cap'
  ·
   have hfit:n+s.size≤cur.size:=by omega
   have hr2:=Lib.run_append_room_string (P:=P) u T U ty e inf hu1 hU hi hs g n cap' cur hg s hroom hfit
   rw [hr] at hr2
   injection hr2 with e1 e2
   subst e1
   exact hv hb'
  have holds:∀ j u',xs[j]? = some u'→u.cell? ((⟨g,0,none⟩:Addr).add j)=some u':=hown.cells (g:=g) rfl
  have hr2:=Lib.run_append_grow_string (P:=P) u T U ty e inf (.int .u8 0) hu1 hU hi hz2 ⟨g,0,none⟩ n cap' xs (by rw [hs]; simpa using hxl) holds s (by omega) (by omega) (by rw [hby]; exact growslice_fits (by omega) (by omega))
  rw [hr] at hr2
  injection hr2 with e1 e2
  subst e1
  simp [Value.ownBlock] at hb'
  omega
 exact ⟨by omega,.inr (by omega)⟩
theorem Juu:∀ bs:List ByteArray,bs.map Value.string=Jax cStr bs
 | []=>rfl
 | b::bs=>by rw [List.map_cons,Juu bs]; simp [Jax,cStr]
theorem Jt3:∀ bs:List (Sl ByteArray),bs.map Sl.v=Jax (cSl cStr) bs
 | []=>rfl
 | b::bs=>by rw [List.map_cons,Jt3 bs]; simp [Jax,cSl]
theorem WS.buildSs {T e:TypeId} {by_ i n:Nat} {pl:List (Nat × Operand)} {bs:List ByteArray} {zc:List Value} (hT:sl P T=some (e,1,by_)) (hz:zv P e=some zc)
  (hp:(pl.map fun (j,x)=>(j,ev l x))=((bs.map Value.string).zipIdx).map fun (v,j)=>(j,v)) (hn:bs.length=n) (hn2:n≤16777216)
  {l':Value→List Value} (hl:∀ v,lset l i v=some (l' v)) (k:∀ v,v.oneCell'=true→WS P ro n0 w0 ds ops Q (oT cStr e v bs::L) rest (l' v)) :
  WS P ro n0 w0 ds ops Q L (⟨some i,.buildSlice T n pl.toArray,ty,ps,af,none⟩::rest) l:=by
 subst hn
 refine WS.buildSlice1 (vs:=bs.map Value.string) hT hz hp (by simp) hn2 (fun v hv=>by obtain ⟨b,_,rfl⟩:=List.mem_map.1 hv; rfl) hl fun v=>?_
 intro u hu
 have hu2:St n0 w0 (oT cStr e v bs::L) u:=by
  rw [Juu] at hu
  exact hu
 refine k v ?_ u hu2
 obtain ⟨_,p,cap,hv,_⟩:=Jcq hu2 (j:=0) rfl
 rw [hv]; rfl
theorem WS.buildSss {T e:TypeId} {by_ i n:Nat} {pl:List (Nat × Operand)} {bs:List (Sl ByteArray)} {zc:List Value} (hT:sl P T=some (e,1,by_)) (hz:zv P e=some zc)
  (hp:(pl.map fun (j,x)=>(j,ev l x))=((bs.map Sl.v).zipIdx).map fun (v,j)=>(j,v)) (hn:bs.length=n) (hn2:n≤16777216) (ho:∀ s∈bs,s.v.oneCell'=true)
  {l':Value→List Value} (hl:∀ v,lset l i v=some (l' v)) (k:∀ v,WS P ro n0 w0 ds ops Q (oT (cSl cStr) e v bs::L) rest (l' v)) :
  WS P ro n0 w0 ds ops Q L (⟨some i,.buildSlice T n pl.toArray,ty,ps,af,none⟩::rest) l:=by
 subst hn
 refine WS.buildSlice1 (vs:=bs.map Sl.v) hT hz hp (by simp) hn2 (fun v hv=>by obtain ⟨b,hb,rfl⟩:=List.mem_map.1 hv; exact ho b hb) hl fun v=>?_
 intro u hu
 rw [Jt3] at hu
 exact k v u hu
end
theorem Jnh (n:Int):bl (digB n)=Lib.decDigits n.toNat:=rfl
theorem Jw3 {u:Nat} (h:u < 1000):1≤(Lib.decDigits u).length∧(Lib.decDigits u).length≤3:=by
 have h1:∀ {u:Nat},¬ u < 10→(Lib.decDigits u).length=(Lib.decDigits (u / 10)).length+1:=fun {u} h=>by
  conv=>lhs; rw [Lib.decDigits,dif_neg h]
  simp
 have h2:∀ {u:Nat},u < 10→(Lib.decDigits u).length=1:=fun {u} h=>by rw [Lib.decDigits_one h]; rfl
 by_cases a:u < 10
 ·
  rw [h2 a]; omega
 rw [h1 a]
 by_cases b:u / 10 < 10
 ·
  rw [h2 b]; omega
 rw [h1 b,h2 (show u / 10 / 10 < 10 by omega)]; omega
theorem Jq9 {d:Nat} (h:d < 10):(UInt8.ofNat (48+d)).toNat=48+d:=by
 simp [Nat.mod_eq_of_lt (show 48+d < 256 by omega)]
theorem Jny:∀ (u:Nat),Jd6 (Lib.decDigits u)=true∧numL (Lib.decDigits u)=u:=by
 intro u
 refine Nat.strongRecOn u ?_
 intro u ih
 by_cases h:u < 10
 ·
  rw [Lib.decDigits_one h]
  have:=Jq9 h
  refine ⟨?_,?_⟩
  ·
   simp only [Jd6,List.all_cons,List.all_nil,Bool.and_true,Bool.and_eq_true,decide_eq_true_eq]; omega
  simp only [numL,List.foldl_cons,List.foldl_nil]; omega
 rw [Lib.decDigits,dif_neg h]
 obtain ⟨h1,h2⟩:=ih (u / 10) (by omega)
 have:=Jq9 (show u % 10 < 10 by omega)
 refine ⟨?_,?_⟩
 ·
  unfold Jd6 at h1 ⊢
  rw [List.all_append,h1]
  simp only [List.all_cons,List.all_nil,Bool.and_true,Bool.true_and,Bool.and_eq_true,decide_eq_true_eq]; omega
 rw [Jr1,h2]; omega
theorem Jvh:∀ (u:Nat),0 < u→(Lib.decDigits u)[0]? ≠ some 48:=by
 intro u
 refine Nat.strongRecOn u ?_
 intro u ih h0
 by_cases h:u < 10
 ·
  rw [Lib.decDigits_one h]
  intro e
  have e2:=Option.some.inj e
  have:=congrArg UInt8.toNat e2
  rw [Jq9 h] at this
  have:(48:UInt8).toNat=48:=by decide
  omega
 rw [Lib.decDigits,dif_neg h]
 have hl:=Jny (u / 10)
 have hne:0 < (Lib.decDigits (u / 10)).length:=by
  by_cases b:u / 10 < 10
  ·
   rw [Lib.decDigits_one b]; simp
  rw [Lib.decDigits,dif_neg b]; simp
 rw [List.getElem?_append_left hne]
 exact ih (u / 10) (by omega) (by omega)
theorem Jv4 {n m:Int} (h:0≤n) (h1:1≤(Lib.decDigits n.toNat).length∧((Lib.decDigits n.toNat).length:Int)≤m):numB m (digB n)=some n:=by
 have h2:=Jny n.toNat
 have hs:(digB n).size=(Lib.decDigits n.toNat).length:=by rw [← Jbj,Jnh]
 have hd:Jb4 (digB n) m=true:=by
  simp only [Jb4,Bool.and_eq_true,decide_eq_true_eq]
  refine ⟨?_,h2.1⟩
  omega
 rw [Jr2 hd fun hb=>?_]
 ·
  rw [Jnh,h2.2]; congr 1; omega
 intro hs1
 have hn:¬ n.toNat < 10:=fun hn=>by
  rw [Lib.decDigits_one hn] at hs
  simp at hs
  omega
 have hh:=Jvh n.toNat (by omega)
 have e:=Jio (t:=digB n) (i:=0) (by omega)
 rw [show byt (digB n) ((0:Nat):Int)=48 from hb] at e
 have h48:(48:UInt8).toNat=48:=by decide
 have e3:((bl (digB n))[0]'(by rw [Jbj]; omega))=(Lib.decDigits n.toNat)[0]'(by omega):=rfl
 rw [e3] at e
 refine hh ?_
 rw [List.getElem?_eq_getElem (show 0 < (Lib.decDigits n.toNat).length by omega)]
 congr 1
 exact UInt8.toNat_inj.1 (by omega)
theorem Jpu {u:Nat} (h:u < 100):1≤(Lib.decDigits u).length∧(Lib.decDigits u).length≤2:=by
 have h1:=(Jw3 (u:=u) (by omega)).1
 by_cases a:u < 10
 ·
  rw [Lib.decDigits_one a]; simp
 have h2:(Lib.decDigits u).length=(Lib.decDigits (u / 10)).length+1:=by
  conv=>lhs; rw [Lib.decDigits,dif_neg a]
  simp
 rw [h2,Lib.decDigits_one (show u / 10 < 10 by omega)]
 simp
theorem Jod {n:Int} (h:0≤n∧n < 100):numB 2 (digB n)=some n:=by
 have h1:=Jpu (u:=n.toNat) (by omega)
 exact Jv4 h.1 ⟨h1.1,by omega⟩
theorem Jc2 {n:Int} (h:n < 100):(digB n).size≤2:=by
 rw [← Jbj,Jnh]
 exact (Jpu (by omega)).2
theorem Jt0 (ws:List ByteArray):bl (jnB ws)=Lib.join (ws.map bl) [32]:=rfl
theorem Jjy:∀ (r:List (List UInt8)) (x:List UInt8),(32:UInt8) ∉ x→(∀ y∈r,(32:UInt8) ∉ y)→Jbs 32 (x++Lib.joinTail [32] r)=x::r
 | [],x,hx,_=>by simp [Lib.joinTail,Jee hx]
 | y::r,x,hx,h=>by
  have ih:=Jjy r y (h y (by simp)) fun z hz=>h z (by simp [hz])
  have e:x++Lib.joinTail [32] (y::r)=x++32::(y++Lib.joinTail [32] r):=by simp [Lib.joinTail]
  rw [e,Jfk hx,ih]
theorem Jvj {ws:List ByteArray} (h0:ws≠[]) (h:∀ x∈ws,(32:UInt8) ∉ bl x):Jao 32 (jnB ws)=ws:=by
 cases ws with
 | nil=>exact absurd rfl h0
 | cons x r =>
  unfold Jao
  rw [Jt0,List.map_cons,Lib.join_cons,Jjy _ _ (h x (by simp)) (fun y hy=>by obtain ⟨z,hz,rfl⟩:=List.mem_map.1 hy; exact h z (by simp [hz]))]
  rw [← List.map_cons (f:=bl),List.map_map]
  conv=>rhs; rw [← List.map_id (x::r)]
  rfl
theorem Jsm {ws:List ByteArray} {n:Nat} (h:∀ x∈ws,x.size≤n):(jnB ws).size≤(n+1) * ws.length:=by
 rw [← Jbj,Jt0]
 exact Jn9 h
def Jkw:ByteArray:=⟨#[112,108,97,99,101]⟩
def Jk6:ByteArray:=⟨#[116,104,105,110,103]⟩
def Jiv:ByteArray:=⟨#[112,114,111,112]⟩
def Jnp:ByteArray:=⟨#[119,97,121]⟩
def Jk1:ByteArray:=⟨#[97,99,116]⟩
def Jfr:ByteArray:=⟨#[97,117,116,111]⟩
def Jcg:ByteArray:=⟨#[112,108,97,121,101,114,115]⟩
def Jem:ByteArray:=⟨#[103,111,97,108]⟩
def Jc6:ByteArray:=⟨#[115,101,116,115]⟩
def sgnB (b:Bool):ByteArray:=if b=true then ⟨#[33]⟩ else ⟨#[61]⟩
def litF (r:Room) (c:Lit):ByteArray:=(nth r.ths.l c.t).nm++sgnB c.nt++digB c.s
def Jaq (r:Room) (c:List Lit):List ByteArray:=c.map (litF r)
def Jav (w:ByteArray) (l:List ByteArray):List ByteArray:=if l.length=0 then [] else w::l
def Jb1 (c:List Put):List Lit:=c.map fun x=>⟨x.t,x.s,false⟩
def Ja0 (r:Room) (l:List Int):List ByteArray:=l.map fun p=>(nth r.prs.l p).nm
def Jd4 (nm:ByteArray):List ByteArray:=[Jkw,nm]
def Jc9 (r:Room) (x:Thing):List ByteArray:=[Jk6,x.nm,atW,nth r.pls.l x.pl,Jf7,digB x.st,Jii,digB x.sr]
def Jde (r:Room) (n:Int):List ByteArray:=if n = -1 then [Jhc] else [atW,nth r.pls.l n]
def Jfl (n:Int):List ByteArray:=if 0≤n then [Ji8,digB n] else []
def Jfm (r:Room) (x:Pro):List ByteArray:=[Jiv,x.nm]++(Jde r x.pl++Jav ifW (Jaq r x.wh.l))
def wayF (r:Room) (x:Way):List ByteArray:=[Jnp,nth r.pls.l x.a,nth r.pls.l x.b]++Jav ifW (Jaq r x.wh.l)
def actF (r:Room) (x:Actn):List ByteArray:=[Jk1,x.nm,atW,nth r.pls.l x.pl]++(Jfl x.lk++(Jav Jfa (Ja0 r x.us.l)++(Jav ifW (Jaq r x.wh.l)++(Jav Jc6 (Jaq r (Jb1 x.se.l))++(Jav Jb0 (Ja0 r x.sp.l)++Jav Jbu (Ja0 r x.br.l))))))
def Jen (r:Room) (x:Auto):List ByteArray:=[Jfr]++(Jaq r [⟨x.t,x.s,false⟩]++Jav ifW (Jaq r x.wh.l))
def Jiz (r:Room):List (List ByteArray):=[[Jcg,digB r.ply],[Jem]++Jaq r r.gl.l]
def fmtL (r:Room):List (List ByteArray):=r.pls.l.map Jd4++(r.ths.l.map (Jc9 r)++(r.prs.l.map (Jfm r)++(r.wys.l.map (wayF r)++(r.acs.l.map (actF r)++(r.aus.l.map (Jen r)++Jiz r)))))
def Jfu (ws:List ByteArray):ByteArray:=jnB ws++⟨#[10]⟩
def Jbc (ls:List (List ByteArray)):ByteArray:=ls.foldl (fun a ws=>a++Jfu ws) ⟨#[]⟩
def Jbi (r:Room):ByteArray × Int:=if checkE r=0 then (Jbc (fmtL r),0) else (⟨#[]⟩,checkE r)
structure FineW (x:ByteArray):Prop where
 hi:∀ b∈bl x,33≤b.toNat
 sz:x.size≤15
theorem Jb2 (a b:ByteArray):bl (a++b)=bl a++bl b:=by simp [bl,ByteArray.data_append]
theorem Jyx {x:ByteArray} (h:∀ b∈bl x,33≤b.toNat):(32:UInt8) ∉ bl x∧(10:UInt8) ∉ bl x:=⟨fun hm=>by
 have:=h _ hm
 have e:(32:UInt8).toNat=32:=by decide
 omega,fun hm=>by
 have:=h _ hm
 have e:(10:UInt8).toNat=10:=by decide
 omega⟩
theorem Jyh {t:ByteArray} (h:lowB t=true):∀ b∈bl t,97≤b.toNat∧b.toNat≤122:=fun b hb=>by
 obtain ⟨i,hi,rfl⟩:=List.mem_iff_getElem.1 hb
 have hs:i < t.size:=by rw [← Jbj]; exact hi
 unfold lowB at h
 have:=List.all_eq_true.1 h i (by simpa using hs)
 have e:=Jio hs
 simp only [Bool.and_eq_true,decide_eq_true_eq] at this
 omega
theorem Jmi {t:ByteArray} (h:Jay t=true):lowB t=true:=by
 simp only [Jay,Ja7,Bool.and_eq_true] at h
 exact h.2.1
theorem Jg6 {t:ByteArray} (h:Jay t=true):Ja7 t=true:=by
 simp only [Jay,Bool.and_eq_true] at h
 exact h.2
theorem Jbo {t:ByteArray} (h:Jay t=true):t.size≤12:=by
 simp only [Jay,Bool.and_eq_true,decide_eq_true_eq] at h
 omega
theorem FineW.named {t:ByteArray} (h:Jay t=true):FineW t:=⟨fun b hb=>by have:=Jyh (Jmi h) b hb; omega,by have:=Jbo h; omega⟩
theorem Jye (n:Int):∀ b∈bl (digB n),48≤b.toNat∧b.toNat≤57:=fun b hb=>by
 have h:=(Jny n.toNat).1
 unfold Jd6 at h
 have:=List.all_eq_true.1 h b hb
 simpa using this
theorem FineW.dig {n:Int} (h:n < 100):FineW (digB n):=⟨fun b hb=>by have:=Jye n b hb; omega,by have:=Jc2 h; omega⟩
theorem Jx1 (b:Bool):bl (sgnB b)=[if b=true then 33 else 61]:=by cases b <;> rfl
theorem Juc (b:Bool):(sgnB b).size=1:=by cases b <;> rfl
theorem FineW.lit {nm:ByteArray} {b:Bool} {n:Int} (h:Jay nm=true) (hn:n < 100):FineW (nm++sgnB b++digB n):=by
 refine ⟨fun x hx=>?_,?_⟩
 ·
  rw [Jb2,Jb2,Jx1] at hx
  rcases List.mem_append.1 hx with hx | hx
  ·
   rcases List.mem_append.1 hx with hx | hx
   ·
    exact (FineW.named h).hi x hx
   rw [List.mem_singleton] at hx
   subst hx
   cases b <;> decide
  have:=Jye n x hx; omega
 have h1:=Jbo h
 have h2:=Juc b
 have h3:=Jc2 hn
 simp only [ByteArray.size_append]
 omega
theorem Jv0 {l:List ByteArray} (h:l.all (fun x=>(bl x).all (fun b=>decide (33≤b.toNat)) && decide (x.size≤15))=true):∀ x∈l,FineW x:=fun x hx=>by
 have:=List.all_eq_true.1 h x hx
 simp only [Bool.and_eq_true,List.all_eq_true,decide_eq_true_eq] at this
 exact ⟨this.1,this.2⟩
theorem Jq0:∀ x∈[Jkw,Jk6,Jiv,Jnp,Jk1,Jfr,Jcg,Jem,Jc6,atW,Jf7,Jii,Jhc,Ji8,Jfa,Jb0,Jbu,ifW],FineW x:=Jv0 (by decide +kernel)
structure FineR (r:Room):Prop where
 rd:Ready r
 pl:∀ i:Int,0≤i→i < r.pls.l.length→Jay (nth r.pls.l i)=true∧newB id r.pls.l i=true
 th:∀ i:Int,0≤i→i < r.ths.l.length→Jay (nth r.ths.l i).nm=true∧newB Thing.nm r.ths.l i=true
 pr:∀ i:Int,0≤i→i < r.prs.l.length→Jay (nth r.prs.l i).nm=true∧newB Pro.nm r.prs.l i=true
 ac:∀ a∈r.acs.l,Jay a.nm=true ∧ -1≤a.lk∧a.lk≤7
 cpr:∀ a∈r.prs.l,Jeg r.ths.l a.wh.l=true
 cwy:∀ a∈r.wys.l,Jeg r.ths.l a.wh.l=true
 cac:∀ a∈r.acs.l,Jeg r.ths.l a.wh.l=true
 cau:∀ a∈r.aus.l,Jeg r.ths.l a.wh.l=true
 cgl:Jeg r.ths.l r.gl.l=true
theorem Jd0 {r:Room} (h:checkE r=0):FineR r:=by
 obtain ⟨hm,h2⟩:=Jf2 h
 obtain ⟨hpl,h3⟩:=Jb6 h2
 obtain ⟨hth,h4⟩:=Jb6 h3
 obtain ⟨hpr,h5⟩:=Jb6 h4
 obtain ⟨hwy,h6⟩:=Jb6 h5
 obtain ⟨hac,h7⟩:=Jb6 h6
 obtain ⟨hau,hgl⟩:=Jb6 h7
 refine ⟨Jfd h,fun i h0 h1=>?_,fun i h0 h1=>?_,fun i h0 h1=>?_,fun a ha=>?_,fun a ha=>?_,fun a ha=>?_,fun a ha=>?_,fun a ha=>?_,Jjc (Jb6 hgl).2⟩
 ·
  have:=ite0 (by decide) (Ja1 hpl i h0 h1)
  simpa only [Bool.and_eq_true] using this
 ·
  have:=ite0 (by decide) (Ja1 hth i h0 h1)
  simp only [Bool.and_eq_true] at this
  exact ⟨this.1,this.2.1⟩
 ·
  have:=ite0 (by decide) (Jb6 (Ja1 hpr i h0 h1)).1
  simp only [Bool.and_eq_true] at this
  exact ⟨this.1,this.2.1⟩
 ·
  obtain ⟨i,h0,h1,rfl⟩:=Ja4 ha
  have:=ite0 (by decide) (Jb6 (Ja1 hac i h0 h1)).1
  simp only [actB,act2,Bool.and_eq_true,decide_eq_true_eq] at this
  exact ⟨this.2.1.1,this.2.1.2.2.1.1,this.2.1.2.2.1.2⟩
 ·
  obtain ⟨i,h0,h1,rfl⟩:=Ja4 ha
  exact Jjc (Jb6 (Ja1 hpr i h0 h1)).2
 ·
  obtain ⟨i,h0,h1,rfl⟩:=Ja4 ha
  exact Jjc (Jb6 (Ja1 hwy i h0 h1)).2
 ·
  obtain ⟨i,h0,h1,rfl⟩:=Ja4 ha
  exact Jjc (Jb6 (Ja1 hac i h0 h1)).2
 obtain ⟨i,h0,h1,rfl⟩:=Ja4 ha
 exact Jjc (Jb6 (Ja1 hau i h0 h1)).2
theorem Jj6 {r:Room} (hF:FineR r) {a b:Int} (h:putB r.ths.l a b=true):0≤a∧a < r.ths.l.length∧0≤b∧b < 6:=by
 have ht:=Jn4 h
 have hs:=Jjm (hF.rd.ths _ (Jak ht.1 ht.2))
 simp only [putB,Bool.and_eq_true,decide_eq_true_eq] at h
 rw [Jsj (by omega)] at h
 omega
theorem Jm0 {α:Type} [Inhabited α] {f:α→ByteArray} {l:List α} {i:Int} (h0:0≤i) (h1:i < l.length) (h:newB f l i=true):idxN f l (f (nth l i))=i:=by
 unfold idxN
 refine Jbp h0 h1 (fun j j0 j1=>?_) (Jit.2 rfl)
 unfold newB at h
 simp only [Bool.not_eq_true'] at h
 cases hb:seq (f (nth l j)) (f (nth l i)) with
 | false=>rfl
 | true=>rw [Jdz (p:=fun x=>seq (f x) (f (nth l i))) j0 j1 (by omega) hb] at h; cases h
theorem J0w {t:ByteArray} (h:Ja7 t=true):resB t=false:=by
 simp only [Ja7,Bool.and_eq_true,Bool.not_eq_true'] at h
 exact h.2.1
def Jiu (ws:Wds):Prop:=match ws with
 | []=>True
 | t::_=>resB t=true
theorem Jlg:∀ {l m:List UInt8} {s:UInt8},(∀ b∈l,¬ (b=61∨b=33))→(s=61∨s=33)→Jdv (l++s::m)=l.length
 | [],m,s,_,hs=>by simp only [List.nil_append,Jdv]; rw [if_pos hs]; rfl
 | b::l,m,s,h,hs=>by
  rw [List.cons_append,Jdv,if_neg (h b (by simp)),Jlg (fun x hx=>h x (by simp [hx])) hs]
  rfl
theorem Jqa {t:ByteArray} (h:lowB t=true):∀ b∈bl t,¬ (b=61∨b=33):=fun b hb=>by
 have:=Jyh h b hb
 rintro (rfl | rfl)
 ·
  have e:(61:UInt8).toNat=61:=by decide
  omega
 have e:(33:UInt8).toNat=33:=by decide
 omega
theorem Jwm (b:Bool):(if b=true then (33:UInt8) else 61)=61∨(if b=true then (33:UInt8) else 61)=33:=by cases b <;> simp
theorem Jle (r:Room) (c:Lit):bl (litF r c)=bl (nth r.ths.l c.t).nm++(if c.nt=true then 33 else 61)::bl (digB c.s):=by
 unfold litF
 rw [Jb2,Jb2,Jx1]
 simp
theorem Jw1 {r:Room} {c:Lit} (h:lowB (nth r.ths.l c.t).nm=true):Jbn (litF r c)=(nth r.ths.l c.t).nm.size:=by
 unfold Jbn
 rw [Jle,Jlg (Jqa h) (Jwm _),Jbj]
theorem Jz0 {r:Room} {c:Lit}:resB (litF r c)=false:=by
 unfold resB
 rw [List.any_eq_false]
 intro x hx he
 have hxe:x=litF r c:=Jit.1 he
 have hall:∀ y∈wordL,(bl y).all (fun b=>decide (97≤b.toNat))=true:=by decide +kernel
 have hm:(if c.nt=true then (33:UInt8) else 61)∈bl x:=by rw [hxe,Jle]; simp
 have:=List.all_eq_true.1 (hall x hx) _ hm
 cases hb:c.nt <;> rw [hb] at this <;> revert this <;> decide
theorem J4z {a b:List UInt8} {n:Nat} (h:n=a.length):(ba (a++b)).extract 0 n=ba a:=by
 rw [Juw]
 show ba (((a++b).drop 0).take (n - 0))=ba a
 subst h
 simp
theorem J4i {a b:List UInt8} {s:UInt8} {n:Nat} (h:n=a.length):(ba (a++s::b)).extract (n+1) (ba (a++s::b)).size=ba b:=by
 rw [Juw]
 show ba (((a++s::b).drop (n+1)).take ((ba (a++s::b)).size - (n+1)))=ba b
 have e:(ba (a++s::b)).size=a.length+(b.length+1):=by rw [← Jbj]; show (a++s::b).length=_; simp
 have e2:(a++s::b).drop (n+1)=b:=by subst h; rw [← List.drop_drop,List.drop_left]; rfl
 rw [e,e2,List.take_of_length_le (by omega)]
theorem Jn5 {r:Room} (hF:FineR r) {c:Lit} (h:putB r.ths.l c.t c.s=true):litT r.ths.l (litF r c)=some c:=by
 obtain ⟨h0,h1,h2,h3⟩:=Jj6 hF h
 obtain ⟨hn,hnew⟩:=hF.th c.t h0 h1
 have hs:=Jw1 (r:=r) (c:=c) (Jmi hn)
 have hb:litF r c=ba (bl (nth r.ths.l c.t).nm++(if c.nt=true then 33 else 61)::bl (digB c.s)):=by rw [← Jle]
 have e1:(litF r c).extract 0 (nth r.ths.l c.t).nm.size=(nth r.ths.l c.t).nm:=by rw [hb,J4z (by rw [Jbj])]
 have e2:(litF r c).extract ((nth r.ths.l c.t).nm.size+1) (litF r c).size=digB c.s:=by rw [hb,J4i (by rw [Jbj])]
 have hsz:(nth r.ths.l c.t).nm.size < (litF r c).size:=by
  rw [← Jbj (litF r c),Jle,List.length_append,Jbj]
  simp
 have hi:=Jm0 (f:=Thing.nm) h0 h1 hnew
 have e3:decide (byt (litF r c) ((nth r.ths.l c.t).nm.size:Int)=33)=c.nt:=by
  rw [Jio hsz]
  have e4:(bl (litF r c))[(nth r.ths.l c.t).nm.size]? = some (if c.nt=true then 33 else 61):=by
   rw [Jle,List.getElem?_append_right (by rw [Jbj]; omega),Jbj,Nat.sub_self]; rfl
  have e5:=(List.getElem?_eq_some_iff.1 e4).2
  rw [e5]
  cases c.nt <;> decide
 unfold litT
 rw [hs,e1,if_pos ⟨hsz,Jg6 hn,by rw [hi]; exact h0⟩,e2,Jod (by omega),hi,e3]
 rfl
theorem Jgt {r:Room} (hF:FineR r) {ws:Wds} (hw:Jiu ws):∀ {c:List Lit},(∀ x∈c,putB r.ths.l x.t x.s=true)→Jcr r.ths.l (Jaq r c++ws)=some (c,ws)
 | [],_=>by
  show Jcr r.ths.l ws=_
  cases ws with
  | nil=>rfl
  | cons t l=>rw [Jcr,if_pos (show resB t=true from hw)]
 | a::c,h=>by
  show Jcr r.ths.l (litF r a::(Jaq r c++ws))=_
  rw [Jcr,Jz0,if_neg (by decide),Jn5 hF (h a (by simp)),Jgt hF hw fun x hx=>h x (by simp [hx])]
theorem Jf9 {w:ByteArray} {l:List ByteArray} (h:l.length=0):Jav w l=[]:=if_pos h
theorem Jed {w:ByteArray} {l:List ByteArray} (h:¬ l.length=0):Jav w l=w::l:=if_neg h
theorem Jgq {w:ByteArray} {l:List ByteArray} {ws:Wds} (h:resB w=true) (hw:Jiu ws):Jiu (Jav w l++ws):=by
 by_cases h0:l.length=0
 ·
  rw [Jf9 h0]; exact hw
 rw [Jed h0]; exact h
theorem Jck {v w:ByteArray} {l:List ByteArray} {ws:Wds} (h:seq w v=false) (hw:isW v ws=false):isW v (Jav w l++ws)=false:=by
 by_cases h0:l.length=0
 ·
  rw [Jf9 h0]; exact hw
 rw [Jed h0]; exact h
theorem Jgn {v:ByteArray}:isW v []=false:=rfl
theorem Jhj {v:ByteArray} {ws:Wds}:isW v (v::ws)=true:=Jit.2 rfl
theorem Ja9 {ths:List Thing} {c:List Lit} (h:Jeg ths c=true):(∀ x∈c,putB ths x.t x.s=true)∧c.length≤8:=by
 simp only [Jeg,Bool.and_eq_true,List.all_eq_true,decide_eq_true_eq] at h
 exact ⟨h.1,by omega⟩
theorem Jg0 {r:Room} (hF:FineR r) {ws:Wds} (hw:Jiu ws) (hi:isW ifW ws=false) {c:List Lit} (h:Jeg r.ths.l c=true):Jhw r.ths.l (Jav ifW (Jaq r c)++ws)=some (c,ws):=by
 unfold Jhw
 by_cases h0:(Jaq r c).length=0
 ·
  rw [Jf9 h0,List.nil_append,hi,if_neg (by decide)]
  have:c=[]:=by simpa [Jaq] using h0
  rw [this]
 rw [Jed h0,List.cons_append,Jhj,if_pos rfl]
 show (Jcr r.ths.l (Jaq r c++ws)).bind _=_
 rw [Jgt hF hw (Ja9 h).1,Option.bind_some,if_neg (fun e=>h0 (by
  have e:c=[]:=e
  rw [e]; rfl))]
theorem Jj7 {r:Room} (hF:FineR r) {ws:Wds} (hw:Jiu ws):∀ {l:List Int},(∀ x∈l,0≤x∧x < r.prs.l.length)→Jbw r.prs.l (Ja0 r l++ws)=some (l,ws)
 | [],_=>by
  show Jbw r.prs.l ws=_
  cases ws with
  | nil=>rfl
  | cons t l=>rw [Jbw,if_pos (show resB t=true from hw)]
 | a::c,h=>by
  obtain ⟨h0,h1⟩:=h a (by simp)
  obtain ⟨hn,hnew⟩:=hF.pr a h0 h1
  have hi:=Jm0 (f:=Pro.nm) h0 h1 hnew
  show Jbw r.prs.l ((nth r.prs.l a).nm::(Ja0 r c++ws))=_
  rw [Jbw,J0w (Jg6 hn),if_neg (by decide),if_pos ⟨Jg6 hn,by rw [hi]; exact h0⟩,Jj7 hF hw fun x hx=>h x (by simp [hx]),hi]
theorem Jij {r:Room} (hF:FineR r) {w:ByteArray} {ws:Wds} (hw:Jiu ws) (hi:isW w ws=false) {l:List Int} (h:∀ x∈l,0≤x∧x < r.prs.l.length):Jer r.prs.l w (Jav w (Ja0 r l)++ws)=some (l,ws):=by
 unfold Jer
 by_cases h0:(Ja0 r l).length=0
 ·
  rw [Jf9 h0,List.nil_append,hi,if_neg (by decide)]
  have:l=[]:=by simpa [Ja0] using h0
  rw [this]
 rw [Jed h0,List.cons_append,Jhj,if_pos rfl]
 show (Jbw r.prs.l (Ja0 r l++ws)).bind _=_
 rw [Jj7 hF hw h,Option.bind_some,if_neg (fun e=>h0 (by
  have e:l=[]:=e
  rw [e]; rfl))]
theorem Jlc:∀ (c:List Put),Jfw (Jb1 c)=some c
 | []=>rfl
 | a::c=>by
  show Jfw (⟨a.t,a.s,false⟩::Jb1 c)=_
  rw [Jfw,if_neg (fun h=>Bool.noConfusion h),Jlc c]
  rfl
theorem Jpy {r:Room} (hF:FineR r) {ws:Wds} (hw:Jiu ws) (hi:isW Jc6 ws=false) {c:List Put} (h:∀ x∈c,putB r.ths.l x.t x.s=true):Jks r.ths.l (Jav Jc6 (Jaq r (Jb1 c))++ws)=some (c,ws):=by
 unfold Jks
 have hp:∀ x∈Jb1 c,putB r.ths.l x.t x.s=true:=fun x hx=>by
  obtain ⟨y,hy,rfl⟩:=List.mem_map.1 hx
  exact h y hy
 by_cases h0:(Jaq r (Jb1 c)).length=0
 ·
  rw [Jf9 h0,List.nil_append,show isW ⟨#[115,101,116,115]⟩ ws=false from hi,if_neg (by decide)]
  have:c=[]:=by simpa [Jaq,Jb1] using h0
  rw [this]
 rw [Jed h0,List.cons_append,show isW ⟨#[115,101,116,115]⟩ (Jc6::(Jaq r (Jb1 c)++ws))=true from Jhj,if_pos rfl]
 show (Jcr r.ths.l (Jaq r (Jb1 c)++ws)).bind _=_
 rw [Jgt hF hw hp,Option.bind_some,Jlc,Option.bind_some,if_neg (fun e=>h0 (by rw [e]; rfl))]
theorem Je8 {t:ByteArray} {ws:Wds} (h:Jay t=true):Jfn (t::ws)=some (t,ws):=by
 show (if Ja7 t=true then some (t,ws) else none)=_
 rw [if_pos (Jg6 h)]
theorem Jd5 {r:Room} (hF:FineR r) {n:Int} {ws:Wds} (h:0≤n∧n < r.pls.l.length):Jcb id r.pls.l (nth r.pls.l n::ws)=some (n,ws):=by
 obtain ⟨hn,hnew⟩:=hF.pl n h.1 h.2
 have hi:=Jm0 (f:=id) h.1 h.2 hnew
 unfold Jcb
 rw [Je8 hn,Option.bind_some]
 show (if 0≤idxN id r.pls.l (nth r.pls.l n) then some (idxN id r.pls.l (nth r.pls.l n),ws) else none)=_
 rw [show idxN id r.pls.l (nth r.pls.l n)=n from hi,if_pos h.1]
theorem Jey {t:ByteArray} {ws:Wds}:Jke t (t::ws)=some ws:=if_pos Jhj
theorem Jh1 {n:Int} {ws:Wds} (h:0≤n∧n < 100):numW 2 (digB n::ws)=some (n,ws):=by
 show (numB 2 (digB n)).map _=_
 rw [Jod h]
 rfl
theorem Jv8 {R:Room} {nm:ByteArray} (h:Jay nm=true):Ja3 R 0 [nm]=some (.place nm,[]):=by
 show (Jfn [nm]).map _=_
 rw [Je8 h]
 rfl
theorem Jwv {r R:Room} (hF:FineR r) (hp:R.pls.l=r.pls.l) {x:Thing} (hx:thB r x=true) (hn:Jay x.nm=true):Ja3 R 1 (Jc9 r x).tail=some (.thing x,[]):=by
 have h2:=Jjm hx
 simp only [thB,Bool.and_eq_true,decide_eq_true_eq] at hx
 show Jdl R [x.nm,atW,nth r.pls.l x.pl,Jf7,digB x.st,Jii,digB x.sr]=_
 unfold Jdl
 rw [Je8 hn,Option.bind_some,Jey,Option.bind_some,hp,Jd5 hF (Jb9 hx.1),Option.bind_some,Jey,Option.bind_some,Jh1 (by omega),Option.bind_some,Jey,Option.bind_some,Jh1 (by omega)]
 rfl
theorem Jqc {r R:Room} (hF:FineR r) (hp:R.pls.l=r.pls.l) {n:Int} {ws:Wds} (h:n = -1∨placeB r n=true):Jg4 R (Jde r n++ws)=some (n,ws):=by
 unfold Jg4 Jde
 by_cases h1:n = -1
 ·
  rw [if_pos h1,h1]
  show (if isW Jhc (Jhc::ws)=true then some (-1,ws) else _)=_
  rw [Jhj,if_pos rfl]
 rw [if_neg h1]
 show (if isW Jhc (atW::nth r.pls.l n::ws)=true then _ else (Jke atW (atW::nth r.pls.l n::ws)).bind _)=_
 rw [show isW Jhc (atW::nth r.pls.l n::ws)=false from (by decide +kernel:seq atW Jhc=false),if_neg (by decide),Jey,Option.bind_some,hp,Jd5 hF (Jb9 (h.resolve_left h1))]
theorem Jyr {r R:Room} (hF:FineR r) (hp:R.pls.l=r.pls.l) (ht:R.ths.l=r.ths.l) {x:Pro} (hx:x∈r.prs.l) (hn:Jay x.nm=true):Ja3 R 2 (Jfm r x).tail=some (.prop x.nm x.pl x.wh.l,[]):=by
 show Jje R (x.nm::(Jde r x.pl++Jav ifW (Jaq r x.wh.l)))=_
 have hw:=Jg0 hF (ws:=[]) trivial Jgn (hF.cpr x hx)
 rw [List.append_nil] at hw
 unfold Jje
 rw [Je8 hn,Option.bind_some,Jqc hF hp (hF.rd.prs x hx).2,Option.bind_some,ht,hw]
 rfl
theorem J28 {r R:Room} (hF:FineR r) (hp:R.pls.l=r.pls.l) (ht:R.ths.l=r.ths.l) {x:Way} (hx:x∈r.wys.l):Ja3 R 3 (wayF r x).tail=some (.way x.a x.b x.wh.l,[]):=by
 show wayW R (nth r.pls.l x.a::nth r.pls.l x.b::Jav ifW (Jaq r x.wh.l))=_
 have hw:=Jg0 hF (ws:=[]) trivial Jgn (hF.cwy x hx)
 rw [List.append_nil] at hw
 have hy:=hF.rd.wys x hx
 unfold wayW
 rw [hp,Jd5 hF hy.2.1,Option.bind_some,Jd5 hF hy.2.2,Option.bind_some,ht,hw]
 rfl
theorem Js1 {n:Int} {ws:Wds} (h : -1≤n∧n≤7) (hw:isW Ji8 ws=false):Jew (Jfl n++ws)=some (n,ws):=by
 unfold Jew Jfl
 by_cases h0:0≤n
 ·
  rw [if_pos h0]
  show (if isW Ji8 (Ji8::digB n::ws)=true then numW 2 (digB n::ws) else _)=_
  rw [Jhj,if_pos rfl,Jh1 (by omega)]
 rw [if_neg h0,List.nil_append,hw,if_neg (by decide),show n = -1 by omega]
theorem J24 {r R:Room} (hF:FineR r) (hp:R.pls.l=r.pls.l) (ht:R.ths.l=r.ths.l) (hr:R.prs.l.map Pro.nm=r.prs.l.map Pro.nm) {x:Actn} (hx:x∈r.acs.l) :
  Ja3 R 4 (actF r x).tail=some (.act x.nm x.pl x.lk x.us.l x.wh.l x.se.l x.sp.l x.br.l,[]):=by
 obtain ⟨hn,hl⟩:=hF.ac x hx
 have hA:=hF.rd.acs x hx
 have s6:Jiu (Jav Jbu (Ja0 r x.br.l)++[]):=Jgq (by decide +kernel) trivial
 have s5:Jiu (Jav Jb0 (Ja0 r x.sp.l)++(Jav Jbu (Ja0 r x.br.l)++[])):=Jgq (by decide +kernel) s6
 have s4:Jiu (Jav Jc6 (Jaq r (Jb1 x.se.l))++(Jav Jb0 (Ja0 r x.sp.l)++(Jav Jbu (Ja0 r x.br.l)++[]))):=Jgq (by decide +kernel) s5
 have s3:Jiu (Jav ifW (Jaq r x.wh.l)++(Jav Jc6 (Jaq r (Jb1 x.se.l))++(Jav Jb0 (Ja0 r x.sp.l)++(Jav Jbu (Ja0 r x.br.l)++[])))):=Jgq (by decide +kernel) s4
 have r6:=Jij hF (w:=Jbu) (ws:=[]) trivial Jgn hA.br
 have r5:=Jij hF (w:=Jb0) s6 (Jck (by decide +kernel) Jgn) hA.sp
 have r4:=Jpy hF s5 (Jck (by decide +kernel) (Jck (by decide +kernel) Jgn)) hA.se
 have r3:=Jg0 hF s4 (Jck (by decide +kernel) (Jck (by decide +kernel) (Jck (by decide +kernel) Jgn))) (hF.cac x hx)
 have r2:=Jij hF (w:=Jfa) s3 (Jck (by decide +kernel) (Jck (by decide +kernel) (Jck (by decide +kernel) (Jck (by decide +kernel) Jgn)))) hA.us
 have r1:=Js1 (n:=x.lk) hl (ws:=Jav Jfa (Ja0 r x.us.l)++(Jav ifW (Jaq r x.wh.l)++(Jav Jc6 (Jaq r (Jb1 x.se.l))++(Jav Jb0 (Ja0 r x.sp.l)++(Jav Jbu (Ja0 r x.br.l)++[])))))
  (Jck (by decide +kernel) (Jck (by decide +kernel) (Jck (by decide +kernel) (Jck (by decide +kernel) (Jck (by decide +kernel) Jgn)))))
 have hL:∀ w ws,Jer R.prs.l w ws=Jer r.prs.l w ws:=fun w ws=>Jo2 hr w ws
 simp only [List.append_nil] at r1 r2 r3 r4 r5 r6
 show actW R (x.nm::atW::nth r.pls.l x.pl::(Jfl x.lk++(Jav Jfa (Ja0 r x.us.l)++(Jav ifW (Jaq r x.wh.l)++(Jav Jc6 (Jaq r (Jb1 x.se.l))++(Jav Jb0 (Ja0 r x.sp.l)++Jav Jbu (Ja0 r x.br.l)))))))=_
 unfold actW
 rw [Je8 hn,Option.bind_some,Jey,Option.bind_some,hp,Jd5 hF hA.pl,Option.bind_some,r1,Option.bind_some,hL,r2,Option.bind_some,ht,r3,Option.bind_some,r4,Option.bind_some,hL,r5,Option.bind_some,hL,r6]
 rfl
theorem Jzb {r R:Room} (hF:FineR r) (ht:R.ths.l=r.ths.l) {x:Auto} (hx:x∈r.aus.l):Ja3 R 5 (Jen r x).tail=some (.auto x.t x.s x.wh.l,[]):=by
 have hw:=Jg0 hF (ws:=[]) trivial Jgn (hF.cau x hx)
 rw [List.append_nil] at hw
 have hl:litT r.ths.l (litF r ⟨x.t,x.s,false⟩)=some ⟨x.t,x.s,false⟩:=Jn5 hF (hF.rd.aut x hx)
 show Jjf R (litF r ⟨x.t,x.s,false⟩::Jav ifW (Jaq r x.wh.l))=_
 unfold Jjf
 show (litT R.ths.l (litF r ⟨x.t,x.s,false⟩)).bind _=_
 rw [ht,hl,Option.bind_some,if_neg (fun h=>Bool.noConfusion h),hw]
 rfl
theorem Jp6 {r R:Room} (hF:FineR r):Ja3 R 6 [digB r.ply]=some (.players r.ply,[]):=by
 have:=hF.rd.ply
 show (numW 2 [digB r.ply]).map _=_
 rw [Jh1 (by omega)]
 rfl
theorem Jzi {r R:Room} (hF:FineR r) (ht:R.ths.l=r.ths.l):Ja3 R 7 (Jaq r r.gl.l)=some (.goal r.gl.l,[]):=by
 have hc:=Jgt hF (ws:=[]) trivial (Ja9 hF.cgl).1
 rw [List.append_nil] at hc
 show (Jcr R.ths.l (Jaq r r.gl.l)).map _=_
 rw [ht,hc]
 rfl
def Jgh (n:Nat) (ws:List ByteArray):Prop:=ws≠[]∧(∀ x∈ws,FineW x)∧ws.length≤n
theorem Jc5 {R:Room} {kd k:Int} {h:ByteArray} {ws:List ByteArray} {n:Nat} {x:Ln} (hf:Jgh n (h::ws)) (hk:Jft h=k) (hm:mayK kd k=true) (hb:Ja3 R k ws=some (x,[])):Jcd R kd (jnB (h::ws))=some (k,x):=by
 unfold Jcd
 rw [Jvj (List.cons_ne_nil _ _) (fun y hy=>(Jyx (hf.2.1 y hy).hi).1)]
 show (if mayK kd (Jft h)=true then (Ja3 R (Jft h) ws).bind _ else none)=_
 rw [hk,if_pos hm,hb]
 rfl
theorem Jhk {kd k:Int} (h:kd≤k) (h5:k≤5):mayK kd k=true:=by
 simp only [mayK,Bool.and_eq_true,Bool.or_eq_true,Bool.not_eq_true',Bool.and_eq_false_iff,decide_eq_true_eq,decide_eq_false_iff_not]
 omega
theorem Jil:∀ {ts:List ByteArray} {R q:Room} {kd k i:Int},Jdg R kd ts=some (q,k)→∃ j,Jel R kd i (ts++[⟨#[]⟩])=finP q k j
 | [],R,q,kd,k,i,h=>by
  cases h
  refine ⟨i,?_⟩
  show Jel R kd i [⟨#[]⟩]=_
  rw [Jf6,if_pos (Jit.2 rfl)]
 | t::ts,R,q,kd,k,i,h=>by
  rw [Jdg] at h
  cases hl:Jcd R kd t with
  | none=>rw [hl] at h; cases h
  | some z =>
   rw [hl] at h
   obtain ⟨j,hj⟩:=Jil (i:=i+1) h
   refine ⟨j,?_⟩
   rw [List.cons_append,Jmt (by simp) hl,hj]
theorem Jds:∀ {a b:List ByteArray} {R q:Room} {kd k:Int},Jdg R kd a=some (q,k)→Jdg R kd (a++b)=Jdg q k b
 | [],b,R,q,kd,k,h=>by cases h; rfl
 | t::a,b,R,q,kd,k,h=>by
  rw [Jdg] at h
  rw [List.cons_append,Jdg]
  cases hl:Jcd R kd t with
  | none=>rw [hl] at h; cases h
  | some z =>
   rw [hl] at h
   exact Jds h
theorem Jdr {α β:Type} (S:List β→Room) (F:α→List ByteArray) (ln:α→Ln) (g:α→β) {k:Int} (hk:k≤5) (hS:∀ ys x,addL (S ys) (ln x)=S (ys++[g x])) :
  ∀ {xs:List α} {ys:List β} {kd:Int},kd≤k→(∀ x∈xs,∀ ys kd,kd≤k→Jcd (S ys) kd (jnB (F x))=some (k,ln x))→∃ kd',kd'≤k∧Jdg (S ys) kd (xs.map fun x=>jnB (F x))=some (S (ys++xs.map g),kd')
 | [],ys,kd,h,_=>⟨kd,h,by simp [Jdg]⟩
 | x::xs,ys,kd,h,hx=>by
  obtain ⟨kd',h1,h2⟩:=Jdr S F ln g hk hS (xs:=xs) (ys:=ys++[g x]) (kd:=k) (Int.le_refl _) fun y hy=>hx y (by simp [hy])
  refine ⟨kd',h1,?_⟩
  rw [List.map_cons,Jdg,hx x (by simp) ys kd h]
  show Jdg (addL (S ys) (ln x)) k _=_
  rw [hS,h2]
  simp
def mkR (a:List ByteArray) (b:List Thing) (c:List Pro) (d:List Way) (e:List Actn) (f:List Auto) (n:Int) (g:List Lit):Room:=⟨nls a,nls b,nls c,nls d,nls e,nls f,n,nls g⟩
def nPro (x:Pro):Pro:=⟨x.nm,x.pl,nls x.wh.l⟩
def nWay (x:Way):Way:=⟨x.a,x.b,nls x.wh.l⟩
def nAct (x:Actn):Actn:=⟨x.nm,x.pl,x.lk,nls x.us.l,nls x.wh.l,nls x.se.l,nls x.sp.l,nls x.br.l⟩
def Jw5 (x:Auto):Auto:=⟨nls x.wh.l,x.t,x.s⟩
def Jto (r:Room):Room:=mkR r.pls.l r.ths.l (r.prs.l.map nPro) (r.wys.l.map nWay) (r.acs.l.map nAct) (r.aus.l.map Jw5) r.ply r.gl.l
theorem Jr5 (r:Room):(Jto r).e=r.e:=by
 simp [Jto,mkR,Room.e,Sl.e,nls,List.map_map,Function.comp_def,nPro,nWay,nAct,Jw5,Pro.e,Way.e,Actn.e,Auto.e]
theorem Jb3 {x:ByteArray} (h:x∈[Jkw,Jk6,Jiv,Jnp,Jk1,Jfr,Jcg,Jem,Jc6,atW,Jf7,Jii,Jhc,Ji8,Jfa,Jb0,Jbu,ifW]):FineW x:=Jq0 x h
theorem FineR.plw {r:Room} (hF:FineR r) {n:Int} (h:0≤n∧n < r.pls.l.length):FineW (nth r.pls.l n):=FineW.named (hF.pl n h.1 h.2).1
theorem Jar {x:ByteArray} {l:List ByteArray} (h:FineW x) (hl:∀ y∈l,FineW y):∀ y∈x::l,FineW y:=fun y hy=>by
 rcases List.mem_cons.1 hy with rfl | hy
 ·
  exact h
 exact hl y hy
theorem Jcj {a b:List ByteArray} (h:∀ y∈a,FineW y) (hl:∀ y∈b,FineW y):∀ y∈a++b,FineW y:=fun y hy=>by
 rcases List.mem_append.1 hy with hy | hy
 ·
  exact h y hy
 exact hl y hy
theorem Jca:∀ y∈([]:List ByteArray),FineW y:=fun y hy=>by cases hy
theorem Jc4 {w:ByteArray} {l:List ByteArray} (hw:FineW w) (hl:∀ y∈l,FineW y):∀ y∈Jav w l,FineW y:=by
 unfold Jav
 split
 ·
  exact Jca
 exact Jar hw hl
theorem Jcn {r:Room} (hF:FineR r) {c:List Lit} (h:∀ x∈c,putB r.ths.l x.t x.s=true):∀ y∈Jaq r c,FineW y:=fun y hy=>by
 obtain ⟨x,hx,rfl⟩:=List.mem_map.1 hy
 obtain ⟨h0,h1,h2,h3⟩:=Jj6 hF (h x hx)
 exact FineW.lit (hF.th _ h0 h1).1 (by omega)
theorem Jfe {r:Room} (hF:FineR r) {c:List Int} (h:∀ x∈c,0≤x∧x < r.prs.l.length):∀ y∈Ja0 r c,FineW y:=fun y hy=>by
 obtain ⟨x,hx,rfl⟩:=List.mem_map.1 hy
 exact FineW.named (hF.pr _ (h x hx).1 (h x hx).2).1
theorem Jdi {w:ByteArray} {l:List ByteArray}:(Jav w l).length≤l.length+1:=by
 unfold Jav
 split
 ·
  simp
 simp
theorem Jbf {r:Room} {c:List Lit}:(Jaq r c).length=c.length:=List.length_map _
theorem Jdp {r:Room} {c:List Int}:(Ja0 r c).length=c.length:=List.length_map _
theorem Joe {r:Room} {c:List Put} (h:∀ x∈c,putB r.ths.l x.t x.s=true):∀ x∈Jb1 c,putB r.ths.l x.t x.s=true:=fun x hx=>by
 obtain ⟨y,hy,rfl⟩:=List.mem_map.1 hx
 exact h y hy
theorem Jff {r:Room} (hF:FineR r) {x:ByteArray} (h:Jay x=true):Jgh 13 (Jd4 x):=⟨List.cons_ne_nil _ _,Jar (Jb3 (by simp)) (Jar (FineW.named h) Jca),by simp [Jd4]⟩
theorem Jfg {r:Room} (hF:FineR r) {x:Thing} (hx:thB r x=true) (h:Jay x.nm=true):Jgh 13 (Jc9 r x):=by
 have h2:=Jjm hx
 have h3:=hx
 simp only [thB,Bool.and_eq_true,decide_eq_true_eq] at h3
 exact ⟨List.cons_ne_nil _ _,Jar (Jb3 (by simp)) (Jar (FineW.named h) (Jar (Jb3 (by simp)) (Jar (hF.plw (Jb9 h3.1)) (Jar (Jb3 (by simp)) (Jar (FineW.dig (by omega)) (Jar (Jb3 (by simp)) (Jar (FineW.dig (by omega)) Jca))))))),by simp [Jc9]⟩
theorem Jp4 {r:Room} (hF:FineR r) {n:Int} (h:n = -1∨placeB r n=true):(∀ y∈Jde r n,FineW y)∧(Jde r n).length≤2:=by
 unfold Jde
 split
 ·
  exact ⟨Jar (Jb3 (by simp)) Jca,by simp⟩
 rename_i h1
 exact ⟨Jar (Jb3 (by simp)) (Jar (hF.plw (Jb9 (h.resolve_left h1))) Jca),by simp⟩
theorem Jg2 {r:Room} (hF:FineR r) {x:Pro} (hx:x∈r.prs.l) (h:Jay x.nm=true):Jgh 13 (Jfm r x):=by
 have hw:=Jp4 hF (hF.rd.prs x hx).2
 have hc:=Ja9 (hF.cpr x hx)
 have hl:=Jdi (w:=ifW) (l:=Jaq r x.wh.l)
 rw [Jbf] at hl
 refine ⟨List.cons_ne_nil _ _,Jcj (Jar (Jb3 (by simp)) (Jar (FineW.named h) Jca)) (Jcj hw.1 (Jc4 (Jb3 (by simp)) (Jcn hF hc.1))),?_⟩
 simp only [Jfm,List.length_append,List.length_cons,List.length_nil]
 omega
theorem Jh3 {r:Room} (hF:FineR r) {x:Way} (hx:x∈r.wys.l):Jgh 13 (wayF r x):=by
 have hw:=hF.rd.wys x hx
 have hc:=Ja9 (hF.cwy x hx)
 have hl:=Jdi (w:=ifW) (l:=Jaq r x.wh.l)
 rw [Jbf] at hl
 refine ⟨List.cons_ne_nil _ _,Jcj (Jar (Jb3 (by simp)) (Jar (hF.plw hw.2.1) (Jar (hF.plw hw.2.2) Jca))) (Jc4 (Jb3 (by simp)) (Jcn hF hc.1)),?_⟩
 simp only [wayF,List.length_append,List.length_cons,List.length_nil]
 omega
theorem Jri {n:Int} (h:n≤7):(∀ y∈Jfl n,FineW y)∧(Jfl n).length≤2:=by
 unfold Jfl
 split
 ·
  exact ⟨Jar (Jb3 (by simp)) (Jar (FineW.dig (by omega)) Jca),by simp⟩
 exact ⟨Jca,by simp⟩
theorem Jh4 {r:Room} (hF:FineR r) {x:Actn} (hx:x∈r.acs.l):Jgh 55 (actF r x):=by
 obtain ⟨hn,hl⟩:=hF.ac x hx
 have hA:=hF.rd.acs x hx
 have hc:=Ja9 (hF.cac x hx)
 have hk:=Jri hl.2
 have hr:=hF.rd.lens
 have l1:=Jdi (w:=Jfa) (l:=Ja0 r x.us.l)
 have l2:=Jdi (w:=ifW) (l:=Jaq r x.wh.l)
 have l3:=Jdi (w:=Jc6) (l:=Jaq r (Jb1 x.se.l))
 have l4:=Jdi (w:=Jb0) (l:=Ja0 r x.sp.l)
 have l5:=Jdi (w:=Jbu) (l:=Ja0 r x.br.l)
 rw [Jdp] at l1 l4 l5
 rw [Jbf] at l2 l3
 rw [show (Jb1 x.se.l).length=x.se.l.length from List.length_map _] at l3
 have k1:=hA.lus
 have k2:=hA.lsp
 have k3:=hA.lbr
 have k4:=hA.lse
 refine ⟨List.cons_ne_nil _ _,Jcj (Jar (Jb3 (by simp)) (Jar (FineW.named hn) (Jar (Jb3 (by simp)) (Jar (hF.plw hA.pl) Jca)))) ((Jcj hk.1 (Jcj (Jc4 (Jb3 (by simp)) (Jfe hF hA.us)) (Jcj (Jc4 (Jb3 (by simp)) (Jcn hF hc.1))
  (Jcj (Jc4 (Jb3 (by simp)) (Jcn hF (Joe hA.se))) (Jcj (Jc4 (Jb3 (by simp)) (Jfe hF hA.sp)) (Jc4 (Jb3 (by simp)) (Jfe hF hA.br)))))))),?_⟩
 simp only [actF,List.length_append,List.length_cons,List.length_nil]
 omega
theorem Je2 {r:Room} (hF:FineR r) {x:Auto} (hx:x∈r.aus.l):Jgh 13 (Jen r x):=by
 have hc:=Ja9 (hF.cau x hx)
 have hl:=Jdi (w:=ifW) (l:=Jaq r x.wh.l)
 rw [Jbf] at hl
 refine ⟨List.cons_ne_nil _ _,Jcj (Jar (Jb3 (by simp)) Jca) (Jcj (Jcn hF (fun y hy=>by rw [List.mem_singleton] at hy; subst hy; exact hF.rd.aut x hx)) (Jc4 (Jb3 (by simp)) (Jcn hF hc.1))),?_⟩
 simp only [Jen,List.length_append,List.length_cons,List.length_nil,Jbf]
 omega
theorem Jet {r:Room} (hF:FineR r):∀ ws∈Jiz r,Jgh 13 ws:=fun ws hw=>by
 have hc:=Ja9 hF.cgl
 have hp:=hF.rd.ply
 rcases List.mem_cons.1 hw with rfl | hw
 ·
  exact ⟨List.cons_ne_nil _ _,Jar (Jb3 (by simp)) (Jar (FineW.dig (by omega)) Jca),by simp⟩
 rw [List.mem_singleton] at hw
 subst hw
 refine ⟨List.cons_ne_nil _ _,Jcj (Jar (Jb3 (by simp)) Jca) (Jcn hF hc.1),?_⟩
 simp only [List.length_append,List.length_cons,List.length_nil,Jbf]
 omega
theorem Jd2 {r:Room} (hF:FineR r) {x:Thing} (hx:x∈r.ths.l):thB r x=true∧Jay x.nm=true:=by
 obtain ⟨i,h0,h1,rfl⟩:=Ja4 hx
 exact ⟨hF.rd.ths _ hx,(hF.th i h0 h1).1⟩
theorem Jme {r:Room} (hF:FineR r) {x:ByteArray} (hx:x∈r.pls.l):Jay x=true:=by
 obtain ⟨i,h0,h1,rfl⟩:=Ja4 hx
 exact (hF.pl i h0 h1).1
theorem Jji {r:Room} (hF:FineR r) {x:Pro} (hx:x∈r.prs.l):Jay x.nm=true:=by
 obtain ⟨i,h0,h1,rfl⟩:=Ja4 hx
 exact (hF.pr i h0 h1).1
theorem Juf {r:Room} (hF:FineR r):Jdg room0 0 ((fmtL r).map jnB)=some (Jto r,7):=by
 obtain ⟨k1,b1,e1⟩:=Jdr (fun ys:List ByteArray=>mkR ys [] [] [] [] [] 0 []) Jd4 Ln.place id (k:=0) (by omega) (fun ys x=>rfl) (xs:=r.pls.l) (ys:=[]) (kd:=0) (by omega)
  fun x hx ys kd hk=>Jc5 (Jff hF (Jme hF hx)) (by decide +kernel) (Jhk hk (by omega)) (Jv8 (Jme hF hx))
 obtain ⟨k2,b2,e2⟩:=Jdr (fun ys:List Thing=>mkR r.pls.l ys [] [] [] [] 0 []) (Jc9 r) Ln.thing id (k:=1) (by omega) (fun ys x=>rfl) (xs:=r.ths.l) (ys:=[]) (kd:=k1) (by omega)
  fun x hx ys kd hk=>Jc5 (Jfg hF (Jd2 hF hx).1 (Jd2 hF hx).2) (by decide +kernel) (Jhk hk (by omega)) (Jwv hF rfl (Jd2 hF hx).1 (Jd2 hF hx).2)
 obtain ⟨k3,b3,e3⟩:=Jdr (fun ys:List Pro=>mkR r.pls.l r.ths.l ys [] [] [] 0 []) (Jfm r) (fun x=>Ln.prop x.nm x.pl x.wh.l) nPro (k:=2) (by omega) (fun ys x=>rfl) (xs:=r.prs.l) (ys:=[]) (kd:=k2) (by omega)
  fun x hx ys kd hk=>Jc5 (Jg2 hF hx (Jji hF hx)) (by decide +kernel) (Jhk hk (by omega)) (Jyr hF rfl rfl hx (Jji hF hx))
 obtain ⟨k4,b4,e4⟩:=Jdr (fun ys:List Way=>mkR r.pls.l r.ths.l (r.prs.l.map nPro) ys [] [] 0 []) (wayF r) (fun x=>Ln.way x.a x.b x.wh.l) nWay (k:=3) (by omega) (fun ys x=>rfl) (xs:=r.wys.l) (ys:=[]) (kd:=k3) (by omega)
  fun x hx ys kd hk=>Jc5 (Jh3 hF hx) (by decide +kernel) (Jhk hk (by omega)) (J28 hF rfl rfl hx)
 obtain ⟨k5,b5,e5⟩:=Jdr (fun ys:List Actn=>mkR r.pls.l r.ths.l (r.prs.l.map nPro) (r.wys.l.map nWay) ys [] 0 []) (actF r) (fun x=>Ln.act x.nm x.pl x.lk x.us.l x.wh.l x.se.l x.sp.l x.br.l) nAct (k:=4) (by omega) (fun ys x=>rfl) (xs:=r.acs.l) (ys:=[]) (kd:=k4) (by omega)
  fun x hx ys kd hk=>Jc5 (Jh4 hF hx) (by decide +kernel) (Jhk hk (by omega)) (J24 (R:=mkR r.pls.l r.ths.l (r.prs.l.map nPro) (r.wys.l.map nWay) ys [] 0 []) hF rfl rfl (by simp [mkR,nls,List.map_map,Function.comp_def,nPro]) hx)
 obtain ⟨k6,b6,e6⟩:=Jdr (fun ys:List Auto=>mkR r.pls.l r.ths.l (r.prs.l.map nPro) (r.wys.l.map nWay) (r.acs.l.map nAct) ys 0 []) (Jen r) (fun x=>Ln.auto x.t x.s x.wh.l) Jw5 (k:=5) (by omega) (fun ys x=>rfl) (xs:=r.aus.l) (ys:=[]) (kd:=k5) (by omega)
  fun x hx ys kd hk=>Jc5 (Je2 hF hx) (by decide +kernel) (Jhk hk (by omega)) (Jzb hF rfl hx)
 simp only [List.nil_append,List.map_id] at e1 e2 e3 e4 e5 e6
 have ht:=Jet hF
 have e7:∀ R:Room,Jcd R k6 (jnB [Jcg,digB r.ply])=some (6,.players r.ply):=fun R=>Jc5 (ht _ (by simp [Jiz])) (by decide +kernel) (by
  simp only [mayK,Bool.and_eq_true,Bool.or_eq_true,Bool.not_eq_true',Bool.and_eq_false_iff,decide_eq_true_eq,decide_eq_false_iff_not]; omega) (Jp6 (R:=R) hF)
 have e8:∀ R:Room,R.ths.l=r.ths.l→Jcd R 6 (jnB ([Jem]++Jaq r r.gl.l))=some (7,.goal r.gl.l):=fun R hR=>Jc5 (ht _ (by simp [Jiz])) (by decide +kernel) (by decide) (Jzi (R:=R) hF hR)
 unfold fmtL Jiz
 simp only [List.map_append,List.map_map,List.map_cons,List.map_nil]
 refine (Jds (R:=mkR [] [] [] [] [] [] 0 []) e1).trans ((Jds e2).trans ((Jds e3).trans ((Jds e4).trans ((Jds e5).trans ((Jds e6).trans ?_)))))
 rw [Jdg,e7]
 show Jdg _ 6 [jnB ([Jem]++Jaq r r.gl.l)]=_
 rw [Jdg,e8 (addL (mkR r.pls.l r.ths.l (r.prs.l.map nPro) (r.wys.l.map nWay) (r.acs.l.map nAct) (r.aus.l.map Jw5) 0 []) (.players r.ply)) rfl]
 rfl
theorem Jm7 (ws:List ByteArray):bl (Jfu ws)=bl (jnB ws)++[10]:=Jb2 _ _
theorem Jmg:∀ (ls:List (List ByteArray)) (a:ByteArray),bl (ls.foldl (fun a ws=>a++Jfu ws) a)=bl a++ls.flatMap fun ws=>bl (jnB ws)++[10]
 | [],a=>by simp
 | ws::ls,a=>by rw [List.foldl_cons,Jmg ls,Jb2,Jm7,List.flatMap_cons]; simp
theorem Jkq (ls:List (List ByteArray)):bl (Jbc ls)=ls.flatMap fun ws=>bl (jnB ws)++[10]:=(Jmg ls ⟨#[]⟩).trans (List.nil_append _)
theorem Jgi (ls:List (List ByteArray)) (ws:List ByteArray):Jbc (ls++[ws])=Jbc ls++Jfu ws:=by simp [Jbc]
theorem J0o {ws:List ByteArray} (h:∀ x∈ws,FineW x):(10:UInt8) ∉ bl (jnB ws):=by
 have ht:∀ (r:List ByteArray),(∀ x∈r,FineW x)→(10:UInt8) ∉ Lib.joinTail [32] (r.map bl):=fun r=>by
  induction r with
  | nil=>intro _; simp [Lib.joinTail]
  | cons y r ih =>
   intro hr hm
   rw [show Lib.joinTail [32] ((y::r).map bl)=32::(bl y++Lib.joinTail [32] (r.map bl)) by simp [Lib.joinTail]] at hm
   rcases List.mem_cons.1 hm with hm | hm
   ·
    exact absurd hm (by decide)
   rcases List.mem_append.1 hm with hm | hm
   ·
    exact (Jyx (hr y (by simp)).hi).2 hm
   exact ih (fun x hx=>hr x (by simp [hx])) hm
 cases ws with
 | nil=>intro hm; simp [Jt0,Lib.join] at hm
 | cons x r =>
  intro hm
  rw [Jt0,List.map_cons,Lib.join_cons] at hm
  rcases List.mem_append.1 hm with hm | hm
  ·
   exact (Jyx (h x (by simp)).hi).2 hm
  exact ht r (fun y hy=>h y (by simp [hy])) hm
theorem Jp0:∀ {ls:List (List ByteArray)},(∀ ws∈ls,∀ x∈ws,FineW x)→Jao 10 (Jbc ls)=ls.map jnB++[⟨#[]⟩]:=fun {ls} h=>by
 unfold Jao
 rw [Jkq]
 have hs:∀ ls:List (List ByteArray),(∀ ws∈ls,∀ x∈ws,FineW x)→Jbs 10 (ls.flatMap fun ws=>bl (jnB ws)++[10])=ls.map (fun ws=>bl (jnB ws))++[[]]:=fun ls=>by
  induction ls with
  | nil=>intro _; rfl
  | cons ws ls ih =>
   intro h
   rw [List.flatMap_cons,List.append_assoc,List.singleton_append,Jfk (J0o (h ws (by simp))),ih fun v hv=>h v (by simp [hv])]
   rfl
 rw [hs ls h,List.map_append,List.map_map]
 rfl
theorem Jqx {r:Room} (hF:FineR r):∀ ws∈fmtL r,Jgh 55 ws∧(ws∈r.acs.l.map (actF r)∨Jgh 13 ws):=by
 have up:∀ {ws},Jgh 13 ws→Jgh 55 ws:=fun h=>⟨h.1,h.2.1,Nat.le_trans h.2.2 (by decide)⟩
 intro ws hw
 unfold fmtL at hw
 simp only [List.mem_append,List.mem_map] at hw
 rcases hw with ⟨x,hx,rfl⟩ | ⟨x,hx,rfl⟩ | ⟨x,hx,rfl⟩ | ⟨x,hx,rfl⟩ | ⟨x,hx,rfl⟩ | ⟨x,hx,rfl⟩ | hx
 ·
  have:=Jff hF (Jme hF hx); exact ⟨up this,.inr this⟩
 ·
  have:=Jfg hF (Jd2 hF hx).1 (Jd2 hF hx).2; exact ⟨up this,.inr this⟩
 ·
  have:=Jg2 hF hx (Jji hF hx); exact ⟨up this,.inr this⟩
 ·
  have:=Jh3 hF hx; exact ⟨up this,.inr this⟩
 ·
  exact ⟨Jh4 hF hx,.inl (List.mem_map.2 ⟨x,hx,rfl⟩)⟩
 ·
  have:=Je2 hF hx; exact ⟨up this,.inr this⟩
 have:=Jet hF ws hx; exact ⟨up this,.inr this⟩
theorem Jf4 {n:Nat} {ws:List ByteArray} (h:Jgh n ws):(Jfu ws).size≤16 * n+1:=by
 have h1:=Jsm (ws:=ws) (n:=15) fun x hx=>(h.2.1 x hx).sz
 have h2:16 * ws.length≤16 * n:=Nat.mul_le_mul_left _ h.2.2
 unfold Jfu
 rw [ByteArray.size_append]
 have:(⟨#[10]⟩:ByteArray).size=1:=rfl
 omega
theorem Je9 {n:Nat}:∀ {ls:List (List ByteArray)},(∀ ws∈ls,(Jfu ws).size≤n)→(ls.flatMap fun ws=>bl (jnB ws)++[10]).length≤n * ls.length
 | [],_=>by simp
 | ws::ls,h=>by
  have h1:=h ws (by simp)
  have h2:=Je9 (ls:=ls) fun v hv=>h v (by simp [hv])
  rw [← Jbj,Jm7] at h1
  rw [List.flatMap_cons,List.length_append,List.length_cons,Nat.mul_succ]
  omega
theorem Jo6 {r:Room} (hF:FineR r):(Jbc (fmtL r)).size≤40000∧(fmtL r).length≤100:=by
 have hl:=hF.rd.lens
 rw [← Jbj,Jkq]
 unfold fmtL
 simp only [List.flatMap_append,List.length_append,List.length_map]
 have t1:=Je9 (n:=209) (ls:=r.pls.l.map Jd4) fun ws hw=>by
  obtain ⟨x,hx,rfl⟩:=List.mem_map.1 hw; exact Jf4 (Jff hF (Jme hF hx))
 have t2:=Je9 (n:=209) (ls:=r.ths.l.map (Jc9 r)) fun ws hw=>by
  obtain ⟨x,hx,rfl⟩:=List.mem_map.1 hw; exact Jf4 (Jfg hF (Jd2 hF hx).1 (Jd2 hF hx).2)
 have t3:=Je9 (n:=209) (ls:=r.prs.l.map (Jfm r)) fun ws hw=>by
  obtain ⟨x,hx,rfl⟩:=List.mem_map.1 hw; exact Jf4 (Jg2 hF hx (Jji hF hx))
 have t4:=Je9 (n:=209) (ls:=r.wys.l.map (wayF r)) fun ws hw=>by
  obtain ⟨x,hx,rfl⟩:=List.mem_map.1 hw; exact Jf4 (Jh3 hF hx)
 have t5:=Je9 (n:=881) (ls:=r.acs.l.map (actF r)) fun ws hw=>by
  obtain ⟨x,hx,rfl⟩:=List.mem_map.1 hw; exact Jf4 (Jh4 hF hx)
 have t6:=Je9 (n:=209) (ls:=r.aus.l.map (Jen r)) fun ws hw=>by
  obtain ⟨x,hx,rfl⟩:=List.mem_map.1 hw; exact Jf4 (Je2 hF hx)
 have t7:=Je9 (n:=209) (ls:=Jiz r) fun ws hw=>Jf4 (Jet hF ws hw)
 have l7:(Jiz r).length=2:=rfl
 simp only [List.length_map] at t1 t2 t3 t4 t5 t6
 rw [l7] at t7 ⊢
 omega
theorem Jkz {r:Room} (h:checkE r=0):Ji5 (Jbc (fmtL r))=(Jto r,0,0):=by
 have hF:=Jd0 h
 unfold Ji5
 rw [Jp0 fun ws hw x hx=>(Jqx hF ws hw).1.2.1 x hx]
 obtain ⟨j,hj⟩:=Jil (i:=0) (Juf hF)
 have hc:checkE (Jto r)=0:=(Jeq (Jr5 r)).checkE.trans h
 rw [hj,finP,if_neg (by decide),hc,if_neg (fun h=>h rfl)]
end Go.Proofs.YtkekjhcmephhjaaGreatDoor
namespace Go.Proofs.YtkekjhcmephhjaaGreatDoor
set_option linter.unusedVariables false
set_option linter.unusedSimpArgs false
open Go.RowKit
section
variable {α:Type} (key:α→Int)
def Eqv (l l':List α):Prop:=∀ v:Int,l'.filter (fun x=>decide (key x=v))=l.filter (fun x=>decide (key x=v))
def Srt (l:List α):Prop:=l.Pairwise fun x y=>key x≤key y
variable {key}
theorem Eqv.refl (l:List α):Eqv key l l:=fun _=>rfl
theorem Eqv.trans {a b c:List α} (h:Eqv key a b) (h2:Eqv key b c):Eqv key a c:=fun v=>(h2 v).trans (h v)
theorem Eqv.symm {a b:List α} (h:Eqv key a b):Eqv key b a:=fun v=>(h v).symm
theorem Eqv.app {a b c d:List α} (h:Eqv key a b) (h2:Eqv key c d):Eqv key (a++c) (b++d):=fun v=>by rw [List.filter_append,List.filter_append,h v,h2 v]
theorem Eqv.mem {a b:List α} (h:Eqv key a b) {x:α}:x∈b ↔ x∈a:=by
 have h1:x∈b.filter (fun y=>decide (key y=key x)) ↔ x∈b:=by simp
 have h2:x∈a.filter (fun y=>decide (key y=key x)) ↔ x∈a:=by simp
 rw [← h1, ← h2,h (key x)]
theorem Eqv.swap {a b:List α} (h:∀ x∈a,∀ y∈b,key x≠key y):Eqv key (a++b) (b++a):=fun v=>by
 rw [List.filter_append,List.filter_append]
 by_cases ha:a.filter (fun x=>decide (key x=v))=[]
 ·
  rw [ha,List.append_nil,List.nil_append]
 have hb:b.filter (fun x=>decide (key x=v))=[]:=by
  rw [List.filter_eq_nil_iff]
  intro y hy hv
  obtain ⟨x,hx⟩:=List.exists_mem_of_ne_nil _ ha
  rw [List.mem_filter] at hx
  simp only [decide_eq_true_eq] at hx hv
  exact h x hx.1 y hy (hx.2.trans hv.symm)
 rw [hb,List.append_nil,List.nil_append]
theorem Eqv.len:∀ {a b:List α},Eqv key a b→b.length=a.length
 | [],b,h=>by
  cases b with
  | nil=>rfl
  | cons y b=>exact absurd (h.mem.1 (List.mem_cons_self (a:=y) (l:=b))) List.not_mem_nil
 | x::a,b,h=>by
  have hx:x∈b:=h.mem.2 List.mem_cons_self
  obtain ⟨b1,b2,hb,hn⟩:∃ b1 b2,b=b1++x::b2∧∀ y∈b1,key y≠key x:=by
   have h1:=h (key x)
   rw [List.filter_cons,if_pos (by simp)] at h1
   have h2:=List.filter_eq_cons_iff.1 h1
   obtain ⟨b1,b2,e,q1,_,_⟩:=h2
   exact ⟨b1,b2,e,fun y hy hk=>by have:=q1 y hy; simp [hk] at this⟩
  subst hb
  have h3:Eqv key (x::a) (x::(b1++b2)):=h.trans (by
   have q:Eqv key (b1++[x]) ([x]++b1):=Eqv.swap fun y hy z hz=>by rw [List.mem_singleton.1 hz]; exact hn y hy
   have:=q.app (Eqv.refl b2)
   simpa using this)
  have h4:Eqv key a (b1++b2):=fun v=>by
   have:=h3 v
   rw [List.filter_cons,List.filter_cons] at this
   by_cases hv:decide (key x=v)=true
   ·
    rw [if_pos hv,if_pos hv] at this; exact (List.cons.inj this).2
   rw [if_neg hv,if_neg hv] at this; exact this
  have:=Eqv.len h4
  simp only [List.length_append,List.length_cons] at this ⊢
  omega
theorem Srt.app {a b:List α} (h:Srt key a) (h2:Srt key b) (h3:∀ x∈a,∀ y∈b,key x≤key y):Srt key (a++b):=List.pairwise_append.2 ⟨h,h2,h3⟩
theorem Srt.left {a b:List α} (h:Srt key (a++b)):Srt key a:=(List.pairwise_append.1 h).1
theorem Srt.right {a b:List α} (h:Srt key (a++b)):Srt key b:=(List.pairwise_append.1 h).2.1
theorem Srt.nil:Srt key []:=List.Pairwise.nil
theorem Srt.one (x:α):Srt key [x]:=List.pairwise_singleton _ _
theorem Srt.small {a:List α} (h:a.length≤1):Srt key a:=by
 match a,h with
 | [],_=>exact Srt.nil
 | [x],_=>exact Srt.one x
end
section
variable {α:Type} (key:α→Int)
variable {key}
theorem Eqv.cons {x:α} {a b:List α} (h:Eqv key a b):Eqv key (x::a) (x::b):=(Eqv.refl [x]).app h
theorem Eqv.parts (p:α→Bool) (hp:∀ x y,key x=key y→p x=p y):∀ (l:List α),Eqv key (l.filter p++l.filter fun x => !p x) l
 | l=>fun v=>by
  rw [List.filter_append,List.filter_filter,List.filter_filter]
  by_cases h:∃ x∈l,key x=v∧p x=true
  ·
   obtain ⟨x,hx,hv,hpx⟩:=h
   have e1:(l.filter fun y=>decide (key y=v) && p y)=l.filter fun y=>decide (key y=v):=List.filter_congr fun y hy=>by
    by_cases hk:key y=v
    ·
     rw [hp y x (hk.trans hv.symm),hpx]; simp
    simp [hk]
   have e2:(l.filter fun y=>decide (key y=v) && !p y)=[]:=by
    rw [List.filter_eq_nil_iff]
    intro y hy hc
    simp at hc
    rw [hp y x (hc.1.trans hv.symm),hpx] at hc
    exact absurd hc.2 (by decide)
   rw [e1,e2,List.append_nil]
  have e1:(l.filter fun y=>decide (key y=v) && p y)=[]:=by
   rw [List.filter_eq_nil_iff]
   intro y hy hc
   simp at hc
   exact h ⟨y,hy,hc.1,hc.2⟩
  have e2:(l.filter fun y=>decide (key y=v) && !p y)=l.filter fun y=>decide (key y=v):=List.filter_congr fun y hy=>by
   by_cases hk:key y=v
   ·
    cases hq:p y
    ·
     simp
    exact absurd ⟨y,hy,hk,hq⟩ h
   simp [hk]
  rw [e1,e2,List.nil_append]
end
section
variable {α:Type} {key:α→Int}
inductive Blk (key:α→Int) (k:Nat):List α→Prop
 | last {l:List α}:l.length≤k→Srt key l→Blk key k l
 | cons {b l:List α}:b.length=k→Srt key b→Blk key k l→Blk key k (b++l)
inductive Full (key:α→Int) (k:Nat):List α→Prop
 | nil:Full key k []
 | snoc {D b:List α}:Full key k D→b.length=k→Srt key b→Full key k (D++b)
theorem Full.blk {k:Nat} {D l:List α} (h:Full key k D) (hl:Blk key k l):Blk key k (D++l):=by
 induction h generalizing l with
 | nil=>exact hl
 | snoc _ hb hs ih=>rw [List.append_assoc]; exact ih (.cons hb hs hl)
theorem Blk.split {k:Nat} {l:List α} (h:Blk key k l) (hl:k < l.length):∃ b r,l=b++r∧b.length=k∧Srt key b∧Blk key k r:=by
 cases h with
 | last h _=>omega
 | cons hb hs h=>exact ⟨_,_,rfl,hb,hs,h⟩
end
section
variable {α:Type}
def lk (A:List α) (x:α) (Y B:List α) (k:Int):List α:=A++(Y.take k.toNat++x::(Y.drop k.toNat++B))
end
section
variable {P:Program} {ro:Option Nat} {n0:Nat} {w0:World} {ds:List Deferred} {ops:Array Oper} {Q:Exit→Act→World→Prop} {L:List SA} {rest:List Oper} {l:List Value} {d:Option Tmp} {ty:TypeId} {ps:String} {af:Array Edge} {g:Option (Nat × Bool)} {D:World→Prop}
theorem Job {T e:TypeId} {a b:Nat} {x:Operand} {v:Value} {c:Nat} (hT:sl P T=some (e,a,b)) (hx:evo l x=some v) (hs:∃ p n,v = .slice p n c) :
  Det P D ⟨d,.call ⟨.builtin .cap, #[x], #[T]⟩,ty,ps,af,g⟩ l (.int .i64 c):=fun u _=>by
 obtain ⟨inf,hu1,_⟩:=Jcc hT
 obtain ⟨p,n,rfl⟩:=hs
 replace hx:=Jan hx
 simp [execOp,Jap,hx,resolve,invoke,builtin,Builtin.cap_,run_underlying hu1,goInt,IntWalk.i64_in]
theorem St.oslTo {e:TypeId} {k n m:Nat} {v:Value} {xs:List Value} {u:World} (hm:m≤n) (h:St n0 w0 (osl e k v n xs::L) u) :
  St n0 w0 (osl e k (sub2 k v 0 m) m (xs.take (m * k))::L) u:=by
 obtain ⟨h1,h2,T,h3,⟨hS,hl,h4⟩,h5⟩:=h
 have hle:m * k≤n * k:=Nat.mul_le_mul_right _ hm
 rcases h4 with ⟨rfl,rfl⟩ | ⟨b,cap,cur,rfl,hb,hg,hc,hx,hs,ht⟩
 ·
  have hm0:m=0:=by omega
  subst hm0
  refine ⟨h1,h2,T,h3,⟨fun k=>by rw [hS k]; simp [sub2,Value.ownBlock],by simp,.inl ⟨by simp [sub2],rfl⟩⟩,h5⟩
 have hv:sub2 k (.slice (some ⟨b,0,none⟩) n cap) 0 m = .slice (some ⟨b,0,none⟩) m cap:=by simp [sub2,Jb8]
 rw [hv]
 refine ⟨h1,h2,T,h3,⟨fun k=>by rw [hS k]; simp [Value.ownBlock],by rw [List.length_take,hl]; omega,.inr ⟨b,cap,cur,rfl,hb,hg,by omega,hx,hs,?_⟩⟩,h5⟩
 rw [← ht,List.take_take,Nat.min_eq_left hle]
theorem Jpe {k lo hi:Nat} {v:Value} (h:v.oneCell'=true):(sub2 k v lo hi).oneCell'=true:=by
 cases v <;> simp_all [sub2,Value.oneCell']
theorem WS.appendMade {T T2 e:TypeId} {size by_ i:Nat} {x y:Operand} {n:Int} {zc:List Value} (hT:sl P T=some (e,size,by_)) (hT2:P.underlying T2=some (.int .i64)) (hz:zv P e=some zc) (hzl:zc.length=size) (hs0:0 < size)
  (hx:evo l x=some (.slice none 0 0)) (hy:evo l y=some (.int .i64 n)) (h0:0 < n) (hm:n≤1000000) (hb:by_≤1000) {l':Nat→Nat→List Value} (hl:∀ b c,lset l i (.slice (some ⟨b,0,none⟩) n.toNat c)=some (l' b c))
  (k:∀ b c xs,n.toNat≤c→WS P ro n0 w0 ds ops Q (osl e size (.slice (some ⟨b,0,none⟩) n.toNat c) n.toNat xs::L) rest (l' b c)) :
  WS P ro n0 w0 ds ops Q L (⟨some i,.call ⟨.builtin .append, #[x,y], #[T,T2]⟩,ty,ps,af,none⟩::rest) l:=by
 (replace hx:=Jan hx; replace hy:=Jan hy)
 refine WS.world rfl rfl fun u hu=>?_
 obtain ⟨inf,hu1,hi,hs,hby⟩:=Jcc hT
 unfold zv at hz
 rw [hi] at hz
 cases hz2:inf.zero with
 | none=>simp [hz2] at hz
 | some zz =>
  simp [hz2] at hz
  have hbs:n.toNat * by_≤1000000 * 1000:=Nat.mul_le_mul (by omega) hb
  have hr:=Lib.run_append_grow_zeros u T T2 ty e inf zz .i64 .i64 hu1 hT2 hi hz2 none 0 0 [] (by simpa using run_firstCells_none u.drew inf.size 0 0 0) n.toNat (by omega) (by omega) (by omega) (by omega) (by rw [hby]; omega)
   (growslice_fits (by omega) (by rw [hby,Nat.zero_add]; omega))
  rw [Nat.zero_add,show ((n.toNat:Nat):Int)=n by omega,show ([]:List Value).toArray = #[] from rfl,Array.empty_append] at hr
  refine ⟨_,_,by simp [execOp,resolve,invoke,builtin,hx,hy,hr]; exact ⟨rfl,rfl⟩,?_⟩
  rw [Jaz,Jal (hl _ _)]
  have hge:=grownCap_ge u n.toNat 0 e
  have hcm:=grownCap_le_maxLen u n.toNat 0 e (by unfold maxLen; omega)
  obtain ⟨cp,hcp⟩:∃ cp,cp=grownCap u n.toNat 0 e:=⟨_,rfl⟩
  rw [← hcp] at hge hcm ⊢
  have hzs:zz.cells.size=size:=by rw [← hzl, ← hz]; simp
  have hlen:(Builtin.zeroCells zz.cells n.toNat++Builtin.zeroCells zz.cells (cp - n.toNat)).size=cp * size:=by
   simp [Builtin.zeroCells,hzs]
   rw [← Nat.add_mul]; congr 1; omega
  refine k _ cp ((Builtin.zeroCells zz.cells n.toNat++Builtin.zeroCells zz.cells (cp - n.toNat)).toList.take (n.toNat * size)) hge _ (hu.cons (T:=fun k=>k=u.heap.size) (((Below.refl _ u).drew).alloc (Nat.le_refl _) _) ⟨?_,?_,.inr ⟨u.heap.size,cp,_,rfl,Nat.zero_le _,World.alloc_heap_new u.drew _,hge,hcm,hlen,rfl⟩⟩ (fun k hk=>by omega))
  ·
   intro k; simp [Value.ownBlock]; exact eq_comm
  rw [List.length_take,Array.length_toList,hlen]
  exact Nat.min_eq_left (Nat.mul_le_mul_right _ hge)
variable {α:Type} {C:Cel α}
theorem WS.appendTs {T e:TypeId} {by_ i j:Nat} {x y:Operand} {v:Value} {s:Sl α} {xs:List α} {zc:List Value} (hT:sl P T=some (e,C.k,by_)) (hz:zv P e=some zc) (hzl:zc.length=C.k) (hk:0 < C.k)
  (hx:evo l x=some v) (hj:L[j]? = some (oT C e v xs)) (hy:evo l y=some s.v) (hs:∀ u,St n0 w0 L u→SlT C u s) (h1:∀ a∈Jax C s.l,a.oneCell'=true)
  (hm:xs.length+s.l.length≤9223372036854775807) (hb:(xs.length+s.l.length) * by_≤140737488355328)
  {l':Value→List Value} (hl:∀ v,lset l i v=some (l' v)) {L':Value→List SA} (hL:∀ v',lset L j (oT C e v' (xs++s.l))=some (L' v')) (k:∀ v',v'.oneCell'=true→WS P ro n0 w0 ds ops Q (L' v') rest (l' v')) :
  WS P ro n0 w0 ds ops Q L (⟨some i,.call ⟨.builtin .append, #[x,y], #[T,T]⟩,ty,ps,af,none⟩::rest) l:=by
 refine WS.append (j:=j) (n:=xs.length) (m:=s.l.length) (xs:=Jax C xs) (news:=Jax C s.l) hT hz hzl hk hx hj hy (fun u hu=>(hs u hu).sp) h1 hm hb hl (L':=L') (fun v'=>?_) fun v'=>?_
 ·
  rw [← hL v',oT,Jex,List.length_append]
 intro u hu
 have hj2:(L' v')[j]? = some (oT C e v' (xs++s.l)):=by
  rw [← Jal (hL v')]; exact List.getElem?_set_self (List.getElem?_eq_some_iff.1 hj).1
 obtain ⟨_,p,cap,hv,_⟩:=Jcq hu hj2
 exact k v' (by rw [hv]; rfl) u hu
end
def catL {α:Type} (l:List (Sl α)):List α:=(l.map Sl.l).flatten
section
variable {α:Type} {l:List (Sl α)}
theorem Jkh {s:Int} (h0:0≤s) (h1:s < l.length):catL (l.take (s+1).toNat)=catL (l.take s.toNat)++(nth l s).l:=by
 rw [Jeb h0 h1]; simp [catL]
theorem Jts (n:Nat):(catL (l.take n)).length≤(catL l).length:=by
 have h:catL l=catL (l.take n)++catL (l.drop n):=by
  unfold catL
  rw [← List.flatten_append, ← List.map_append,List.take_append_drop]
 rw [h,List.length_append]; omega
end
section
variable {P:Program} {l:List Value} {d:Option Tmp} {ty:TypeId} {ps:String} {af:Array Edge} {g:Option (Nat × Bool)} {C:World→Prop}
theorem Jrr {T e:TypeId} {k by_ n c:Nat} {x z:Operand} {p:Option Addr} {hi:Int} (hT:sl P T=some (e,k,by_)) (hx:evo l x=some (.slice p n c)) (hz:evo l z=some (.int .i64 hi))
  (h1:0≤hi) (h2:hi≤c):Det P C ⟨d,.slice T x none (some z) none,ty,ps,af,g⟩ l (sub2 k (.slice p n c) 0 hi.toNat):=fun u _=>by
 obtain ⟨inf,hu,hi',hk,_⟩:=Jcc hT
 replace hx:=Jan hx
 replace hz:=Jan hz
 have e1:(0≤hi∧hi≤(c:Int)):=by omega
 have e3:0≤max hi 0:=by omega
 simp [execOp,Jap,hx,hz,Instr.sliceAt,Instr.slice,Instr.sliceBounds,Instr.sliceBound,asIntOf,run_underlying hu,e1,e3,sizeOf,typeInfo,hi',hk,sub2]
end
end Go.Proofs.YtkekjhcmephhjaaGreatDoor
namespace Go.Proofs.YtkekjhcmephhjaaGreatDoor
set_option linter.unusedVariables false
set_option linter.unusedSimpArgs false
open Go.RowKit Go.Proofs
theorem Jda {a b:ByteArray} (h:bl a=bl b):a=b:=by
 rw [← Jze a,h,Jze]
theorem Jfz (a:Array UInt8):bl ⟨a⟩=a.toList:=rfl
theorem Jir (ws:List ByteArray):Lib.joinTail [32] (ws.map bl)=ws.flatMap fun x=>32::bl x:=by
 induction ws with
 | nil=>rfl
 | cons x l ih =>
  rw [List.flatMap_cons, ← ih]
  rfl
theorem Jc3 (ws:List ByteArray):bl (catB ws)=ws.flatMap fun x=>32::bl x:=(Jrm ws).trans (Jir ws)
theorem Jc1 (w:ByteArray) (ws:List ByteArray):bl (Jfu (w::ws))=bl w++(ws.flatMap fun x=>32::bl x)++[10]:=by
 rw [Jm7,Jt0,List.map_cons,Lib.join_cons,Jir]
theorem Jyo {ws:List ByteArray} {n:Nat} (h:∀ x∈ws,x.size≤n):(catB ws).size≤(n+1) * ws.length:=by
 have e:=Jev [32] (ws.map bl) n (fun x hx=>by
  obtain ⟨y,hy,rfl⟩:=List.mem_map.1 hx
  rw [Jbj]
  exact h y hy)
 rw [Jir, ← Jc3,Jbj,List.length_map] at e
 exact e
theorem Jou {r:Room} (hF:FineR r) {c:List Lit} (h:∀ x∈c,putB r.ths.l x.t x.s=true) {n:Nat} (hn:c.length≤n):(catB (Jaq r c)).size≤16 * n:=by
 have h1:=Jyo (ws:=Jaq r c) (n:=15) (fun x hx=>(Jcn hF h x hx).sz)
 rw [Jbf] at h1
 exact Nat.le_trans h1 (Nat.mul_le_mul_left _ hn)
theorem Jkc {w:ByteArray} {l:List ByteArray} (h:l.length≠0):catB (Jav w l)=(⟨#[32]⟩:ByteArray)++w++catB l:=by
 rw [Jed h]
 exact Jda (by simp [Jc3,Jb2,Jfz])
theorem Jse {w:ByteArray} {l:List ByteArray} (h:l.length=0):catB (Jav w l)=⟨#[]⟩:=by
 rw [Jf9 h]
 rfl
theorem Jjw {w:ByteArray} {l:List ByteArray} {n:Nat} (hw:w.size≤15) (h:∀ x∈l,x.size≤15) (hn:l.length≤n):(catB (Jav w l)).size≤16 * (n+1):=by
 have h1:=Jyo (ws:=Jav w l) (n:=15) (fun x hx=>by
  unfold Jav at hx
  split at hx
  ·
   cases hx
  rcases List.mem_cons.1 hx with rfl | hx
  ·
   exact hw
  exact h x hx)
 have h2:=Jdi (w:=w) (l:=l)
 exact Nat.le_trans h1 (Nat.mul_le_mul_left _ (by omega))
theorem Jo9 {r:Room} (hF:FineR r) {c:List Lit} (h:∀ x∈c,putB r.ths.l x.t x.s=true) {n:Nat} (hn:c.length≤n):(catB (Jav ifW (Jaq r c))).size≤16 * (n+1) :=
 Jjw (by decide) (fun x hx=>(Jcn hF h x hx).sz) (by rw [Jbf]; exact hn)
theorem Jic {r:Room} (hF:FineR r) {w:ByteArray} (hw:w.size≤15) {c:List Int} (h:∀ x∈c,0≤x∧x < r.prs.l.length) {n:Nat} (hn:c.length≤n):(catB (Jav w (Ja0 r c))).size≤16 * (n+1) :=
 Jjw hw (fun x hx=>(Jfe hF h x hx).sz) (by rw [Jdp]; exact hn)
end Go.Proofs.YtkekjhcmephhjaaGreatDoor
