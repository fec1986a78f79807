/- Merged texts of this proof (walks and plain laws), printed by a program of the prover. -/
import Derived.Test.YtmoojmgihdgceaaGreatDoorXh
import Derived.Test.YtmoojmgihdgceaaGreatDoorZb2
set_option maxHeartbeats 8000000
namespace Go.Proofs.YtmoojmgihdgceaaGreatDoor
open Go.RowKit Go.Proofs Tryz
set_option maxRecDepth 100000
set_option linter.unusedVariables false
set_option linter.unusedSimpArgs false
theorem Jbk {a:Int} (h:0≤a∧a≤9223372036854775807):IntKind.u64.wrap a=a:=by
 unfold IntKind.wrap;simp only[IntKind.bits,IntKind.signed,Bool.false_and,Bool.false_eq_true,if_false];omega
section
variable {P:Program} {n0:Nat} {w0:World} {L:List SA} {l:List Value} {d:Option Tmp} {ty:TypeId} {ps:String} {af:Array Edge} {g:Option (Nat×Bool)} {C:World→Prop}
theorem Mj {T T':TypeId} {x:Operand} {a:Int} (hT:P.underlying T=some (.int .i64)) (hT':P.underlying T'=some (.int .u64)) (hx:evo l x=some (.int .i64 a)) (h:0≤a∧a≤9223372036854775807):Det P C ⟨d,.convert T T' x,ty,ps,af,g⟩ l (.int .u64 a):=fun u _=>by
 (replace hx:=Am hx)
 simp[execOp,Av,hx,convert,run_underlying hT,run_underlying hT',Conv.intToInt,Jbk h]
theorem Ty {T T':TypeId} {x:Operand} {a:Int} (hT:P.underlying T=some (.int .u64)) (hT':P.underlying T'=some (.int .i64)) (hx:evo l x=some (.int .u64 a)) (h:0≤a∧a≤9223372036854775807):Det P C ⟨d,.convert T T' x,ty,ps,af,g⟩ l (.int .i64 a):=fun u _=>by
 (replace hx:=Am hx)
 simp[execOp,Av,hx,convert,run_underlying hT,run_underlying hT',Conv.intToInt,IntWalk.i64_in a (by omega)]
end
theorem Xi (n:Int) (h:0≤n∧n≤1000000) (w:World):Calls prog 134 #[.int .u64 1,.int .u64 n] w (RetB w (.tuple #[.int .u64 0,.int .u64 n])):=by
 have q:=Tryz.bits_Mul 1 n.toNat (by decide) (by omega) w;rw[show((n.toNat:Nat):Int)=n by omega]at q;refine q.mono ?_;rintro e w' ⟨rfl,rfl⟩;have e1:1*n.toNat/18446744073709551616=0:=by omega
 have e2:1*n.toNat%18446744073709551616=n.toNat:=by omega
 rw[e1,e2,show((n.toNat:Nat):Int)=n by omega];exact⟨rfl,Below.refl _ _⟩
theorem Tn {c:Int} {k m n:Nat} (hk:k≤n) (hm:m=Nat.min k (n-k)):(ints (List.replicate k c++List.replicate (n-k) 0)).take k++(ints (List.replicate k c)).take m++(ints (List.replicate k c++List.replicate (n-k) 0)).drop (k+((ints (List.replicate k c)).take m).length)=ints (List.replicate (k+m) c++List.replicate (n-(k+m)) 0):=by
 have hmk:m≤k:=by rw[hm];exact Nat.min_le_left _ _
 have hmn:m≤n-k:=by rw[hm];exact Nat.min_le_right _ _
 simp only[ints,List.map_append,List.map_replicate,List.take_replicate,List.length_replicate];rw[Nat.min_eq_left hmk,List.take_left' (by simp),List.drop_append,List.drop_of_length_le (by simp)];simp only[List.length_replicate,List.drop_replicate,List.nil_append,List.replicate_append_replicate,List.append_assoc];congr 2;omega
section
variable {P:Program} {ro:Option Nat} {n0:Nat} {w0:World} {ds:List Deferred} {ops:Array Oper} {Q:Exit→Act→World→Prop} {L L':List SA} {rest:List Oper} {l l':List Value} {ty:TypeId} {ps:String} {af:Array Edge} {c:Int}
theorem WS.copyRep0 {T T2 e:TypeId} {by_ i j n:Nat} {x y:Operand} {v z:Value} (hT:sl P T=some (e,1,by_)) (hx:evo l x=some v) (hj:L[j]? = some (oints e v (List.replicate n 0))) (hn:1≤n) (hy:evo l y=some z) (hsrc:∀u,St n0 w0 L u→SlI u z [c])
  (hl:lset l i (.int .i64 1)=some l') (hL:lset L j (oints e v (List.replicate 1 c++List.replicate (n-1) 0))=some L') (k:WS P ro n0 w0 ds ops Q L' rest l'):WS P ro n0 w0 ds ops Q L (⟨some i,.call ⟨.builtin .copy,#[x,y],#[T,T2]⟩,ty,ps,af,none⟩::rest) l:=by
 have hle:(ints (List.replicate n 0)).length=n:=by simp[ints]
 have e9:osl e 1 v (List.replicate n (0:Int)).length (ints (List.replicate 1 c++List.replicate (n-1) 0))=oints e v (List.replicate 1 c++List.replicate (n-1) 0):=by
  unfold oints;congr 1;simp;omega
 refine WS.copyO (N:=1) (m:=0) (dl:=(List.replicate n (0:Int)).length) (vs:=[.int .i64 c]) (cs:=[.int .i64 c]) (xs':=ints (List.replicate 1 c++List.replicate (n-1) 0)) hT hx (fun b cap e _=>⟨cap,e⟩) hj (by rw[hle];simp;omega) Nat.one_pos (by omega) hy (fun u hu=>hsrc u hu) ?_ (fun a ha=>by rw[List.mem_singleton.1 ha];rfl) ?_ hl (by rw[e9];exact hL) k
 ·have:Nat.min 1 (List.replicate n (0:Int)).length=1:=by rw[List.length_replicate];exact Nat.min_eq_left hn
  rw[this];rfl
 obtain⟨m,rfl⟩:∃m,n=m+1:=⟨n-1,by omega⟩;simp[ints,List.replicate_succ]
theorem WS.copyRep {T T2 e:TypeId} {by_ i j n k:Nat} {x y:Operand} {v:Value} (hT:sl P T=some (e,1,by_)) (hx:evo l x=some (sub2 1 v k (List.replicate k c++List.replicate (n-k) 0).length)) (hj:L[j]? = some (oints e v (List.replicate k c++List.replicate (n-k) 0))) (hk:1≤k∧k<n)
  (hy:evo l y=some (sub2 1 v 0 k)) (hl:lset l i (.int .i64 (Nat.min k (n-k)))=some l') (hL:lset L j (oints e v (List.replicate (k+Nat.min k (n-k)) c++List.replicate (n-(k+Nat.min k (n-k))) 0))=some L')
  (kk:WS P ro n0 w0 ds ops Q L' rest l'):WS P ro n0 w0 ds ops Q L (⟨some i,.call ⟨.builtin .copy,#[x,y],#[T,T2]⟩,ty,ps,af,none⟩::rest) l:=by
 have hlen:(List.replicate k c++List.replicate (n-k) 0).length=n:=by simp;omega
 have hmk:Nat.min k (n-k)≤k:=Nat.min_le_left _ _;have hmn:Nat.min k (n-k)≤n-k:=Nat.min_le_right _ _
 have hvl:((ints (List.replicate k c)).take (Nat.min k (n-k))).length=Nat.min k (n-k):=by
  rw[List.length_take,show(ints (List.replicate k c)).length=k by simp[ints]];omega
 have hil:(ints (List.replicate k c++List.replicate (n-k) 0)).length=n:=by simp[ints];omega
 have e9:osl e 1 v (List.replicate k c++List.replicate (n-k) 0).length (ints (List.replicate (k+Nat.min k (n-k)) c++List.replicate (n-(k+Nat.min k (n-k))) 0))=oints e v (List.replicate (k+Nat.min k (n-k)) c++List.replicate (n-(k+Nat.min k (n-k))) 0):=by
  unfold oints;congr 1;rw[hlen,List.length_append,List.length_replicate,List.length_replicate];omega
 refine WS.copyO (N:=k) (m:=k) (dl:=n-k) (vs:=(ints (List.replicate k c)).take (Nat.min k (n-k))) (cs:=ints (List.replicate k c)) (xs':=ints (List.replicate (k+Nat.min k (n-k)) c++List.replicate (n-(k+Nat.min k (n-k))) 0)) hT hx ?_ hj ?_ hk.1 ?_ hy ?_ rfl ?_ (Tn (by omega) rfl) (by rw[hvl];exact hl) (by rw[e9];exact hL) kk
 ·rintro b cap rfl hcap;rw[hlen]at hcap⊢;refine⟨cap-k,?_⟩;show Value.slice (if cap=k then some ⟨b,0,none⟩else(some (⟨b,0,none⟩:Addr)).map (·.add (k*1))) (n-k) (cap-k)=_;rw[if_neg (by omega)];simp only[Option.map_some,Bl,Nat.mul_one,Nat.zero_add]
 ·rw[hvl,hil];omega
 ·rw[hil];omega
 ·intro u hu;have h1:=(AX hu hj).sub2 (lo:=0) (hi:=k) (Nat.zero_le _) (by rw[hlen];omega);rw[Nat.sub_zero,Nat.zero_mul,List.drop_zero,Nat.mul_one]at h1
  have e2:(ints (List.replicate k c++List.replicate (n-k) 0)).take k=ints (List.replicate k c):=by
   simp only[ints,List.map_append];exact List.take_left' (by simp)
  rwa [e2]at h1
 intro a ha;have:=List.mem_of_mem_take ha;simp only[ints,List.map_replicate]at this;rw[List.eq_of_mem_replicate this];rfl
end
theorem TG (x:Value) (c:Int) (n:Int) (w:World) (hx:SlI w x [c]) (h0:1≤n∧n≤1000000):
  Calls prog 97 #[x,.int .i64 n] w (fun e w'=>∃v:Value,v.oneCell'=true∧RetF w v (oints 3 v (List.replicate n.toNat c)) e w'):=by
 refine En func97 ?_;refine Nz 1 ?_;refine Nv 2 ?_;refine Wp ?_ ?_<;>intro hc1
 ·omega
 refine Ck (Qc (Nz 1 ?_));refine Wk 0 Na ?_;refine Wk 1 (Mj underlying3 underlying217 rfl (by simp)) ?_;refine Wk 0 (Mj underlying3 underlying217 rfl (by omega)) ?_;refine Wk 5 (Cb rfl rfl Xt (fun u hu=>Xi n (by omega) u)) ?_;refine Nv 1 ?_;refine Wk 1 Fg ?_;refine We 0 ?_;refine We 0 ?_;refine Wk 0 Po ?_;refine Wp ?_ ?_<;>intro hc2
 ·exfalso;simp at hc2;omega
 refine Ck (Qc (Nz 1 ?_));refine Wk 0 (Ty underlying217 underlying3 rfl (by omega)) ?_;refine WS.makeInts sl37 rfl rfl zv3 (by omega) (by omega) (by omega) (fun _=>rfl) ?_;intro v30;refine WS.oc (j:=0) rfl (fun hv30=>?_);refine Wz 1 ?_;refine Nx 2 ?_;refine WS.copyRep0 sl37 rfl (j:=0) rfl (by omega) rfl (fun u hu=>hx.st hu) rfl rfl ?_;refine Wz 1 ?_;refine Wd (Qc (Cs (Ce ?_)));refine CS.loopM (σ:=Nat) (rsL [34,46]) (fun s=>[(8,.int .i64 (s:Int))]) (fun s=>[oints 3 v30 (List.replicate s c++List.replicate (n.toNat-s) 0)]) (fun s=>1≤s∧s≤n.toNat) (fun s=>n.toNat-s) 1 (fun _ _=>rfl) rfl rfl (by omega) ?_;intro k t hs;obtain⟨hk1,hk2⟩:=hs;refine Cs (Nz 2 ?_);refine Wk 1 (Nb 0) ?_;refine Wp ?_ ?_<;>intro hc3
 ·have hkn:k<n.toNat:=by have h9:=hc3;simp only[List.length_append,List.length_replicate]at h9;omega
  have hmin:Nat.min k (n.toNat-k)=min k (n.toNat-k):=rfl;refine Ck (Qc (Ce ?_));refine CS.drawnTill 7 (k:=10) mixed rfl rfl ?_;refine Tr 10 [1,2] ?_;refine Tk 10 3 [4,5] rfl (Hy sl37 rfl rfl (j:=0) rfl (by omega) (by simp;omega)) ?_;refine Tk 10 6 [] rfl (fun u hu=>DI sl37 rfl rfl (AX hu (j:=0) rfl) (by omega) (by simp;omega) u hu) ?_;refine AT.takeP 0 rfl (by kernel_rfl) rfl (by kernel_rfl) (by kernel_rfl) rfl rfl (Bp rfl) rfl rfl ?_;refine To 7 rfl ?_;refine WS.copyRep (k:=k) sl37 rfl (j:=0) rfl ⟨by omega,hkn⟩ rfl rfl rfl ?_;refine Wd (Qt ?_);refine AT.takeP 8 rfl (by kernel_rfl) rfl (by kernel_rfl) (by kernel_rfl) rfl rfl (P8 rfl rfl (by omega)) rfl rfl ?_;refine AT.takeP 9 rfl (by kernel_rfl) rfl (by kernel_rfl) (by kernel_rfl) rfl rfl (F1 rfl) rfl rfl ?_;refine Te ?_;exact Qb (QS.head (k+Nat.min k (n.toNat-k)) rfl rfl ⟨⟨by omega,by omega⟩,by omega⟩)
 have hkn:k=n.toNat:=by have h9:=hc3;simp only[List.length_append,List.length_replicate]at h9;omega
 refine Cv (Qe (Qe (Qx (Qc (Nz 2 ?_)))));exact Wd (Qc (Cr (out1 rfl rfl (fun u hu=>⟨v30,hv30,retF (j:=0) rfl u (by rw[hkn,Nat.sub_self,List.replicate_zero,List.append_nil]at hu;exact hu)⟩))))
section
variable {P:Program} {n0:Nat} {w0:World} {L:List SA} {l:List Value} {d:Option Tmp} {ty:TypeId} {ps:String} {af:Array Edge} {g:Option (Nat×Bool)} {e:TypeId} {pl:List (Value×List Int)} {p:Value×List Int} {i j:Nat}
theorem La {u:World} (hu:St n0 w0 L u) (hj:L[j]? = some (YtmoojmgihdgceaaGreatDoor.star (lol (Value.int .i64) e pl))) (hi:pl[i]? = some p):SlI u p.1 p.2:=AX ((St.focusL hj hi).1 hu) (j:=0) rfl
theorem Tl {T e':TypeId} {a b:Nat} {x:Operand} (hT:sl P T=some (e',a,b)) (hx:evo l x=some p.1) (hj:L[j]? = some (YtmoojmgihdgceaaGreatDoor.star (lol (Value.int .i64) e pl))) (hi:pl[i]? = some p):
 Det P (St n0 w0 L) ⟨d,.call ⟨.builtin .len,#[x],#[T]⟩,ty,ps,af,g⟩ l (.int .i64 p.2.length):=fun u hu=>Bi hT hx (La hu hj hi) u hu
theorem TJ {T e':TypeId} {by_:Nat} {x y:Operand} {k:Int} (hT:sl P T=some (e',1,by_)) (hx:evo l x=some p.1) (hy:evo l y=some (.int .i64 k)) (hj:L[j]? = some (YtmoojmgihdgceaaGreatDoor.star (lol (Value.int .i64) e pl))) (hi:pl[i]? = some p) (h0:0≤k) (h1:k<p.2.length):
 Det P (St n0 w0 L) ⟨d,.indexAddr T x y,ty,ps,af,g⟩ l (.pointer (some (sla p.1 (k.toNat*1)))):=fun u hu=>BN hT hx hy (La hu hj hi) h0 h1 u hu
theorem WA {T:TypeId} {z:Nat} {x:Operand} {k:Int} (hj:L[j]? = some (YtmoojmgihdgceaaGreatDoor.star (lol (Value.int .i64) e pl))) (hi:pl[i]? = some p) (hx:evo l x=some (.pointer (some (sla p.1 (k.toNat*1))))) (h:0≤k∧k<p.2.length) (hT:tk P T=some (false,z)):
 Det P (St n0 w0 L) ⟨d,.load T x,ty,ps,af,g⟩ l (.int .i64 (nth p.2 k)):=B7 hx (fun _ hu=>La hu hj hi) (by rw[Nat.mul_one];exact GZ h) hT
theorem St.qTail2 {v:Value} {xs ys:List Int} {y:Int} {u:World} (hx:xs=y::ys) (h:St n0 w0 (qrow e v (ints xs)::L) u):St n0 w0 (qrow e (sub2 1 v 1 xs.length) (ints ys)::L) u:=by
 subst hx;exact h.qTail
end
theorem Qi {α:Type} [Inhabited α] {l:List α} {m:Nat} (hm:m<l.length):nth l (m:Int)=l[m]:=by simp[nth,List.getD,hm]
theorem Star.blk {L:List SA} {S:Nat→Prop} {u:World} {b:Nat} {c:List Value} {e:TypeId} {j:Nat} (hj:L[j]? = some (YtmoojmgihdgceaaGreatDoor.blk b c e)) (h:Star L S u):BlkAt u b c e:=by
 obtain⟨T,_,h2⟩:=h.get hj;exact h2.2
theorem UH {pl:List (Value×List Int)} {t:Int} (h0:0≤t) (h1:t<pl.length):pl[t.toNat]? = some (nth pl t):=LN h0 h1
section
variable {fin:Int→Bool} {es:List (List EdgeD)}
theorem Bfs.init {d q:List Int} (hl:d.length=es.length) (hd:∀j:Int,0≤j→j<es.length→nth d j=if fin j=true then 0 else -1) (hq:q=filI es.length fin):Bfs fin es d q 0:=by
 have hmem:∀i:Int,i∈q↔0≤i∧i<es.length∧fin i=true:=fun i=>by
  rw[hq];unfold filI;rw[List.mem_filter];unfold Ca;constructor
  ·rintro⟨h1,h2⟩;obtain⟨k,hk,rfl⟩:=List.mem_map.1 h1;have:=List.mem_range.1 hk;exact⟨by omega,by omega,h2⟩
  rintro⟨h0,h1,h2⟩;exact⟨List.mem_map.2 ⟨i.toNat,List.mem_range.2 (by omega),by omega⟩,h2⟩
 have hz:∀i∈q,nth d i=0:=fun i hi=>by
  obtain⟨a,b,c⟩:=(hmem i).1 hi;rw[hd i a b,if_pos c]
 have hzq:∀a:Int,0≤a→a<q.length→nth d (nth q a)=0:=fun a a0 a1=>hz _ (Ad a0 a1);refine⟨hl,fun i a b=>?_,fun i hi=>⟨((hmem i).1 hi).1,((hmem i).1 hi).2.1⟩,?_,fun i hi=>?_,fun a b a0 ab b1=>?_,fun a a0 a1=>?_,fun h a a0 a1=>?_,fun h i a b hi=>?_,fun i a b hf=>(hmem i).2 ⟨a,b,hf⟩,fun a a0 a1=>by omega,Nat.zero_le _⟩
 ·have hdi:=hd i a b
  by_cases hf:fin i=true
  ·rw[if_pos hf]at hdi;exact .inr ⟨by omega,(hmem i).2 ⟨a,b,hf⟩⟩
  rw[if_neg hf]at hdi;exact .inl ⟨hdi,fun h=>hf ((hmem i).1 h).2.2⟩
 ·rw[hq];unfold filI Ca;refine List.Pairwise.sublist List.filter_sublist ?_;rw[List.pairwise_map];exact List.Pairwise.imp (fun{a b} h=>by omega) List.nodup_range
 ·rw[hz i hi];exact⟨((hmem i).1 hi).2.2,fun k hk=>by simp at hk⟩
 ·rw[hzq a a0 (by omega),hzq b (by omega) b1];exact Int.le_refl _
 ·rw[hzq a a0 a1];exact a0
 ·rw[hzq a a0 a1,hzq _ (by omega) (by omega)];decide
 rw[hzq _ (by omega) (by omega)];show fin i=false;cases hf:fin i with
 |false=>rfl
 |true=>exact absurd ((hmem i).2 ⟨a,b,hf⟩) hi
theorem Bfs.qlen {d q:List Int} {h:Nat} (H:Bfs fin es d q h):q.length≤es.length:=Iy H.nd H.rng
theorem Bfs.dq {d q:List Int} {h:Nat} (H:Bfs fin es d q h) (hh:h<q.length):0≤nth q h∧nth q h<es.length∧0≤nth d (nth q h)∧nth d (nth q h)≤h:=by
 have hm:nth q h∈q:=Ad (by omega) (by omega);obtain⟨a,b⟩:=H.rng _ hm;refine⟨a,b,?_,H.bnd h (by omega) (by omega)⟩;rcases H.mem _ a b with⟨_,c⟩|⟨c,_⟩
 ·exact absurd hm c
 exact c
end
def BackP (es:List (List EdgeD)) (i k:Int) (pl:List (Value×List Int)):Prop:=pl.length=es.length∧∀t:Int,0≤t→t<es.length→((nth pl t).2.length:Int)≤384*i+k∧∀z:Int,z∈(nth pl t).2↔(0≤z∧z<i∧∃e∈nth es z,e.to=t)∨(z=i∧∃e∈(nth es i).take k.toNat,e.to=t)
theorem BackP.init {es:List (List EdgeD)}:BackP es 0 0 (List.replicate es.length (.slice none 0 0,[])):=by
 refine⟨by simp,fun t t0 t1=>?_⟩
 have e:nth (List.replicate es.length ((.slice none 0 0,[]):Value×List Int)) t=(.slice none 0 0,[]):=by
  have:t.toNat<es.length:=by omega
  simp[nth,List.getD,this]
 rw[e];refine⟨by simp,fun z=>⟨fun h=>by simp at h,?_⟩⟩;rintro(⟨a,b,_⟩|⟨_,e,he,_⟩)
 ·omega
 simp at he
theorem BackP.done {es:List (List EdgeD)} {i k:Int} {pl:List (Value×List Int)} (h:BackP es i k pl) (h0:0≤i) (h1:k=(nth es i).length) (h2:(nth es i).length≤384):BackP es (i+1) 0 pl:=by
 refine⟨h.1,fun t t0 t1=>⟨by have:=(h.2 t t0 t1).1;omega,fun z=>?_⟩⟩;rw[(h.2 t t0 t1).2 z];have e:(nth es i).take k.toNat=nth es i:=List.take_of_length_le (by omega);rw[e];constructor
 ·rintro(⟨a,b,c⟩|⟨rfl,c⟩)
  ·exact .inl ⟨a,by omega,c⟩
  exact .inl ⟨h0,by omega,c⟩
 rintro(⟨a,b,c⟩|⟨_,e,he,_⟩)
 ·by_cases hz:z=i
  ·subst hz;exact .inr ⟨rfl,c⟩
  exact .inl ⟨a,by omega,c⟩
 simp at he
theorem BackP.put {es:List (List EdgeD)} {i k:Int} {pl:List (Value×List Int)} (h:BackP es i k pl) (k0:0≤k) (k1:k<(nth es i).length) {to:Int} (ht:(nth (nth es i) k).to=to) (t0:0≤to) (t1:to<es.length) (v:Value):
  BackP es i (k+1) (pl.set to.toNat (v,(nth pl to).2++[i])):=by
 have hl:=h.1;refine⟨by rw[List.length_set];exact hl,fun t a b=>?_⟩;have hsn:(nth es i).take (k+1).toNat=(nth es i).take k.toNat++[nth (nth es i) k]:=AW k0 k1;rw[hsn]
 by_cases e:t=to
 ·subst e;rw[BI a (by omega)];obtain⟨h1,h2⟩:=h.2 t a b;refine⟨by simp;omega,fun z=>?_⟩;rw[List.mem_append,h2 z,List.mem_singleton];constructor
  ·rintro((h|⟨rfl,e,he,h⟩)|rfl)
   ·exact .inl h
   ·exact .inr ⟨rfl,e,List.mem_append_left _ he,h⟩
   exact .inr ⟨rfl,_,List.mem_append_right _ (by simp),ht⟩
  rintro(h|⟨rfl,e,he,h⟩)
  ·exact .inl (.inl h)
  exact .inr rfl
 rw[AU t0 a e];obtain⟨h1,h2⟩:=h.2 t a b;refine⟨by omega,fun z=>?_⟩;rw[h2 z];constructor
 ·rintro(h|⟨rfl,e,he,h⟩)
  ·exact .inl h
  exact .inr ⟨rfl,e,List.mem_append_left _ he,h⟩
 rintro(h|⟨rfl,e',he,h⟩)
 ·exact .inl h
 rcases List.mem_append.1 he with he|he
 ·exact .inr ⟨rfl,e',he,h⟩
 rw[List.mem_singleton.1 he,ht]at h;exact absurd h.symm e
def MzOk (X:GraphD) (u:World) (b:Nat) (d:Sl Int):Prop:=BlkAt u b [X.ps.v,X.es.v,.func (.func 61) #[] #[],d.v] 88∧SlT cInt u d
theorem OL {q:List Int} {h:Nat} (hh:h<q.length):q.drop h=nth q h::q.drop (h+1):=by
 rw[List.drop_eq_getElem_cons hh];congr 1;simp[nth,List.getD,hh]
theorem Iu (e:EdgeD) (w:World):Calls prog 61 #[.agg #[.int .i64 e.m.p,.int .i64 e.m.k,.int .i64 e.m.n,.int .i64 e.to]] w (RetB w (.bool true)):=by
 refine En func61 ?_;refine Nz 0 ?_;refine Wr 1 fun b1 hb1=>?_;refine Nx 1 ?_;exact Wd (Qc (Cr (out1 rfl rfl retB)))
theorem QI (G:Game) (w:World) (hG:GameOk w G) (hn:NearG G) (g:Sl ByteArray) (hW:GOk w g) (X:GraphD) (hX:GraphOk w X) (x0:PX) (hgr:GrAll G.p x0 X.xs X.ed):
  Calls prog 60 #[.agg (gcl G).toArray,.agg #[X.ps.v,X.es.v],.func (.func 61) #[] #[]] w (fun e w'=>∃y:Nat×Sl Int,(K8 G.p X.xs X.ed y.2.l∧∃u0,MzOk X u0 y.1 y.2)∧RetF w (.pointer (some ⟨y.1,0,none⟩)) (roS fun u=>MzOk X u y.1 y.2) e w'):=by
 have hXp:=hX.ps;have hXe:=hX.es;have oXp:=Sl.one hXp;have oXe:=Sl.one hXe;have hlim:=hgr.ok.pk.lim;have hlen:=hgr.len;have hpos:=hgr.ok.pk.pos;rw[UX]at hlim hlen hpos;rw[D1]at hlen;have hes:∀i:Int,0≤i→i<X.ed.length→∀e∈nth X.ed i,0≤e.to∧e.to<X.ed.length:=fun i a b=>hgr.to a b;have hedl:=D1 X;have hPq:∀i:Int,0≤i→i<X.ps.l.length→posG G.p (nth X.ps.l i).x=0:=fun i a b=>hgr.ok.pk.ok _ (by rw[←SB];exact Ad a (by rw[UX];exact b));refine En func60 ?_;refine Nz 0 ?_;refine Wr 0 fun b3 hb3=>?_;refine Wr 1 fun b4 hb4=>?_;refine Wd (Qc (Cs ?_));refine CS.drawnAll (k:=10) mixed rfl rfl ?_;refine Ak 0 [1,3] rfl (Bb 0) ?_;refine Ak 4 [] rfl (Ba 0) ?_;refine Ak 5 [] rfl Nc ?_;refine Ao 2 rfl ?_;refine WS.buildI1 sl37 zv3 rfl (fun _=>rfl) ?_;intro v23;refine Wd (Qa ?_);refine Ao 6 rfl ?_;refine Wc rfl rfl Jai (fun u hu=>TG v23 (-1) (X.ps.l.length:Int) u (Ah hu (j:=0) rfl) (by omega)) (fun _=>rfl) ?_;intro v27 hv27;refine Wd (Qa ?_);refine Ak 7 [] rfl (Aw Jav zv88 (pcs:=[(0,[X.ps.v,X.es.v]),(1,[.func (.func 61) #[] #[]]),(2,[v27])]) rfl (CellsOf.agg (CellsOf.one rfl (CellsOf.one hv27 CellsOf.nil))) rfl) ?_;refine Ao 8 rfl ?_;refine Wr 0 fun b29 hb29=>?_;refine Wd (Qa ?_);refine Ar [9] ?_;refine Ae ?_;refine Qc (Nz 1 ?_);refine Nv 1 ?_;refine Wk 0 (Ba 3) ?_;refine Wk 1 Nc ?_;refine Nu ?_;refine CS.weak (fun _ hu=>hu.osl0 (e:=3) (size:=1)) ?_;refine CS.sel [0,1,0,1,1] rfl ?_;refine CS.loopM (σ:=Int×Value×List Int×List Int) (rsL [9,12,34,61]) (fun s=>[(33,.int .i64 s.1),(8,s.2.1)]) (fun s=>[oints 3 s.2.1 s.2.2.1,oints 3 v27 s.2.2.2,blk b29 [X.ps.v,X.es.v,.func (.func 61) #[] #[],v27] 88,blk b4 [X.ps.v,X.es.v] 69,blk b3 (gcl G) 36]) (fun s=>0≤s.1∧s.1≤X.ps.l.length∧s.2.2.2.length=X.ps.l.length∧(∀j:Int,0≤j→j<s.1→nth s.2.2.2 j=if finB G.p X.xs j=true then 0 else -1)∧(∀j:Int,s.1≤j→j<X.ps.l.length→nth s.2.2.2 j = -1)∧s.2.2.1=filI s.1 (finB G.p X.xs)∧s.2.1.oneCell'=true) (fun s=>(X.ps.l.length-s.1).toNat) (0,.slice none 0 0,[],List.replicate (X.ps.l.length:Int).toNat (-1)) (fun _ _=>rfl) rfl rfl ⟨by simp,by simp,by simp,(fun j a b=>by simp only at b;omega),(fun j a b=>by have h9:j.toNat<X.ps.l.length:=(by omega);simp[nth,List.getD,h9]),rfl,rfl⟩ ?_;intro a t hs;obtain⟨ha1,ha2,ha3,ha4,ha5,ha6,ha7⟩:=hs;have hfl:=Eu (p:=(finB G.p X.xs)) ha1;rw[←ha6]at hfl;refine Nz 1 ?_;refine Wd (Qc (Cs (Cn ?_ ?_)))<;>intro hc1
 ·have hxq:=hPq a.1 ha1 (by omega);have hxo:PosOk w (nth X.ps.l a.1):=hXp.at ha1 (by omega);have hP:=BJ hxq;have hS:stL G.rm (nth X.ps.l a.1).st.x=0:=CR.2 ⟨hP.ck,hP.inn⟩;have hgc:D6 G.rm.ths.l G.rm.gl.l=true:=Jk (BH (Fu hP.ck)).2;have hhv:HoldsV G.rm (nth X.ps.l a.1).st.x G.rm.gl.l=(0,Bt (nth X.ps.l a.1).st.x.1 G.rm.gl.l):=(if_pos hS).trans (if_pos hgc);have hdx:finB G.p X.xs a.1=Bt (nth X.ps.l a.1).st.x.1 G.rm.gl.l:=by unfold finB Cl;rw[SB,←G.p_alike.gl];rfl
  refine Ck (Qc (Cs (Ce (Nz 1 ?_))));refine Wk 0 Xc ?_;refine Wk 0 Ua ?_;refine Wq 1 zv98 fun b10 hb10=>?_;refine Wv 0 0 ?_;refine Nx 1 ?_;refine Wk 1 (Bc 5) ?_;refine Wk 0 (Bc 0) ?_;refine Wk 5 (Cb rfl rfl Yo (fun u hu=>(by have q:=Qf G.rm u (hG.rm.st hu) g (hW.st hu) hn.rm (nth X.ps.l a.1).st (hxo.st.st hu);rw[hhv]at q;exact q))) ?_;refine Nx 3 ?_;refine Wj 0 ?_;refine Wk 0 Pa ?_;refine Wp ?_ ?_<;>intro hc2
  ·have hfa:finB G.p X.xs a.1=true:=by rw[hdx];simpa using hc2
   refine Nz 3 ?_;refine Wk 1 (Ba 3) ?_;refine Wk 0 (Xb 2) ?_;refine WS.storeOI (j:=2) rfl rfl (by omega) rfl tk3 rfl ?_;refine Nw 2 ?_;refine WS.buildI1 sl37 zv3 rfl (fun _=>rfl) ?_;intro v59;refine WS.appendI (j:=2) sl37 zv3 rfl rfl rfl (fun u hu=>Ah hu (j:=0) rfl) (by(simp;omega)) (by(simp;omega)) (fun _=>rfl) (fun _=>rfl) ?_;intro v60;refine WS.oc (j:=2) rfl (fun hv60=>?_);refine Wz 1 ?_;refine Wd (Qb (Qc (Ny 0 ?_)));refine Wk 1 Za ?_;refine Wd ?_;refine QS.sel [2,2,2,2,2] rfl ?_
   exact QS.head ((a.1+1,v60,a.2.2.1++[a.1],a.2.2.2.set a.1.toNat 0)) rfl rfl ⟨⟨by simp;omega,by simp;omega,by simp only[List.length_set];exact ha3,(fun j j0 j1=>by
       simp only at j1⊢
       by_cases hj:j=a.1
       ·subst hj;rw[BI ha1 (by omega),if_pos hfa]
       ·rw[AU ha1 j0 hj];exact ha4 j j0 (by omega)),(fun j j0 j1=>by
       simp only at j0⊢
       rw[AU ha1 (by omega) (by omega)];exact ha5 j (by omega) j1),(by simp only;rw[ha6];exact ET ha1 hfa),hv60⟩,by simp;omega⟩
  have hfa:finB G.p X.xs a.1=false:=by rw[hdx];simpa using hc2
  refine Ck (Qb (Qc (Ny 0 ?_)));refine Wk 1 Za ?_;refine Wd ?_;refine QS.sel [1,1,1,1,1] rfl ?_
  exact QS.head ((a.1+1,a.2.1,a.2.2.1,a.2.2.2)) rfl rfl ⟨⟨by simp;omega,by simp;omega,ha3,(fun j j0 j1=>by
      simp only at j1⊢
      by_cases hj:j=a.1
      ·subst hj;rw[if_neg (by rw[hfa];decide)];exact ha5 _ (Int.le_refl _) (by omega)
      exact ha4 j j0 (by omega)),(fun j j0 j1=>ha5 j (by simp only at j0;omega) j1),(by simp only;rw[ha6];exact GG ha1 hfa),ha7⟩,by simp;omega⟩
 have hae:a.1=(X.ps.l.length:Int):=by omega
 have hbf:Bfs (finB G.p X.xs) X.ed a.2.2.2 a.2.2.1 0:=Bfs.init (by omega) (fun j j0 j1=>ha4 j j0 (by omega)) (by rw[ha6,hae,show((X.ps.l.length:Int))=((X.ed.length:Nat):Int) by omega]);refine Cv (Qe (Qe (Qx (Qc (Nz 1 ?_)))));refine Wk 0 (Ba 3) ?_;refine Wk 0 Nc ?_;refine WS.makeListsL (f:=Value.int .i64) (e:=3) sl33 rfl rfl zv37 (by omega) (by omega) (by omega) (fun _=>rfl) ?_;intro v65 hv65;refine Wz 1 ?_;refine Nv 1 ?_;refine Wk 0 (Ba 5) ?_;refine Wk 1 Nc ?_;refine Nu ?_;refine CS.loopM (σ:=Int×List (Value×List Int)) (rsL [14,15,17,17,70,96]) (fun s=>[(69,.int .i64 s.1)]) (fun s=>[osl 37 1 v65 (s.2.map (·.1)).length (s.2.map (·.1)),star (lol (Value.int .i64) 3 s.2),oints 3 a.2.1 a.2.2.1,oints 3 v27 a.2.2.2,blk b29 [X.ps.v,X.es.v,.func (.func 61) #[] #[],v27] 88,blk b4 [X.ps.v,X.es.v] 69,blk b3 (gcl G) 36]) (fun s=>0≤s.1∧s.1≤X.es.l.length∧BackP X.ed s.1 0 s.2) (fun s=>(X.es.l.length-s.1).toNat) (0,List.replicate (X.ps.l.length:Int).toNat ((.slice none 0 0,[]):Value×List Int)) (fun _ _=>rfl) rfl rfl ⟨by simp,by simp,by simp only;rw[show((X.ps.l.length:Int)).toNat=X.ed.length by omega];exact BackP.init⟩ ?_;intro b t hs;obtain⟨hb1,hb2,hb3⟩:=hs;refine Nz 1 ?_;refine Wd (Qc (Cs (Cn ?_ ?_)))<;>intro hc3
 ·have hbl:b.1<(X.es.l.length:Int):=by omega
  have hke:SlT cEdge w (nth X.es.l b.1):=hXe.at hb1 hbl;have kle:=hke.le;have hei:=HG X b.1;have hti:=hes b.1 hb1 (by omega);rw[hei]at hti;have hxq:=hPq b.1 hb1 (by omega);have hek:=hgr.ok.es b.1 hb1 (by omega);rw[hei,SB]at hek;have hml:=congrArg List.length hek.mv;rw[List.length_map]at hml;have hmn:=Ho (BJ hxq);refine Ck (Qc (Cs (Ce (Nz 1 ?_))));refine Wk 0 Xc ?_;refine Wk 2 Ub ?_;refine Nx 1 ?_;refine Wk 1 Nc ?_;refine Nu ?_;refine CS.loopM (σ:=Int×List (Value×List Int)) (rsL [17,17,77,95]) (fun s=>[(76,.int .i64 s.1)]) (fun s=>[osl 37 1 v65 (s.2.map (·.1)).length (s.2.map (·.1)),star (lol (Value.int .i64) 3 s.2),oints 3 a.2.1 a.2.2.1,oints 3 v27 a.2.2.2,blk b29 [X.ps.v,X.es.v,.func (.func 61) #[] #[],v27] 88,blk b4 [X.ps.v,X.es.v] 69,blk b3 (gcl G) 36]) (fun s=>0≤s.1∧s.1≤(nth X.es.l b.1).l.length∧BackP X.ed b.1 s.1 s.2) (fun s=>((nth X.es.l b.1).l.length-s.1).toNat) (0,b.2) (fun _ _=>rfl) rfl rfl ⟨by simp,by simp,hb3⟩ ?_;intro c t hs;obtain⟨hcc1,hcc2,hcc3⟩:=hs;refine Nz 1 ?_;refine Wd (Qc (Cs (Cn ?_ ?_)))<;>intro hc4
  ·obtain⟨ht0,ht1⟩:=hti _ (Ad hcc1 (show c.1<((nth X.es.l b.1).l.length:Int) by omega));have hpl:=hcc3.1;have hcml:(c.2.map (·.1)).length=c.2.length:=List.length_map _;have hp:=UH (pl:=c.2) ht0 (by omega);have hbd:=(hcc3.2 _ ht0 ht1).1;refine Ck (Qc (Cs (Ce (Nz 0 ?_))));refine Wk 0 Xc ?_;refine Wk 0 Ua ?_;refine Wq 0 FO fun b17 hb17=>?_;refine Wv 0 0 ?_;refine Nx 1 ?_;refine Wk 0 (Bb 0) ?_;refine Wk 0 (Cb rfl rfl V5 (fun u hu=>Iu (nth (nth X.es.l b.1).l c.1) u)) ?_;refine Wp ?_ ?_<;>intro hc5
   ·refine CS.drawnTillBut 12 2 (k:=13) mixed rfl rfl rfl ?_;refine Tr 13 [0,1] ?_;refine Tk 13 2 [3,4] rfl (Ba 0) ?_;refine Tk 13 5 [] rfl (Ba 0) ?_;refine Tk 13 6 [] rfl (EW (j:=1) sl33 rfl rfl rfl (by omega) (by omega)) ?_;refine Tk 13 7 [8] rfl (It (j:=1) rfl rfl (by rw[Nat.mul_one,List.getElem?_map,hp];rfl) tk37) ?_;refine To 9 rfl ?_;refine WS.buildI1 sl37 zv3 rfl (fun _=>rfl) ?_;intro v92;refine Wd (Qt ?_);refine To 10 rfl ?_;refine WS.appendAtL (f:=Value.int .i64) (j:=3) (p:=nth c.2 (nth (nth X.es.l b.1).l c.1).to) (a:=b.1) (i:=((nth (nth X.es.l b.1).l c.1).to).toNat) sl37 zv3 rfl rfl hp rfl (fun u hu=>AX hu (j:=0) rfl) rfl (by omega) (by omega) (fun _=>rfl) (fun _=>rfl) ?_;intro v93 hv93;refine Wd (Qt ?_);refine Tk 13 11 [] rfl (EW (j:=1) sl33 rfl rfl rfl (by omega) (by omega)) ?_;refine To 12 rfl ?_;refine WS.storeO (j:=2) rfl rfl (by rw[Nat.mul_one,List.length_map];omega) rfl hv93 tk37 rfl ?_;refine Wd (Qt ?_);refine Te ?_;refine Qb (Qc (Ny 0 ?_));refine Wk 1 Za ?_;refine Wd ?_;refine QS.sel [2,2,2,2,2,2,2] rfl ?_;exact QS.head ((c.1+1,c.2.set ((nth (nth X.es.l b.1).l c.1).to).toNat (v93,(nth c.2 (nth (nth X.es.l b.1).l c.1).to).2++[b.1]))) rfl (by simp only[KL,Nat.mul_one,List.length_set]) ⟨⟨by simp;omega,by simp;omega,hcc3.put hcc1 (by rw[hei];omega) (by rw[hei]) ht0 ht1 v93⟩,by simp;omega⟩
   cases hc5
  refine Cv (Qe (Qe (Qx (Qb (Qc (Ny 0 ?_))))));refine Wk 1 Za ?_;exact Wd (QS.head ((b.1+1,c.2)) rfl rfl ⟨⟨by simp;omega,by simp;omega,hcc3.done hb1 (by rw[hei];omega) (by rw[hei];omega)⟩,by simp;omega⟩)
 refine Cv (Qe (Qe (Qx (Qc (Cs (Ce ?_))))));refine CS.sel [2,0,0,0,0,0,0] rfl ?_;refine CS.weak (fun u hu=>hu.toQ) ?_;refine CS.loopM (σ:=Nat×Value×List Int×List Int) (rsL [18,18,20,20,97,140]) (fun s=>[(8,s.2.1)]) (fun s=>[qrow 3 s.2.1 (ints (s.2.2.1.drop s.1)),osl 37 1 v65 (b.2.map (·.1)).length (b.2.map (·.1)),star (lol (Value.int .i64) 3 b.2),oints 3 v27 s.2.2.2,blk b29 [X.ps.v,X.es.v,.func (.func 61) #[] #[],v27] 88,blk b4 [X.ps.v,X.es.v] 69,blk b3 (gcl G) 36]) (fun s=>Bfs (finB G.p X.xs) X.ed s.2.2.2 s.2.2.1 s.1∧s.2.1.oneCell'=true) (fun s=>X.ed.length-s.1) (0,a.2.1,a.2.2.1,a.2.2.2) (fun _ _=>rfl) rfl rfl ⟨hbf,ha7⟩ ?_;intro h t hs;obtain⟨hh1,hh2⟩:=hs;have hql:=hh1.qlen;have hdl:=hh1.len;refine Cs (Nz 1 ?_);refine Wk 1 (RX (j:=0) sl37 rfl rfl) ?_;refine Wp ?_ ?_<;>intro hc6
 ·have hhl:h.1<h.2.2.1.length:=by have h9:=hc6;rw[List.length_drop]at h9;omega
  have hdr:=OL hhl;have hdz:nth (h.2.2.1.drop h.1) 0=nth h.2.2.1 h.1:=by rw[hdr];rfl
  obtain⟨hq0,hq1,hq2,hq3⟩:=hh1.dq hhl;have hbd:=(hb3.2 _ hq0 hq1).1;have hp:=UH (pl:=b.2) hq0 (by rw[hb3.1];exact hq1);have hdl9:(h.2.2.1.drop h.1).length=(h.2.2.1.drop (h.1+1)).length+1:=by rw[hdr];rfl
  refine Ck (Qc (Ce (Nz 1 ?_)));refine Wk 0 (SV (j:=0) sl37 rfl rfl rfl (by omega) (by omega)) ?_;refine Wk 0 (VX (j:=0) rfl rfl ⟨by omega,by omega⟩ tk3) ?_
  rewrite [hdz]
  refine Wz 1 ?_;refine Nx 1 ?_;refine Wk 1 (WX (j:=0) sl37 rfl rfl rfl (by omega) (by omega)) ?_;refine Nx 2 ?_;refine Wk 0 (EW (j:=1) sl33 rfl rfl rfl hq0 (by rw[List.length_map,hb3.1];exact hq1)) ?_;refine Wk 0 (It (j:=1) rfl rfl (by rw[Nat.mul_one,List.getElem?_map,hp];rfl) tk37) ?_;refine Wk 1 (Tl (j:=2) sl37 rfl rfl hp) ?_;refine Nu ?_;refine CS.sel [0,0,0,0,0,0,0] rfl ?_;refine CS.weak (fun u hu=>St.qTail2 hdr hu) ?_
  refine CS.loopM (σ:=Int×Value×List Int×List Int) (rsL [20,20,111,140]) (fun s=>[(110,.int .i64 s.1),(8,s.2.1)]) (fun s=>[qrow 3 s.2.1 (ints (s.2.2.1.drop (h.1+1))),osl 37 1 v65 (b.2.map (·.1)).length (b.2.map (·.1)),star (lol (Value.int .i64) 3 b.2),oints 3 v27 s.2.2.2,blk b29 [X.ps.v,X.es.v,.func (.func 61) #[] #[],v27] 88,blk b4 [X.ps.v,X.es.v] 69,blk b3 (gcl G) 36]) (fun s=>0≤s.1∧s.1≤(nth b.2 (nth h.2.2.1 h.1)).2.length∧Bfs (finB G.p X.xs) X.ed s.2.2.2 s.2.2.1 h.1∧h.1<s.2.2.1.length∧(∀j:Int,0≤j→j<s.1→nth (nth b.2 (nth h.2.2.1 h.1)).2 j∈s.2.2.1)∧nth s.2.2.1 h.1=nth h.2.2.1 h.1∧s.2.1.oneCell'=true) (fun s=>((nth b.2 (nth h.2.2.1 h.1)).2.length-s.1).toNat) (0,sub2 1 h.2.1 1 (h.2.2.1.drop h.1).length,h.2.2.1,h.2.2.2) (fun _ _=>rfl) rfl rfl ⟨by simp,by simp,hh1,hhl,fun j a b=>by simp only at b;omega,rfl,by show(sub2 1 h.2.1 1 _).oneCell'=true;cases hv:h.2.1 with
     |_=>first|rfl|(rw[hv]at hh2;exact hh2)⟩ ?_
  intro k t hs;obtain⟨hk1,hk2,hk3,hk4,hk5,hk6,hk7⟩:=hs;have hkd:=hk3.len;have hkq:=hk3.qlen;obtain⟨hz0,hz1,hz2,hz3⟩:=hk3.dq hk4;rw[hk6]at hz0 hz1 hz2 hz3;refine Nz 1 ?_;refine Wd (Qc (Cs (Cn ?_ ?_)))<;>intro hc7
  ·have hkm:=Ad hk1 (show k.1<((nth b.2 (nth h.2.2.1 h.1)).2.length:Int) by omega)
   obtain⟨hi0,hi1,hie⟩:0≤(nth (nth b.2 (nth h.2.2.1 h.1)).2 k.1)∧(nth (nth b.2 (nth h.2.2.1 h.1)).2 k.1)<X.ed.length∧∃e∈nth X.ed (nth (nth b.2 (nth h.2.2.1 h.1)).2 k.1),e.to=nth h.2.2.1 h.1:=by
    rcases((hb3.2 _ hq0 hq1).2 _).1 hkm with⟨p1,p2,p3⟩|⟨_,e,he,_⟩
    ·exact⟨p1,by omega,p3⟩
    simp at he
   refine Ck (Qc (Cs (Ce (Nz 0 ?_))));refine Wk 0 (TJ (j:=2) sl37 rfl rfl rfl hp (by omega) (by omega)) ?_;refine Wk 1 (WA (j:=2) rfl hp rfl ⟨by omega,by omega⟩ tk3) ?_;refine Nx 3 ?_;refine Wk 1 (Ba 4) ?_;refine Wk 0 (Xb 3) ?_;refine Wk 1 (Gq (j:=3) rfl rfl ⟨by omega,by omega⟩ tk3) ?_;refine Wp ?_ ?_<;>intro hc8
   ·have hneg:nth k.2.2.2 (nth (nth b.2 (nth h.2.2.1 h.1)).2 k.1)<0:=hc8;refine Cs ?_;refine CS.drawnTill 14 (k:=15) mixed rfl rfl ?_;refine Tr 15 [0,1,2] ?_;refine Tk 15 3 [4,5,6,7] rfl (Ba 4) ?_;refine Tk 15 8 [9] rfl (Ba 4) ?_;refine Tk 15 10 [] rfl (Xb 3) ?_;refine Tk 15 11 [] rfl (Gq (j:=3) rfl rfl ⟨by omega,by omega⟩ tk3) ?_;refine Tk 15 12 [] rfl Za ?_;refine Tk 15 13 [] rfl (Xb 3) ?_;refine To 14 rfl ?_;refine WS.storeOI (j:=3) rfl rfl (by omega) rfl tk3 rfl ?_;refine Wd (Qt ?_);refine Te ?_;refine Qc (Ny 2 ?_);refine WS.buildI1 sl37 zv3 rfl (fun _=>rfl) ?_;intro v138;refine WS.appendQ (a:=.int .i64 (nth (nth b.2 (nth h.2.2.1 h.1)).2 k.1)) (j:=1) sl37 zv3 rfl rfl rfl (fun u hu=>AX hu (j:=0) rfl) rfl (by simp[ints];omega) (by simp[ints];omega) (fun _=>rfl) (fun _=>rfl) ?_;intro v139 hv139;refine Wz 1 ?_;refine Wd (Qb (Qc (Ny 0 ?_)));refine Wk 1 Za ?_;refine Wd ?_;refine QS.sel [1,1,1,1,1,1,1] rfl ?_
    exact QS.head ((k.1+1,v139,k.2.2.1++[(nth (nth b.2 (nth h.2.2.1 h.1)).2 k.1)],k.2.2.2.set ((nth (nth b.2 (nth h.2.2.1 h.1)).2 k.1)).toNat (nth k.2.2.2 (nth h.2.2.1 h.1)+1))) rfl (by simp only;rw[List.drop_append_of_le_length (by omega)];simp[ints]) ⟨⟨by simp;omega,by simp;omega,(by have h9:=hk3.add hk4 hi0 hi1 hneg (by rw[hk6];exact hie);rw[hk6]at h9;exact h9),(by simp;omega),(fun j j0 j1=>by
        simp only at j1⊢
        by_cases hj:j=k.1
        ·subst hj;simp
        exact List.mem_append_left _ (hk5 j j0 (by omega))),(by simp only;rw[DV (by omega) (by omega)];exact hk6),hv139⟩,by simp;omega⟩
   have hin:(nth (nth b.2 (nth h.2.2.1 h.1)).2 k.1)∈k.2.2.1:=by
    rcases hk3.mem _ hi0 hi1 with⟨p1,_⟩|⟨_,p2⟩
    ·omega
    exact p2
   refine Ck (Qb (Qc (Ny 0 ?_)));refine Wk 1 Za ?_;refine Wd ?_
   exact QS.head ((k.1+1,k.2.1,k.2.2.1,k.2.2.2)) rfl rfl ⟨⟨by simp;omega,by simp;omega,hk3,hk4,(fun j j0 j1=>by
       simp only at j1⊢
       by_cases hj:j=k.1
       ·subst hj;exact hin
       exact hk5 j j0 (by omega)),hk6,hk7⟩,by simp;omega⟩
  refine Cv (Qe (Qe (Qx (Qb ?_))))
  exact QS.head ((h.1+1,k.2.1,k.2.2.1,k.2.2.2)) rfl rfl ⟨⟨hk3.next (by omega) hes (fun i i0 i1 he=>by
      have h9:=((hb3.2 _ hq0 hq1).2 i).2 (.inl ⟨i0,by omega,by rw[hk6]at he;exact he⟩);obtain⟨m,hm,rfl⟩:=List.getElem_of_mem h9;have h8:=hk5 m (by omega) (by omega)
      rwa [Qi hm]at h8),hk7⟩,by show X.ed.length-(h.1+1)<_;omega⟩
 have hhe:h.1=h.2.2.1.length:=by have h9:=hc6;rw[List.length_drop]at h9;have:=hh1.hq;omega
 have hdone:=hh1.done hhe hes;refine Cv (Qe (Qe (Qx (Qc (Nz 2 ?_)))));exact Wd (Qc (Cr (out1 rfl rfl (fun u hu=>⟨(b29,⟨v27,h.2.2.2⟩),⟨hdone,u,⟨AD hu (j:=4) rfl,(Ah hu (j:=3) rfl).tree⟩⟩,retR (fun S u hh=>⟨Star.blk (j:=4) rfl hh,(Star.oints (j:=3) rfl hh).tree⟩) u hu⟩))))
end Go.Proofs.YtmoojmgihdgceaaGreatDoor
