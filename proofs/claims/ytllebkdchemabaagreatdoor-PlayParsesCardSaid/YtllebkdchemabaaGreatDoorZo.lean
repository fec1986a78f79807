/- Merged texts of this proof. -/
import Derived.Test.YtllebkdchemabaaGreatDoorZi
import Derived.Test.YtllebkdchemabaaGreatDoorZb2
import Derived.Test.YtllebkdchemabaaGreatDoorZc
import Derived.Lib.RuneCount
import Derived.Lib.QuoteLoop
import Derived.Shelf.Unicode.DecodeSlow
import Derived.Test.YtllebkdchemabaaGreatDoorZb
import Derived.LaidEql
import Derived.Stop.Asserts
import Derived.Test.YtllebkdchemabaaGreatDoorZj
import Derived.Test.YtllebkdchemabaaGreatDoorZn0
set_option maxHeartbeats 8000000
namespace Go.Proofs.YtllebkdchemabaaGreatDoor
open Go.RowKit Go.Proofs Tryz
set_option maxRecDepth 100000
set_option linter.unusedVariables false
set_option linter.unusedSimpArgs false
theorem Jg4 (c:UInt8) (tx:ByteArray) (w:World) (hM:MaxOk w) (hs:tx.size<4294967281):
  Calls prog 71 #[.string tx,.string ⟨#[c]⟩,.int .i64 1,.int .i64 (-1)] w (fun e w'=>∃v':Value,v'.oneCell'=true/\RetF w v' (oT cStr 9 v' (aftS c tx)) e w'):=by
 obtain⟨m,hm⟩:=hM;have hle:=Lib.countB_le ⟨#[c]⟩ (show 1<=1 by decide) tx.size tx (Nat.le_refl _);have q:=Tryz.strings_genSplit tx ⟨#[c]⟩ 1 (-1) (Lib.countB tx ⟨#[c]⟩+1) m w hs hm (show 1<=1 by decide) (show 1<=1 by decide) (by decide) (by decide) (by rw[if_pos (by decide)];omega);rw[Nat.add_sub_cancel,My]at q;have hl:(aftS c tx).length=Lib.countB tx ⟨#[c]⟩+1:=by rw[EI,JA]
 have hc:Lib.cellsOf (aftS c tx) (Lib.countB tx ⟨#[c]⟩+1)=((aftS c tx).map Value.string).toArray:=by rw[<-hl];exact Lib.cellsOf_full _
 rw[hc,<-hl]at q;refine q.mono ?_;rintro e w' ⟨rfl,rfl⟩;have h2:=(St.nil (w:=w)).alloc ((aftS c tx).map Value.string) 9;have h3:=h2.closeRow (k:=1) (n:=(aftS c tx).length) (cap:=(aftS c tx).length) (Nat.le_refl _) (by rw[EI];have:=Bn c tx;omega) (by simp) (xs:=A1 cStr (aftS c tx)) (by rw[JU,List.take_of_length_le (by simp)]);exact⟨_,rfl,retF (L:=[oT cStr 9 _ (aftS c tx)]) (j:=0) rfl _ h3⟩
theorem XE (c:UInt8) (t:ByteArray) (w:World) (ht:t.size<=1000000):
  Calls prog 25 #[.string t,.string ⟨#[c]⟩] w (RetB w (.tuple #[.string ⟨(Lib.trimSuffix (bl t) [c]).toArray⟩,.bool (Lib.hasSuffix (bl t) [c])])):=by
 refine(Tryz.strings_CutSuffix t ⟨#[c]⟩ w (by omega)).mono ?_;rintro e w' ⟨rfl,rfl⟩;exact⟨rfl,Below.refl _ _⟩
theorem Ng (c:UInt8) (t:ByteArray):Lib.hasSuffix (bl (t++(⟨#[c]⟩:ByteArray))) [c]=true/\(⟨(Lib.trimSuffix (bl (t++(⟨#[c]⟩:ByteArray))) [c]).toArray⟩:ByteArray)=t:=by
 have e:bl (t++(⟨#[c]⟩:ByteArray))=bl t++[c]:=by simp[IP,YH]
 have h:Lib.hasSuffix (bl t++[c]) [c]=true:=by simp[Lib.hasSuffix]
 rw[e];refine⟨h,G9 ?_⟩;rw[YH,Lib.trimSuffix,if_pos h];simp
theorem Jdf {c:UInt8} {t:ByteArray} (h:c∉bl t):Lib.hasSuffix (bl t) [c]=false:=by
 cases hq:Lib.hasSuffix (bl t) [c]with
 |false=>rfl
 |true=>
  have:[c] <:+bl t:=by simpa [Lib.hasSuffix]using hq
  exact absurd (this.subset (by simp)) h
theorem YW (c:UInt8) (tx:ByteArray) (w:World) (hM:MaxOk w) (hs:tx.size<4294967281):
  Calls prog 18 #[.string tx,.string ⟨#[c]⟩] w (fun e w'=>∃v':Value,v'.oneCell'=true/\RetF w v' (oT cStr 9 v' (aftS c tx)) e w'):=by
 refine En func18 ?_;refine Nz 1 ?_;refine Nx 3 ?_;refine Wk 0 (Al underlying9 rfl) ?_;refine Wc rfl rfl Jcx (fun u hu=>Jg4 c tx u (hM.st hu) hs) (fun _=>rfl) ?_;intro v9 hv9;refine Wz 1 ?_;exact Wd (Qc (Cr (out1 rfl rfl (fun u hu=>⟨_,hv9,retF (j:=0) rfl u hu⟩))))
theorem Tp (c:UInt8) (t:ByteArray) (w:World) (ht:t.size<=1000000):
  Calls prog 21 #[.string t,.string ⟨#[c]⟩] w (RetB w (.string ⟨(Lib.trimSuffix (bl t) [c]).toArray⟩)):=by
 refine(Tryz.strings_TrimSuffix t ⟨#[c]⟩ w (by omega)).mono ?_;rintro e w' ⟨rfl,rfl⟩;exact⟨rfl,Below.refl _ _⟩
theorem Vv (t p:ByteArray) (w:World):Calls prog 22 #[.string t,.string p] w (RetB w (.bool ((bl p).isPrefixOf (bl t)))):=by
 refine(Tryz.strings_HasPrefix t p w).mono ?_;rintro e w' ⟨rfl,rfl⟩;exact⟨rfl,Below.refl _ _⟩
theorem LX (s:Sl ByteArray) (sep:ByteArray) (w:World) (hk:SlT cStr w s) (hm:s.l.length<=1000000) (hn:(Lib.join (s.l.map bl) (bl sep)).length<=140737488355328):
  Calls prog 24 #[s.v,.string sep] w (RetB w (.string (ba (Lib.join (s.l.map bl) (bl sep))))):=by
 rcases Nat.eq_zero_or_pos s.l.length with h0|hp
 ·obtain⟨hl,p,cap,e,_⟩:=hk.sp;have e0:s.l=[]:=List.length_eq_zero_iff.1 h0;have e1:s.v = .slice p 0 cap:=by rw[e,h0]
  rw[e1,e0];refine(Tryz.strings_Join_none p cap sep w).mono ?_;rintro e' w' ⟨rfl,rfl⟩;exact⟨rfl,Below.refl _ _⟩
 obtain⟨b,o,c,e,h1,h2,h3⟩:=Q8 hk hp;have q:=Tryz.strings_Join b o c s.l sep w h3 h2 (by omega) h1 hn;rw[<-e]at q;refine q.mono ?_;rintro e' w' ⟨rfl,h4⟩;exact⟨rfl,h4⟩
theorem La:∀xs:List (List UInt8),Lib.joinTail [] xs=xs.flatten
 |[]=>rfl
 |x::xs=>by
  have:=La xs;simp only[Lib.joinTail]at this⊢;simp[this]
theorem Jh1 (xs:List ByteArray):ba (Lib.join (xs.map bl) [])=catS xs:=by
 refine G9 ?_;show Lib.join (xs.map bl) []=xs.flatMap bl;cases xs with
 |nil=>rfl
 |cons x r=>rw[List.map_cons,Lib.join_cons,La,List.flatMap_cons,List.flatMap_def]
theorem Jax (s:Sl ByteArray) (w:World) (hk:SlT cStr w s) (hm:s.l.length<=1000000) (hn:(catS s.l).size<=1000000):
  Calls prog 24 #[s.v,.string ⟨#[]⟩] w (RetB w (.string (catS s.l))):=by
 have e:=Jh1 s.l
 have q:=LX s ⟨#[]⟩ w hk hm (by
  have h:=congrArg ByteArray.size e;have h2:(ba (Lib.join (s.l.map bl) [])).size=(Lib.join (s.l.map bl) []).length:=List.size_toArray;show(Lib.join (s.l.map bl) []).length<=_
  omega)
 rw[<-e];exact q
variable {n:Nat}
theorem YR (s:Sl ByteArray) (w:World) (hk:SlT cStr w s) (hm:s.l.length<=1000000) (hb:∀x∈s.l,x.size<=n) (hn:n<=1000000):
  Calls prog 24 #[s.v,.string ⟨#[32]⟩] w (RetB w (.string (jnB s.l))):=
 LX s ⟨#[32]⟩ w hk hm (Nat.le_trans (Om hb) (Nat.le_trans (Nat.mul_le_mul (show n+1<=1000001 by omega) hm) (by decide)))
theorem X7 (s:ByteArray):(Lib.decodeGo s).2<=s.size:=by
 unfold Lib.decodeGo;split
 ·exact Nat.zero_le _
 rename_i h;exact Lib.width_le s (by omega)
def EA:Nat->ByteArray->List ByteArray
 |0,_=>[]
 |1,s=>[s]
 |n+2,s=>s.extract 0 (Lib.decodeGo s).2::EA (n+1) (s.extract (Lib.decodeGo s).2 s.size)
theorem KV:∀(n:Nat) (s:ByteArray),(EA n s).length=n
 |0,_=>rfl
 |1,_=>rfl
 |n+2,s=>by rw[EA,List.length_cons,KV (n+1)]
theorem Mv:∀(n:Nat) (s:ByteArray),(EA (n+1) s).flatMap bl=bl s
 |0,s=>by simp[EA]
 |n+1,s=>by
  have h:=X7 s;rw[EA,List.flatMap_cons,Mv n,IW,IW,List.drop_zero,Nat.sub_zero];show(bl s).take _++((bl s).drop _).take _=_;rw[List.take_of_length_le (l:=(bl s).drop (Lib.decodeGo s).2) (by rw[List.length_drop,Bp];omega),List.take_append_drop]
variable {s:ByteArray}
theorem OW (h:0<s.size):0<Lib.runeCount s:=by
 unfold Lib.runeCount;obtain⟨k,hk⟩:∃k,s.size=k+1:=⟨s.size-1,by omega⟩;rw[hk,Lib.runeCountFrom,if_pos h];omega
theorem TP (s:ByteArray):Lib.runeCount s<=s.size:=Lib.runeCountFrom_le s s.size 0
theorem R2 {b:UInt8} {r:List UInt8} (e:bl s=b::r) (hb:b.toNat<128):(Lib.decodeGo s).2=1:=by
 have hp:0<s.size:=by rw[<-Bp,e];simp
 have h0:s[0]'hp=b:=by
  have:(bl s)[0]? = some b:=by rw[e];rfl
  obtain⟨h1,h2⟩:=List.getElem?_eq_some_iff.1 this;rw[<-h2];rfl
 unfold Lib.decodeGo;rw[if_neg (by omega),decode_ascii s 0 hp (by rw[h0];exact hb)]
theorem P1:∀(l:List UInt8) (s:ByteArray),bl s=l->(∀b∈l,b.toNat<128)->EA l.length s=l.map fun b=>ba [b]
 |[],s,_,_=>rfl
 |[b],s,e,_=>by
  show[s]=[ba [b]];rw[<-Xs s,e]
 |b::c::r,s,e,h=>by
  have hd:=R2 e (h b List.mem_cons_self)
  have e2:bl (s.extract (Lib.decodeGo s).2 s.size)=c::r:=by
   rw[hd,IW];show((bl s).drop 1).take _=_;rw[e,List.drop_one,List.tail_cons,List.take_of_length_le];rw[<-Bp,e];simp
  have ih:=P1 (c::r) _ e2 fun x hx=>h x (List.mem_cons_of_mem _ hx);show s.extract 0 (Lib.decodeGo s).2::EA (r.length+1) _=_;rw[show r.length+1=(c::r).length from rfl,ih,hd,IW,List.map_cons];congr 1;rw[e];rfl
theorem Lz:∀(fuel:Nat) (s:ByteArray) (pos:Nat),(∀b∈bl s,b.toNat<128)->s.size=pos+fuel->Lib.runeCountFrom s fuel pos=fuel
 |0,_,_,_,_=>rfl
 |f+1,s,pos,h,hs=>by
  have hp:pos<s.size:=by omega
  have hb:(s[pos]'hp).toNat<128:=h _ (by
   have:(bl s)[pos]? = some (s[pos]'hp):=by
    rw[List.getElem?_eq_getElem (by rw[Bp];exact hp)];rfl
   exact List.mem_of_getElem? this)
  rw[Lib.runeCountFrom,if_pos hp,decode_ascii s pos hp hb,Lz f s (pos+1) h (by omega)];omega
theorem Vy (h:∀b∈bl s,b.toNat<128):Lib.runeCount s=s.size:=Lz s.size s 0 h (by omega)
def Cw (s:ByteArray):List ByteArray:=EA (Lib.runeCount s) s
theorem num1 {b:UInt8} (h:48<=b.toNat/\b.toNat<=57):numB 3 (ba [b])=some ((b.toNat:Int)-48):=by
 have h1:AV (bl (ba [b]))=true:=by
  show AV [b]=true;simp[AV,h]
 have hs:(ba [b]).size=1:=rfl;have h2:AB (ba [b]) 3=true:=by unfold AB;rw[h1,hs];rfl
 rw[GC h2 (by rw[hs];intro _;omega)];simp[numL]
theorem YA {l:List UInt8} (h:AV l=true):∀b∈l,48<=b.toNat/\b.toNat<=57:=by
 unfold AV at h;intro b hb;have:=List.all_eq_true.1 h b hb
 simpa using this
theorem SP (hs:0<s.size):Dq 3 (Cw s)=if AV (bl s)=true then some (BB s)else none:=by
 by_cases h:AV (bl s)=true
 ·rw[if_pos h];have hd:=YA h;have ha:∀b∈bl s,b.toNat<128:=fun b hb=>by have:=hd b hb;omega
  have e:Cw s=(bl s).map fun b=>ba [b]:=by
   unfold Cw;rw[Vy ha,<-Bp];exact P1 (bl s) s rfl ha
  rw[e];unfold BB
  generalize bl s=l at hd
  induction l with
  |nil=>rfl
  |cons b r ih=>
   rw[List.map_cons,List.map_cons,Dq,num1 (hd b List.mem_cons_self),ih fun x hx=>hd x (List.mem_cons_of_mem _ hx)]
 rw[if_neg h];cases hn:Dq 3 (Cw s)with
 |none=>rfl
 |some ns=>
  exfalso
  apply h
  obtain⟨k,hk⟩:∃k,Lib.runeCount s=k+1:=⟨Lib.runeCount s-1,by have:=OW hs;omega⟩;have e:=Mv k s;rw[<-hk]at e
  have hall:∀x∈Cw s,AV (bl x)=true:=fun x hx=>by
   cases hx2:numB 3 x with
   |none=>rw[Io hx hx2]at hn;cases hn
   |some n=>
    cases hd:AB x 3 with
    |true=>exact Fv hd
    |false=>rw[Eh (.inl hd)]at hx2;cases hx2
  rw[<-e];unfold AV;rw[List.all_eq_true];intro b hb;obtain⟨x,hx,hbx⟩:=List.mem_flatMap.1 hb;exact List.all_eq_true.1 (hall x hx) b hbx
variable {w0:World} {L:List SA} {l:List Value} {af:Array Edge} {T:TypeId} {by_:Nat} {y:Operand} {l':Value->List Value}
theorem WS.makeStrs {P:Program} {ro:Option Nat} {n0:Nat} {ds:List Deferred} {ops:Array Oper} {Q:Exit->Act->World->Prop} {rest:List Oper} {ty:TypeId} {ps:String}
  {e:TypeId} {x:Operand} {i:Nat} {n:Int} (hT:sl P T=some (e,1,by_)) (hx:evo l x=some (.int .i64 n)) (hy:evo l y=some (.int .i64 n)) (hz:zv P e=some [.string ⟨#[]⟩])
  (h0:0<=n) (hb:(by_:Int)*n<=281474976710656) (hm:n<=9223372036854775807)
   (hl:∀v,lset l i v=some (l' v)) (k:∀v,WS P ro n0 w0 ds ops Q (oT cStr e v (List.replicate n.toNat ⟨#[]⟩)::L) rest (l' v)):
  WS P ro n0 w0 ds ops Q L (⟨some i,.makeSlice T x y,ty,ps,af,none⟩::rest) l:=by
 refine WS.makeSlice (z:=e) hT hx hy hz rfl h0 rfl hb hm hl fun v=>?_;have:=k v;unfold oT A1 at this;rw[List.map_replicate,List.length_replicate]at this;exact this
theorem Vk (s:ByteArray) (w:World) (hs:s.size<=1000000):Calls prog 231 #[.string s] w (RetB w (.int .i64 (Lib.runeCount s))):=by
 refine(Tryz.utf8_RuneCountInString s w (by omega)).mono ?_;rintro e w' ⟨rfl,p,rfl⟩;exact⟨rfl,(Below.refl _ w).alloc (Nat.le_refl _) _⟩
def U8Ok (w:World):Prop:=Lib.Utf8Tabs 6 7 w
variable {w u:World}
theorem U8Ok.ext (h:U8Ok w) (hb:Below w.heap.size w u):U8Ok u:=
 ⟨fun c hc=>Bi hb (Nat.le_refl _) (h.1 c hc),fun i hi=>⟨Bi hb (Nat.le_refl _) (h.2 i hi).1,Bi hb (Nat.le_refl _) (h.2 i hi).2⟩⟩
theorem U8Ok.st (h:U8Ok w) (hu:St w.heap.size w L u):U8Ok u:=h.ext hu.below
theorem W8 (s:ByteArray) (w:World) (hU:U8Ok w):Calls prog 232 #[.string s] w (RetB w (.tuple #[.int .i32 (Lib.decodeGo s).1,.int .i64 (Lib.decodeGo s).2])):=by
 refine(Tryz.utf8_DecodeRuneInString s w hU).mono ?_;rintro e w' ⟨rfl,h⟩;exact⟨rfl,h⟩
theorem QM (h:2<=n):EA n s=s.extract 0 (Lib.decodeGo s).2::EA (n-1) (s.extract (Lib.decodeGo s).2 s.size):=by
 obtain⟨k,rfl⟩:∃k,n=k+2:=⟨n-2,by omega⟩
 rfl
structure ExpI (s0:ByteArray) (n:Nat) (i:Int) (s:ByteArray) (xs:List ByteArray):Prop where
 i0:0<=i
 i1:i+1<=n
 ln:xs.length=n
 sz:s.size<=s0.size
 eq:EA n s0=xs.take i.toNat++EA (n-i.toNat) s
theorem ExpI.start (h:1<=n):ExpI s n 0 s (List.replicate n ⟨#[]⟩):=⟨by omega,by omega,by simp,Nat.le_refl _,by simp⟩
variable {i:Int} {xs:List ByteArray}
theorem ExpI.step {s0:ByteArray} (h:ExpI s0 n i s xs) (hi:i<n-1):ExpI s0 n (i+1) (s.extract (Lib.decodeGo s).2 s.size) (xs.set i.toNat (s.extract 0 (Lib.decodeGo s).2)):=by
 have h0:=h.i0;have hl:=h.ln;refine⟨by omega,by omega,by rw[List.length_set];exact h.ln,Nat.le_trans (by rw[ByteArray.size_extract];omega) h.sz,?_⟩;rw[h.eq,QM (by omega),show(i+1).toNat=i.toNat+1 by omega,List.take_succ_eq_append_getElem (by rw[List.length_set];omega),List.take_set_of_le (Nat.le_refl _),List.getElem_set_self,List.append_assoc]
 rfl
theorem ExpI.fin {s0:ByteArray} (h:ExpI s0 n i s xs) (hi:¬i<n-1):xs.set ((n:Int)-1).toNat s=EA n s0:=by
 have h0:=h.i0;have h1:=h.i1;have hl:=h.ln;have e1:((n:Int)-1).toNat=i.toNat:=by omega
 have e2:n-i.toNat=1:=by omega
 rw[h.eq,e1,e2];show _=xs.take i.toNat++[s];rw[List.set_eq_take_append_cons_drop,if_pos (by omega),List.drop_eq_nil_of_le (by omega)]
theorem TY (s0:ByteArray) (w:World) (hU:U8Ok w) (h0:0<s0.size) (hs:s0.size<=1000000):
  Calls prog 150 #[.string s0,.int .i64 (-1)] w (RetL w (Cw s0)):=by
 have hn1:=OW h0;have hn2:=TP s0;refine En func150 ?_;refine Nz 1 ?_;refine Nx 1 ?_;refine Wk 1 (Cb rfl rfl Jck (fun u hu=>Vk s0 u hs)) ?_;refine Nv 3 ?_;refine We 0 ?_;refine We 0 ?_;refine We 0 ?_;refine Wk 0 Po ?_;refine Wp ?_ ?_<;>intro hc1
 ·refine Ny 2 ?_;refine Nx 1 ?_;refine WS.makeStrs sl23 rfl rfl zv9 (by omega) (by omega) (by omega) (fun _=>rfl) ?_;intro v21;refine Wz 1 ?_;refine Nv 1 ?_;refine Nu ?_;refine CS.loopM (σ:=Int×ByteArray×List ByteArray) (rsL [8,9,22,41]) (fun s=>[(7,.int .i64 s.1),(0,.string s.2.1)]) (fun s=>[oT cStr 9 v21 s.2.2]) (fun s=>ExpI s0 (Lib.runeCount s0) s.1 s.2.1 s.2.2) (fun s=>((Lib.runeCount s0)-s.1).toNat) (0,s0,List.replicate (Lib.runeCount s0) ⟨#[]⟩) (fun _ _=>rfl) rfl rfl (ExpI.start (by omega)) ?_;intro q t hs;have hqi:=hs;refine Cs (Nz 2 ?_);refine Wk 1 Zb ?_;refine Wp ?_ ?_<;>intro hc2
  ·have hdl:=X7 q.2.1;have hqs:=hqi.sz;have hq0:=hqi.i0;have hql:=hqi.ln;refine Ck (Qc (Cs (Ce (Nz 1 ?_))));refine Wk 5 (Cb rfl rfl Jbk (fun u hu=>W8 q.2.1 u (hU.st hu))) ?_;refine Nx 4 ?_;refine Wk 0 (C5 underlying9 rfl rfl (by omega)) ?_;refine Wk 0 (DM (j:=0) sl23 rfl rfl rfl rfl (by omega) (by omega)) ?_;refine WS.storeTc (C:=cStr) 1 0 (q.2.1.extract 0 (Lib.decodeGo q.2.1).2) (j:=0) rfl rfl rfl ⟨by omega,by omega⟩ (by decide) rfl rfl tk9 rfl rfl ?_;refine Nw 2 ?_;refine Wk 1 (DH underlying9 rfl rfl (by omega)) ?_;refine Wd (Qb (Qc (Ny 1 ?_)));refine Wk 1 Za ?_;exact Wd (QS.head ((q.1+1,q.2.1.extract (Lib.decodeGo q.2.1).2 q.2.1.size,q.2.2.set q.1.toNat (q.2.1.extract 0 (Lib.decodeGo q.2.1).2))) rfl rfl ⟨hqi.step hc2,by simp only;omega⟩)
  have hfin:=hqi.fin hc2;have hq0:=hqi.i0;have hql:=hqi.ln;refine Cv (Qe (Qe (Qx (Qc (Cs (Nz 2 ?_))))));refine Wp ?_ ?_<;>intro hc3
  ·refine Ny 2 ?_;refine Wk 1 Zb ?_;refine Wk 0 (DM (j:=0) sl23 rfl rfl rfl rfl (by omega) (by omega)) ?_;refine WS.storeTc (C:=cStr) 1 0 q.2.1 (j:=0) rfl rfl rfl ⟨by omega,by omega⟩ (by decide) rfl rfl tk9 rfl rfl ?_;refine Nx 2 ?_;refine Wd (Qc (Cr ?_))
   exact out1 rfl rfl (by
     rw[show Cw s0=_ from hfin.symm]
     exact fun u hu=>Vm (j:=0) rfl hu)
  exact absurd hc3 (by omega)
 exact absurd hc1 (by simp)
theorem Jel (s0:ByteArray) (w:World) (hU:U8Ok w) (h0:0<s0.size) (hs:s0.size<=1000000):
  Calls prog 71 #[.string s0,.string ⟨#[]⟩,.int .i64 0,.int .i64 (-1)] w (RetL w (Cw s0)):=by
 refine En func71 ?_;refine Nz 1 ?_;refine Nv 2 ?_;refine Wp ?_ ?_<;>intro hc1
 ·exact absurd hc1 (by decide)
 refine Ck (Qc (Cs (Nz 1 ?_)));refine Wk 0 (Ah rfl rfl) ?_;refine Wp ?_ ?_<;>intro hc2
 ·refine Nz 2 ?_;refine Wc rfl rfl Ja9 (fun u hu=>TY s0 u (hU.st hu) h0 hs) (fun _=>rfl) ?_;rintro v18 ⟨u18,hv18⟩;refine Wz 1 ?_;exact Wd (Qc (Cr (Qr (out1 rfl rfl (fun u hu=>Jd2 (j:=0) rfl hu)))))
 exact absurd hc2 (by simp[CI])
theorem Xo (s0:ByteArray) (w:World) (hU:U8Ok w) (h0:0<s0.size) (hs:s0.size<=1000000):
  Calls prog 26 #[.string s0,.string ⟨#[]⟩] w (RetL w (Cw s0)):=by
 refine En func26 ?_;refine Nz 1 ?_;refine Nx 2 ?_;refine Wc rfl rfl Jcx (fun u hu=>Jel s0 u (hU.st hu) h0 hs) (fun _=>rfl) ?_;rintro v7 ⟨u7,hv7⟩;refine Wz 1 ?_;exact Wd (Qc (Cr (out1 rfl rfl (fun u hu=>Jd2 (j:=0) rfl hu))))
def errV (a:Addr):Value:=.iface 375 (.pointer (some a))
def errO (a:Addr) (b:Bool):Value:=if b then .nilIface else errV a
def EOk (w:World) (a:Addr):Prop:=w.cell? ⟨0,0,none⟩=some (errV a)
variable {a:Addr}
theorem EOk.ext (h:EOk w a) (hb:Below w.heap.size w u):EOk u a:=Bi hb (Nat.le_refl _) h
theorem EOk.st (h:EOk w a) (hu:St w.heap.size w L u):EOk u a:=h.ext hu.below
inductive ErrT (a:Addr) (u:World):Value->Prop
 |line:ErrT a u (errV a)
 |join {b:Nat} {s:Sl Value} (h1:u.cell? ⟨b,0,none⟩=some s.v) (h2:SlC u s.v s.l.length 1 s.l) (h3:∀x∈s.l,ErrT a u x):ErrT a u (.iface 149 (.pointer (some ⟨b,0,none⟩)))
variable {v:Value}
theorem ErrT.ext (h:ErrT a w v) (hb:Below w.heap.size w u):ErrT a u v:=by
 induction h with
 |line=>exact .line
 |join h1 h2 h3 ih=>exact .join (Bi hb (Nat.le_refl _) h1) (h2.ext hb) ih
theorem ErrT.ne (h:ErrT a u v):∃T p,v = .iface T (.pointer (some p)):=by cases h<;>exact⟨_,_,rfl⟩
def ErrX (a:Addr) (u:World) (v:Value):Prop:=v = .nilIface\/ErrT a u v
theorem ErrX.ext (h:ErrX a w v) (hb:Below w.heap.size w u):ErrX a u v:=h.imp id fun h=>h.ext hb
theorem ErrX.o (b:Bool):ErrX a u (errO a b):=by cases b;exact .inr .line;exact .inl rfl
theorem ErrX.one (h:ErrX a u v):v.oneCell'=true:=by
 rcases h with rfl|h
 ·rfl
 obtain⟨T,p,rfl⟩:=h.ne;rfl
def noE:Value->Bool
 | .nilIface=>true
 |_=>false
theorem U9 (a:Addr) (b:Bool):noE (errO a b)=b:=by cases b<;>rfl
theorem ErrX.t (h:ErrX a u v) (hn:noE v=false):ErrT a u v:=by
 rcases h with rfl|h
 ·cases hn
 exact h
def cErr (a:Addr):Cel Value:=⟨1,fun v=>[v],fun u v=>ErrX a u v,fun _=>rfl,fun _ _ _ h hb=>h.ext hb,fun _ _ h v hv=>by rw[List.mem_singleton]at hv;subst hv;exact h.one⟩
theorem O1 (a:Addr) (l:List Value):A1 (cErr a) l=l:=by
 unfold A1
 induction l with
 |nil=>rfl
 |cons x r ih=>rw[List.map_cons,List.flatten_cons,ih];rfl
variable {T':TypeId}
variable {recv:Operand} {name:String} {fn:FuncId} {ts:Array TypeId}
section
variable {P:Program} {ro:Option Nat} {n0:Nat} {w0:World} {ds:List Deferred} {ops:Array Oper} {Q:Exit->Act->World->Prop} {L:List SA} {rest:List Oper} {l:List Value} {d:Option Tmp} {ty:TypeId} {ps:String} {af:Array Edge} {g:Option (Nat×Bool)} {C:World->Prop}
theorem IR {x:Operand} (hT:P.underlying T=some (.interface (P.methodsAt T))) (hx:evo l x=some v) (hv:v = .nilIface\/∃t y,v = .iface t y):Det P C ⟨d,.binOp .eql T x (.const .nilIface) T',ty,ps,af,g⟩ l (.bool (noE v)):=fun u _=>by
 replace hx:=Am hx;have hy:ev l (.const .nilIface) = .nilIface:=rfl;rcases hv with rfl|⟨t,y,rfl⟩
 ·have h:=run_equal_nil_nil u T hT;simp[execOp,Ap,hx,hy,eqGuard,binOp,h,noE]
 have h:∀d:Nat,(Op.equalIn (d+1) T (.iface t y) .nilIface).run P u = .ok false u:=fun d=>by simp[Op.equalIn,run_underlying hT]
 simp[execOp,Ap,hx,hy,eqGuard,binOp,Op.equal,Op.maxDepth,h 9999,noE]
theorem Er {x:Operand} (hT:P.underlying T=some (.interface (P.methodsAt T))) (hx:evo l x=some v) (hv:v = .nilIface\/∃t y,v = .iface t y):Det P C ⟨d,.binOp .neq T x (.const .nilIface) T',ty,ps,af,g⟩ l (.bool (!noE v)):=fun u _=>by
 replace hx:=Am hx;have hy:ev l (.const .nilIface) = .nilIface:=rfl;rcases hv with rfl|⟨t,y,rfl⟩
 ·have h:=run_equal_nil_nil u T hT;simp[execOp,Ap,hx,hy,eqGuard,binOp,h,noE]
 have h:∀d:Nat,(Op.equalIn (d+1) T (.iface t y) .nilIface).run P u = .ok false u:=fun d=>by simp[Op.equalIn,run_underlying hT]
 simp[execOp,Ap,hx,hy,eqGuard,binOp,Op.equal,Op.maxDepth,h 9999,noE]
theorem GA {I:TypeId} {x:Operand} {r:Value} (hx:evo l x=some v) (h:∀w,(Instr.typeAssert v T I true).run P w = .ok r w):Det P C ⟨d,.typeAssert x T I true,ty,ps,af,g⟩ l r:=fun u _=>by
 replace hx:=Am hx;simp[execOp,Ap,hx,h u]
theorem N9 {te:TypeId} {x:Operand} (hT:P.underlying T=some (.pointer te)) (hx:evo l x=some v):Det P C ⟨d,.makeInterface T x,ty,ps,af,g⟩ l (.iface T v):=fun u _=>by
 replace hx:=Am hx;simp[execOp,Ap,hx,Instr.makeInterface,run_underlying hT]
theorem PV {x:Operand} {t1 t2:TypeId} {v1 v2:Value} {b:Bool} (hx:evo l x=some (.iface t1 v1)) (hy:evo l y=some (.iface t2 v2)) (h:∀w,(binOp .eql T (.iface t1 v1) (.iface t2 v2)).run P w = .ok (.bool b) w):
  Det P C ⟨d,.binOp .eql T x y T',ty,ps,af,g⟩ l (.bool b):=fun u _=>by
 (replace hx:=Am hx;replace hy:=Am hy)
 simp[execOp,Ap,hx,hy,eqGuard,h u]
theorem RI {x x':Value} (hr:evo l recv=some (.iface T x)) (hm:∀w,(method (P.types.size+Made.depth) T x name).run P w = .ok (fn,x') w) (he:Ent P fn)
  (hc:∀u,C u->Calls P fn #[x'] u (RetB u v)):Det P C ⟨d,.call ⟨.invoke recv name,#[],ts⟩,ty,ps,af,g⟩ l v:=fun u hu=>by
 replace hr:=Am hr;have h1:∀(args:Array Value) (w:World),Sem.run P (callFunc fn args) w = .ok (.enter fn args) w:=he;have h2:=hm u;simp[execOp,Ap,hr,resolve,invoke,callMethod,h2,h1];have:=hc u hu
 simpa using this
theorem WS.makeCap {e:TypeId} {x:Operand} {i:Nat} {c:Int} {v0:Value} (hT:sl P T=some (e,1,by_)) (hx:evo l x=some (.int .i64 0)) (hy:evo l y=some (.int .i64 c)) (hz:zv P e=some [v0])
  (h0:0<=c) (hb:(by_:Int)*c<=281474976710656) (hm:c<=9223372036854775807)
   (hl:∀v,lset l i v=some (l' v)) (k:∀v,WS P ro n0 w0 ds ops Q (osl e 1 v 0 []::L) rest (l' v)):
  WS P ro n0 w0 ds ops Q L (⟨some i,.makeSlice T x y,ty,ps,af,none⟩::rest) l:=by
 (replace hx:=Am hx;replace hy:=Am hy)
 refine WS.world rfl rfl fun u hu=>?_;obtain⟨inf,hu1,hi,hs,hby⟩:=BX hT;unfold zv at hz;rw[hi]at hz;cases hz2:inf.zero with
 |none=>simp[hz2]at hz
 |some zz=>
  simp[hz2]at hz;have hr:=run_make (P:=P) u T e inf zz hu1 hi hz2 .i64 .i64 0 c (Int.le_refl _) h0 (by rw[hby];exact hb) hm;refine⟨_,_,by simp[execOp,hx,hy,hr];exact⟨rfl,rfl⟩,?_⟩;rw[AL,Aq (hl _)]
  have hcells:madeCells zz.cells (c.toNat*inf.size)=((List.replicate c.toNat [v0]).flatten).toArray:=by
   unfold madeCells;rw[hs];have h2:=Ym c.toNat 1 [v0] rfl;rw[<-hz]at h2⊢
   simpa using h2
  have hlen:((List.replicate c.toNat [v0]).flatten).length=c.toNat*1:=by simp[List.length_flatten]
  refine k (.slice (some ⟨u.heap.size,0,none⟩) 0 c.toNat) _ (hu.cons (T:=fun k=>k=u.heap.size) ((Below.refl _ u).alloc (Nat.le_refl _) _) ⟨?_,rfl,.inr ⟨u.heap.size,c.toNat,_,rfl,Nat.zero_le _,World.alloc_heap_new u _,Nat.zero_le _,?_,?_,?_⟩⟩ (fun k hk=>by omega))
  ·intro k;simp[Value.ownBlock];exact eq_comm
  ·simp only[maxLen];omega
  ·rw[hcells];simp[List.length_flatten]
  simp
end
def ZV (a:Addr) (w:World) (l:List Value):Ending->World->Prop:=fun e w'=>∃x:Value,(noE x=l.all noE/\(x = .nilIface\/∃t y,x = .iface t y))/\RetF w x (roS fun u=>(∀y∈l,ErrX a u y)->ErrX a u x) e w'
theorem NT (h:ErrX a u v):v = .nilIface\/∃t y,v = .iface t y:=h.imp id fun h=>let⟨t,p,e⟩:=h.ne;⟨t,_,e⟩
def errs (l:List Value):List Value:=l.filter fun v=>!noE v
theorem Li (h0:0<=i) (h1:i<l.length):errs (l.take (i+1).toNat)=errs (l.take i.toNat)++(if noE (nth l i)=true then[]else[nth l i]):=by
 unfold errs;rw[AG l h0 h1,List.filter_append]
 by_cases h:noE (nth l i)=true
 ·rw[if_pos h,List.filter_cons_of_neg (by simp[h])];rfl
 rw[if_neg h,List.filter_cons_of_pos (by simpa using h)];rfl
theorem TT (h0:0<=i) (h1:i<l.length) (h:noE (nth l i)=true):errs (l.take (i+1).toNat)=errs (l.take i.toNat):=by rw[Li h0 h1,if_pos h,List.append_nil]
theorem Pb (h0:0<=i) (h1:i<l.length) (h:noE (nth l i)=false):errs (l.take (i+1).toNat)=errs (l.take i.toNat)++[nth l i]:=by rw[Li h0 h1,if_neg (by rw[h];decide)]
theorem MM (l:List Value):(errs l).length<=l.length:=List.length_filter_le _ _
theorem PZ:((errs l).length:Int)=0↔l.all noE=true:=by
 unfold errs;rw[show(((l.filter fun v=>!noE v).length:Int)=0)↔(l.filter fun v=>!noE v).length=0 by omega,List.length_eq_zero_iff,List.filter_eq_nil_iff,List.all_eq_true];simp
theorem Jfd (h:l.all noE=true) (hu:St w0.heap.size w0 L u):ZV a w0 l (.returned .nilIface) u:=⟨.nilIface,⟨h.symm,.inl rfl⟩,retR (p:=fun u=>(∀y∈l,ErrX a u y)->ErrX a u .nilIface) (fun _ _ _ _=>.inl rfl) u hu⟩
theorem Jda {b i j:Nat} {e e':TypeId} (h:l.all noE=false) (hi:L[i]? = some (blk b [v] e)) (hj:L[j]? = some (oT (cErr a) e' v (errs l))) (hu:St w0.heap.size w0 L u):
  ZV a w0 l (.returned (.iface 149 (.pointer (some ⟨b,0,none⟩)))) u:=by
 refine⟨.iface 149 (.pointer (some ⟨b,0,none⟩)),⟨h.symm,.inr ⟨_,_,rfl⟩⟩,retR (p:=fun u=>(∀y∈l,ErrX a u y)->ErrX a u _) (fun S u hs hl=>.inr (.join (s:=⟨v,errs l⟩) ?_ ?_ fun x hx=>?_)) u hu⟩
 ·obtain⟨T,_,h⟩:=hs.get hi;rw[BT h.2];rfl
 ·have h:=Star.osl hj hs;rw[O1]at h;exact h
 obtain⟨h1,h2⟩:=List.mem_filter.1 hx;exact(hl x h1).t (by simpa using h2)
variable {zc:List Value}
section
variable {P:Program} {ro:Option Nat} {n0:Nat} {w0:World} {ds:List Deferred} {ops:Array Oper} {Q:Exit->Act->World->Prop} {L:List SA} {rest:List Oper} {l:List Value} {ty:TypeId} {ps:String} {af:Array Edge}
theorem WS.buildE (a:Addr) {e:TypeId} {i:Nat} {x:Operand} {b:Value} (hT:sl P T=some (e,1,by_)) (hz:zv P e=some zc) (hx:evo l x=some b) (hb:b = .nilIface\/∃t y,b = .iface t y)
   (hl:∀v,lset l i v=some (l' v)) (kk:∀v,WS P ro n0 w0 ds ops Q (oT (cErr a) e v [b]::L) rest (l' v)):
  WS P ro n0 w0 ds ops Q L (⟨some i,.buildSlice T 1 #[(0,x)],ty,ps,af,none⟩::rest) l:=
 WS.buildSlice1 (pl:=[(0,x)]) (vs:=[b]) hT hz (by simp[Am hx]) rfl (by decide) (fun v hv=>by simp at hv;subst hv;rcases hb with rfl|⟨t,y,rfl⟩<;>rfl) hl kk
theorem WS.buildE2 (a:Addr) {e:TypeId} {i:Nat} {x:Operand} {b c:Value} (hT:sl P T=some (e,1,by_)) (hz:zv P e=some zc) (hx:evo l x=some b) (hy:evo l y=some c) (hb:b = .nilIface\/∃t y,b = .iface t y) (hc:c = .nilIface\/∃t y,c = .iface t y)
   (hl:∀v,lset l i v=some (l' v)) (kk:∀v,WS P ro n0 w0 ds ops Q (oT (cErr a) e v [b,c]::L) rest (l' v)):
  WS P ro n0 w0 ds ops Q L (⟨some i,.buildSlice T 2 #[(0,x),(1,y)],ty,ps,af,none⟩::rest) l:=
 WS.buildSlice1 (pl:=[(0,x),(1,y)]) (vs:=[b,c]) hT hz (by simp[Am hx,Am hy,List.zipIdx]) rfl (by decide) (fun v hv=>by simp at hv;rcases hv with rfl|rfl;(rcases hb with rfl|⟨t,y,rfl⟩<;>rfl);(rcases hc with rfl|⟨t,y,rfl⟩<;>rfl)) hl kk
end
theorem Le (a:Addr) (s0:Sl Value) (w:World) (hk:SlT (cErr a) w s0) (hn:s0.l.length<=1000):
  Calls prog 30 #[s0.v] w (ZV a w s0.l):=by
 have hke:=hk.2;refine En func30 ?_;refine Nz 1 ?_;refine Nx 1 ?_;refine Nv 1 ?_;refine Wk 1 (Nc (s:=s0)) ?_;refine Nu ?_;refine CS.loopM (σ:=Int×Int) (rsL [5,5,12,19]) (fun s=>[(11,.int .i64 s.1),(3,.int .i64 s.2)]) (fun _=>_) (fun s=>0<=s.1/\s.1<=s0.l.length/\s.2=(errs (s0.l.take s.1.toNat)).length) (fun s=>(s0.l.length-s.1).toNat) (0,0) (fun _ _=>rfl) rfl rfl ⟨by simp,by simp,rfl⟩ ?_;intro q t hs;obtain⟨hq1,hq2,hq3⟩:=hs;have hqz:=MM (s0.l.take q.1.toNat);rw[List.length_take]at hqz;refine Nz 1 ?_;refine Wd (Qc (Cs (Cn ?_ ?_)))<;>intro hc1
 ·refine Ck (Qc (Cs (Ce (Nz 0 ?_))));refine Wk 0 (Xc (s:=s0)) ?_;refine Wk 1 (HC rfl hk rfl ⟨by omega,by omega⟩ rfl tk71) ?_;refine Nx 1 ?_;refine Wk 0 (Er (by kernel_rfl) rfl (NT (hke _ (Ai hq1 (by omega))))) ?_;refine Wp ?_ ?_<;>intro hc2
  ·have hy2:=Pb hq1 (show q.1<s0.l.length by omega) (by simpa using hc2);refine Ny 1 ?_;refine Wk 1 Za ?_;refine Wd (Qb (Qc (Ny 0 ?_)));refine Wk 1 Za ?_;exact Wd (QS.head ((q.1+1,q.2+1)) rfl rfl ⟨⟨by simp only;omega,by simp only;omega,by simp only;rw[hy2,hq3,List.length_append];rfl⟩,by simp only;omega⟩)
  have hy2:=TT hq1 (show q.1<s0.l.length by omega) (by simpa using hc2);refine Ck (Qb (Qc (Ny 0 ?_)));refine Wk 1 Za ?_;exact Wd (QS.head ((q.1+1,q.2)) rfl rfl ⟨⟨by simp only;omega,by simp only;omega,by simp only;rw[hy2,hq3]⟩,by simp only;omega⟩)
 have hta:s0.l.take q.1.toNat=s0.l:=List.take_of_length_le (by omega);rw[hta]at hq3;have hle:=MM s0.l;refine Cv (Qe (Qe (Qx (Qc (Cs (Nz 2 ?_))))));refine Wp ?_ ?_<;>intro hc3
 ·have hal:s0.l.all noE=true:=PZ.1 (by omega);refine Nz 1 ?_;exact Wd (Qc (Cr (Qr (out1 rfl rfl (fun u hu=>Jfd hal hu)))))
 have hal:s0.l.all noE=false:=by
  cases h:s0.l.all noE with
  |false=>rfl
  |true=>have:=PZ.2 h;omega
 refine Ck (Qc (Nz 1 ?_));refine WS.makeCap Me rfl rfl zv71 (by omega) (by omega) (by omega) (fun _=>rfl) ?_;intro v23;refine WS.oc (j:=0) rfl (fun hv23=>?_);refine Wk 0 (AF Jfa Jh5 (pcs:=[(0,[v23])]) rfl (CellsOf.one hv23 CellsOf.nil) rfl) ?_;refine Wr 1 fun b25 hb25=>?_;refine Nv 1 ?_;refine Wk 1 (Nc (s:=s0)) ?_;refine Nu ?_;refine CS.loopM (σ:=Int×Value) (rsL [8,8,29,44]) (fun s=>[(28,.int .i64 s.1)]) (fun s=>[blk b25 [s.2] 151,oT (cErr a) 71 s.2 (errs (s0.l.take s.1.toNat))]) (fun s=>0<=s.1/\s.1<=s0.l.length) (fun s=>(s0.l.length-s.1).toNat) (0,v23) (fun _ _=>rfl) rfl rfl ⟨by simp,by simp⟩ ?_;intro r t hs;obtain⟨hr1,hr2⟩:=hs;refine Nz 1 ?_;refine Wd (Qc (Cs (Cn ?_ ?_)))<;>intro hc4
 ·refine Ck (Qc (Cs (Ce (Nz 0 ?_))));refine Wk 0 (Xc (s:=s0)) ?_;refine Wk 1 (HC rfl hk rfl ⟨by omega,by omega⟩ rfl tk71) ?_;refine Nx 1 ?_;refine Wk 0 (Er (by kernel_rfl) rfl (NT (hke _ (Ai hr1 (by omega))))) ?_;refine Wp ?_ ?_<;>intro hc5
  ·have hz2:=Pb hr1 (show r.1<s0.l.length by omega) (by simpa using hc5);have hzl:=MM (s0.l.take r.1.toNat);rw[List.length_take]at hzl;refine Ny 4 ?_;refine Wk 1 (Ba 0) ?_;refine WS.buildE a (b:=nth s0.l r.1) Me zv71 rfl (NT (hke _ (Ai hr1 (by omega)))) (fun _=>rfl) ?_;intro v40;refine WS.appendT1 (C:=cErr a) (a:=nth s0.l r.1) (j:=2) (jz:=0) Me zv71 rfl Nat.zero_lt_one rfl rfl rfl rfl (w:=w) (hke _ (Ai hr1 (by omega))) (by omega) (by omega) (fun _=>rfl) (fun _=>rfl) ?_;intro v41 hv41;refine Wz 2 ?_;refine Ws 0 1 ?_;refine Wd (Qb (Qc (Ny 0 ?_)));refine Wk 1 Za ?_;refine Wd ?_;refine QS.sel [1,1] rfl ?_;exact QS.head ((r.1+1,v41)) rfl (by simp only[hz2]) ⟨⟨by simp only;omega,by simp only;omega⟩,by simp only;omega⟩
  have hz2:=TT hr1 (show r.1<s0.l.length by omega) (by simpa using hc5);refine Ck (Qb (Qc (Ny 0 ?_)));refine Wk 1 Za ?_;exact Wd (QS.head ((r.1+1,r.2)) rfl (by simp only[hz2]) ⟨⟨by simp only;omega,by simp only;omega⟩,by simp only;omega⟩)
 have htb:s0.l.take r.1.toNat=s0.l:=List.take_of_length_le (by omega);refine Cv (Qe (Qe (Qx (Qc (Nz 1 ?_)))));refine Wk 1 (N9 underlying149 rfl) ?_;refine Wd (Qc (Cr ?_));rw[htb];exact out1 rfl rfl (fun u hu=>Jda hal (i:=0) (j:=1) rfl rfl hu)
def IsR (w:World):Ending->World->Prop:=fun e w'=>∃b:Bool,True/\RetF w (.bool b) (roS fun _=>True) e w'
theorem isR (b:Bool) (hu:St w0.heap.size w0 L u):IsR w0 (.returned (.bool b)) u:=⟨b,trivial,retR (p:=fun _=>True) (fun _ _ _=>trivial) u hu⟩
theorem Jai (a:Addr) (w:World):(binOp .eql 71 (errV a) (errV a)).run prog w = .ok (.bool true) w:=by
 obtain⟨i,hi,hc⟩:=Option.map_eq_some_iff.1 (show(prog.info? 375).map (·.comparable)=some true by kernel_rfl);obtain⟨j,hj,_⟩:=Option.map_eq_some_iff.1 (show(prog.info? 377).map (·.size)=some 1 by kernel_rfl);exact run_eql_iface_ptr_same (P:=prog) w a underlying71 underlying375 hi hc hj
theorem YG (x:Value) (a:Addr) (w:World):(binOp .eql 71 (.iface 149 x) (errV a)).run prog w = .ok (.bool false) w:=run_eql_iface_types (P:=prog) 149 375 x _ underlying71 (by decide) w
theorem Jia (v:Value) (w:World):(Instr.typeAssert (.iface 149 v) 71 252 true).run prog w = .ok (.tuple #[.nilIface,.bool false]) w:=run_typeAssert_lacksB underlying252 (by kernel_rfl) (by kernel_rfl) v _ w
theorem Jhc (v:Value) (w:World):(Instr.typeAssert (.iface 149 v) 71 255 true).run prog w = .ok (.tuple #[.nilIface,.bool false]) w:=run_typeAssert_lacksB underlying255 (by kernel_rfl) (by kernel_rfl) v _ w
theorem usJ (v:Value) (w:World):(Instr.typeAssert (.iface 149 v) 71 257 true).run prog w = .ok (.tuple #[.iface 149 v,.bool true]) w:=run_typeAssert_hasB underlying257 (by kernel_rfl) v _ w
theorem Jbp (v:Value) (w:World):(method (prog.types.size+Made.depth) 149 v "Unwrap").run prog w = .ok (365,v) w:=by kernel_rfl
theorem Vt (b:Nat) (v:Value) (w:World) (h1:w.cell? ⟨b,0,none⟩=some v):
  Calls prog 365 #[.pointer (some ⟨b,0,none⟩)] w (RetB w v):=by
 refine En func365 ?_;refine Nz 1 ?_;refine Nx 3 ?_;refine Wk 1 (AX Jhs rfl (fun u hu=>Bi hu.below (Nat.le_refl _) h1)) ?_;exact Wd (Qc (Cr (out1 rfl rfl (retB))))
theorem Xp (a:Addr) (w:World):
  Calls prog 87 #[errV a,errV a,.bool true] w (IsR w):=by
 refine En func87 ?_;refine Nz 1 ?_;refine Nu ?_;refine CS.loopM (σ:=Unit) (rsL [6,10,12,53]) (fun s=>[(0,errV a)]) (fun _=>_) (fun s=>True) (fun s=>0) () (fun _ _=>rfl) rfl rfl trivial ?_;intro o t hs;refine Ce (Cs (Nz 2 ?_));refine Wj 0 ?_;refine Wj 0 ?_;refine Wt 0 rfl rfl (fun hg=>PV (eg_ hg rfl) (eg_ hg rfl) (Jai a)) ?_;refine Wk 0 Pa ?_;refine Wp ?_ ?_<;>intro hc1
 ·refine Nz 1 ?_;exact Wd (Qc (Cr (Qr (Qs (Qr (Qs (out1 rfl rfl (fun u hu=>isR _ hu))))))))
 exact absurd hc1 (by simp)
theorem VC (a:Addr) (b:Nat) (s0:Sl Value) (w:World) (h1:w.cell? ⟨b,0,none⟩=some s0.v) (hk:SlT (cErr a) w s0) (ih:∀x∈s0.l,∀u,Below w.heap.size w u->Calls prog 87 #[x,errV a,.bool true] u (IsR u)):
  Calls prog 87 #[.iface 149 (.pointer (some ⟨b,0,none⟩)),errV a,.bool true] w (IsR w):=by
 have hle:=hk.le;refine En func87 ?_;refine Nz 1 ?_;refine Nu ?_;refine CS.loopM (σ:=Unit) (rsL [6,10,12,53]) (fun s=>[(0,.iface 149 (.pointer (some ⟨b,0,none⟩)))]) (fun _=>_) (fun s=>True) (fun s=>0) () (fun _ _=>rfl) rfl rfl trivial ?_;intro o t hs;refine Ce (Cs (Nz 2 ?_));refine Wj 0 ?_;refine Wj 0 ?_;refine Wt 0 rfl rfl (fun hg=>PV (eg_ hg rfl) (eg_ hg rfl) (YG _ a)) ?_;refine Wk 0 Pa ?_;refine Wp ?_ ?_<;>intro hc1
 ·refine Nz 1 ?_;exact Wd (Qc (Cr (Qr (Qs (Qr (Qs (out1 rfl rfl (fun u hu=>isR _ hu))))))))
 refine Ck (Qc (Cs (Nz 1 ?_)));refine Wk 5 (GA rfl (Jia _)) ?_;refine Nx 2 ?_;refine Wj 0 ?_;refine Wj 0 ?_;refine Wt 0 rfl rfl (fun hg=>Fz_ (by cases hg)) ?_;refine Wk 0 Pa ?_;refine Wp ?_ ?_<;>intro hc2
 ·refine Nz 1 ?_;exact Wd (Qc (Cr (Qr (Qs (Qr (Qs (out1 rfl rfl (fun u hu=>isR _ hu))))))))
 refine Ck (Qc (Nz 1 ?_));refine Wd (Qc (Ce (Nz 0 ?_)));refine Wk 2 (GA rfl (Jhc _)) ?_;refine Wp ?_ ?_<;>intro hc3
 ·exact absurd hc3 (by simp)
 refine Nz 0 ?_;refine Wk 2 (GA rfl (usJ _)) ?_;refine Wp ?_ ?_<;>intro hc4
 ·refine Nz 1 ?_;refine Nv 1 ?_;refine Wk 0 (RI rfl (Jbp _) Jeu (fun u hu=>Vt b s0.v u (Bi hu.below (Nat.le_refl _) h1))) ?_;refine Wk 1 (Nc (s:=s0)) ?_;refine Nu ?_;refine CS.loopM (σ:=Int) (rsL [6,6,12,12,46,53]) (fun s=>[(45,.int .i64 s)]) (fun _=>_) (fun s=>0<=s/\s<=s0.l.length) (fun s=>(s0.l.length-s).toNat) 0 (fun _ _=>rfl) rfl rfl ⟨by omega,by omega⟩ ?_;intro q t hs;obtain⟨hq1,hq2⟩:=hs;refine Nz 1 ?_;refine Wd (Qc (Cs (Cn ?_ ?_)))<;>intro hc5
  ·refine Ck (Qc (Cs (Ce (Nz 0 ?_))));refine Wk 0 (Xc (s:=s0)) ?_;refine Wk 1 (HC rfl hk rfl ⟨by omega,by omega⟩ rfl tk71) ?_;refine Nx 3 ?_;refine Wc rfl rfl Jbw (fun u hu=>ih _ (Ai hq1 (by omega)) u hu.below) (fun _=>rfl) ?_;rintro z _;refine Wp ?_ ?_<;>intro hc6
   ·refine Nz 1 ?_;exact Wd (Qc (Cr (Qs (Qr (Qr (Qs (Qr (Qs (Qs (Qr (Qs (out1 rfl rfl (fun u hu=>isR _ hu)))))))))))))
   refine Ck (Qb (Qc (Ny 0 ?_)));refine Wk 1 Za ?_;refine Wd ?_;refine QS.sel [] rfl ?_;exact QS.head (q+1) rfl rfl ⟨⟨by omega,by omega⟩,by omega⟩
  refine Cv (Qe (Qe (Qx (Qc (Nz 1 ?_)))));exact Wd (Qc (Cr (Qs (Qs (Qr (Qs (out1 rfl rfl (fun u hu=>isR _ hu))))))))
 refine Nz 1 ?_;refine Nx 1 ?_;exact Wd (Qc (Cr (Qs (Qs (Qr (Qs (out1 rfl rfl (fun u hu=>isR _ hu))))))))
theorem Jid (a:Addr) (hv:ErrT a w v):∀u,Below w.heap.size w u->Calls prog 87 #[v,errV a,.bool true] u (IsR u):=by
 induction hv with
 |line=>exact fun u _=>Xp a u
 | @join b s h1 h2 h3 ih=>exact fun u hb=>VC a b s u (Bi hb (Nat.le_refl _) h1) ⟨by rw[O1];exact h2.ext hb,fun x hx=>.inr ((h3 x hx).ext hb)⟩ fun x hx u2 hb2=>ih x hx u2 (AQ hb hb2)
section
variable {P:Program} {l:List Value} {d:Option Tmp} {ty:TypeId} {ps:String} {af:Array Edge} {g:Option (Nat×Bool)} {C:World->Prop}
theorem Tu {f:Operand} {args:List Operand} {vs:List Value} {r:Value} (h:∀w,(callFunc fn vs.toArray).run P w = .ok (.value r) w) (hf:evo l f=some (.func (.func fn) #[] #[])) (hv:evs l args=some vs):
  Det P C ⟨d,.call ⟨.value f,args.toArray,ts⟩,ty,ps,af,g⟩ l r:=fun u hu=>by
 (replace hf:=Am hf;replace hv:=Fi hv)
 subst hv;have h1:=h u;simp[execOp,Ap,hf,resolve,invoke,Deferred.ofValue,h1]
theorem QT {x x' r:Value} (hr:evo l recv=some (.iface T x)) (hm:∀w,(method (P.types.size+Made.depth) T x name).run P w = .ok (fn,x') w) (h:∀w,(callFunc fn #[x']).run P w = .ok (.value r) w):
  Det P C ⟨d,.call ⟨.invoke recv name,#[],ts⟩,ty,ps,af,g⟩ l r:=fun u hu=>by
 replace hr:=Am hr;have h1:=h u;have h2:=hm u;simp[execOp,Ap,hr,resolve,invoke,callMethod,h2,h1]
end
def rtT:Value:=.agg #[.pointer (some ⟨12,375,none⟩)]
theorem V3 (v:Value) (w:World):(callFunc 86 #[.iface 375 v]).run prog w = .ok (.value (.iface 250 rtT)) w:=by kernel_rfl
theorem Jgk (w:World):(method (prog.types.size+Made.depth) 250 rtT "Comparable").run prog w = .ok (369,rtT) w:=by kernel_rfl
theorem Jei (w:World):(callFunc 369 #[rtT]).run prog w = .ok (.value (.bool true)) w:=by kernel_rfl
theorem ZH (a:Addr) (w:World):(binOp .eql 71 .nilIface (errV a)).run prog w = .ok (.bool false) w:=run_eql_iface_nil_left (P:=prog) w 375 _ underlying71
theorem WR {d:Option Tmp} {ty:TypeId} {ps:String} {g:Option (Nat×Bool)} {C:World->Prop} {x:Operand} (hx:evo l x=some .nilIface) (hy:evo l y=some (errV a)):
  Det prog C ⟨d,.binOp .eql 71 x y T',ty,ps,af,g⟩ l (.bool false):=fun u _=>by
 (replace hx:=Am hx;replace hy:=Am hy)
 have h:=ZH a u;unfold errV at hy h;simp[execOp,Ap,hx,hy,eqGuard,h]
theorem Jgw (a:Addr) (w:World):
  Calls prog 31 #[.nilIface,errV a] w (RetB w (.bool false)):=by
 refine En func31 ?_;refine Nz 1 ?_;refine Nv 1 ?_;refine Wk 1 (IR (by kernel_rfl) rfl (.inl rfl)) ?_;refine We 0 ?_;refine Wf 0 rfl rfl (fun hg=>Fz_ (by simp[noE]at hg)) ?_;refine Wk 0 Po ?_;refine Wp ?_ ?_<;>intro hc1
 ·refine Nz 2 ?_;refine Wk 1 (WR rfl rfl) ?_;exact Wd (Qc (Cr (Qr (out1 rfl rfl (retB)))))
 exact absurd hc1 (by simp[noE])
theorem Jgz (a:Addr) (v:Value) (w:World) (hv:ErrT a w v):
  Calls prog 31 #[v,errV a] w (IsR w):=by
 obtain⟨tv,pv,rfl⟩:=hv.ne;refine En func31 ?_;refine Nz 1 ?_;refine Nv 1 ?_;refine Wk 1 (IR (by kernel_rfl) rfl (.inr ⟨_,_,rfl⟩)) ?_;refine We 0 ?_;refine Wf 0 rfl rfl (fun hg=>IR (by kernel_rfl) (eg_ hg rfl) (.inr ⟨_,_,rfl⟩)) ?_;refine Wk 0 Po ?_;refine Wp ?_ ?_<;>intro hc1
 ·exact absurd hc1 (by simp[noE,errV])
 refine Ck (Qc (Nz 1 ?_));refine Wk 0 (Tu (fun w=>V3 _ w) rfl rfl) ?_;refine Wk 1 (QT rfl Jgk Jei) ?_;refine Nx 3 ?_;refine Wc rfl rfl Jbw (fun u hu=>Jid a hv u hu.below) (fun _=>rfl) ?_;rintro z _;refine Wz 1 ?_;exact Wd (Qc (Cr (out1 rfl rfl (fun u hu=>isR _ hu))))
theorem ErrT.noE (h:ErrT a u v):noE v=false:=by obtain⟨t,p,rfl⟩:=h.ne;rfl
theorem Jg2 (a:Addr) (v:Value) (w:World) (hv:ErrX a w v):Calls prog 31 #[v,errV a] w (fun e w'=>∃b:Bool,(b=true->noE v=false)/\RetF w (.bool b) (roS fun _=>True) e w'):=by
 rcases hv with rfl|hv
 ·refine(Jgw a w).mono ?_;rintro e w' ⟨rfl,h⟩;exact⟨false,fun h=>(by cases h),retR (L:=[]) (p:=fun _=>True) (fun _ _ _=>trivial) w' ⟨Nat.le_refl _,h,trivial⟩⟩
 refine(Jgz a v w hv).mono ?_;rintro e w' ⟨b,_,h⟩;exact⟨b,fun _=>hv.noE,h⟩
theorem SE (a:Addr) (t0:ByteArray) (w:World) (hE:EOk w a) (ht:(t0.size:Int)<=1000000):
  Calls prog 84 #[.string t0] w (RetB w (.tuple #[.int .i64 ((numB 3 t0).getD 0),errO a (numB 3 t0).isSome])):=by
 refine En func84 ?_;refine Nz 2 ?_;refine Nv 1 ?_;refine Wk 0 (Al underlying9 rfl) ?_;refine Wk 2 (Cb rfl rfl Hm (fun u hu=>BF _ _ _ u)) ?_;refine We 0 ?_;refine Wf 0 rfl rfl (fun hg=>Cb rfl (ec_ (eg_ hg rfl) (ec_ rfl en_)) UM (fun u hu=>Uh t0 u (by omega))) ?_;refine Wf 0 rfl rfl (fun hg=>A3 (eg_ hg rfl) rfl) ?_;refine Wk 1 Po ?_;refine We 0 ?_;refine Wf 0 rfl rfl (fun hg=>An underlying9 (eg_ hg rfl) rfl (by decide) (by simp at hg;omega)) ?_;refine We 0 ?_;refine Wf 0 rfl rfl (fun hg=>Fm (eg_ hg rfl)) ?_;refine Wn 0 rfl rfl rfl (fun hg=>Fm) ?_;refine Wn 0 rfl rfl rfl (fun hg=>A3 (eg_ hg rfl) rfl) ?_;refine Wf 0 rfl rfl (fun hg=>AW (eg_ hg rfl) (Cg hg rfl) rfl) ?_;refine Wk 0 Po ?_;refine Wp ?_ ?_<;>intro hc1
 ·have hno:numB 3 t0=none:=by
   cases hd:AB t0 3 with
   |false=>exact Eh (.inl hd)
   |true=>
    have hd2:=Ef hd;have ht2:seq ⟨(Lib.trimS (bl t0) decL).toArray⟩ ⟨#[]⟩=true:=(HJ t0).trans (Fv hd);rw[ht2]at hc1
    have h2:byt t0 0=48/\seq t0 ⟨#[48]⟩=false:=by
     have h9:=hc1
     (try simp at h9)
     rcases h9 with h9|h9
     ·omega
     exact h9
    refine Eh (.inr ⟨h2.1,?_⟩);have h3:=EQ h2.1 hd2.1;rw[h2.2]at h3
    simpa using h3.symm
  refine Cs (Dr mixed 0 ?_);refine Dk 2 (AX tk71 rfl fun u hu=>hE.st hu) ?_;exact Dd (Qc (Cr (Qr (out2 rfl rfl rfl (Af (by rw[hno];rfl))))))
 have hd:AB t0 3=true:=by
  have h9:=hc1
  (try simp at h9)
  unfold AB;rw[<-HJ];simp;grind
 have hyes:numB 3 t0=some (numL (bl t0)):=GC hd fun h=>by
  have h3:=EQ h (Ef hd).1;have h9:=hc1;rw[h3]at h9
  (try simp[h]at h9)
  omega
 refine Ck (Qc (Nz 1 ?_));refine Wk 4 (Cb rfl rfl Su (fun u hu=>SN t0 u (most:=3) hd (by decide))) ?_;exact Wd (Qc (Cr (out2 rfl rfl rfl (Af (by rw[hyes];rfl)))))
def numD (l:List ByteArray):List Int:=l.map fun t=>(numB 3 t).getD 0
def numO (l:List ByteArray):Bool:=l.all fun t=>(numB 3 t).isSome
theorem UH {l:List ByteArray} (h0:0<=i) (h1:i<l.length):numD (l.take (i+1).toNat)=numD (l.take i.toNat)++[(numB 3 (nth l i)).getD 0]:=by rw[AG l h0 h1];exact List.map_append
theorem S9 {l:List ByteArray} (h0:0<=i) (h1:i<l.length):numO (l.take (i+1).toNat)=(numO (l.take i.toNat)&&(numB 3 (nth l i)).isSome):=by
 unfold numO;rw[AG l h0 h1,List.all_append];simp
theorem FU (l:List ByteArray):(numD l).length=l.length:=List.length_map _
theorem XU:∀l:List ByteArray,Dq 3 l=if numO l=true then some (numD l)else none
 |[]=>rfl
 |t::r=>by
  have ih:=XU r;unfold Dq;rw[ih];have e:numO (t::r)=((numB 3 t).isSome&&numO r):=rfl;rw[e];cases hn:numB 3 t with
  |none=>rfl
  |some n=>
   by_cases h:numO r=true
   ·rw[if_pos h,if_pos (by rw[h];rfl)];unfold numD;rw[List.map_cons,hn];rfl
   rw[if_neg h,if_neg (by simpa using h)]
def DecR (a:Addr) (w:World) (l:List ByteArray):Ending->World->Prop:=fun e w'=>∃y:Value×Value,((noE y.2=numO l/\(y.2 = .nilIface\/∃t x,y.2 = .iface t x))/\∃u0,SlT cInt u0 ⟨y.1,numD l⟩)/\RetF w (.tuple #[y.1,y.2]) (star [roT cInt ⟨y.1,numD l⟩,roS fun u=>ErrX a u y.2]) e w'
theorem decR {e:TypeId} {l:List ByteArray} {x:Value} (h1:noE x=numO l) (h2:x = .nilIface\/∃t y,x = .iface t y) (hu:St w0.heap.size w0 [oT cInt e v (numD l),roS fun u=>ErrX a u x] u):DecR a w0 l (.returned (.tuple #[v,x])) u:=by
 have h3:=St.toRo (p:=fun u=>SlT cInt u ⟨v,numD l⟩) (fun S u h=>⟨Star.osl (L:=[oT cInt e v (numD l)]) (j:=0) rfl ⟨S,fun _ h=>h,h,trivial⟩,fun _ _=>trivial⟩) hu;exact⟨(v,x),⟨⟨h1,h2⟩,u,Bk hu (j:=0) rfl fun _ _=>trivial⟩,Mu h3 (List.Perm.refl _)⟩
theorem Jen {n0:Nat} {x y z:Value} (hy:∀u,ErrX a u y) (h:St n0 w0 (roS (fun u=>(∀v∈[z,y],ErrX a u v)->ErrX a u x)::roS (fun u=>ErrX a u z)::L) u):St n0 w0 (roS (fun u=>ErrX a u x)::L) u:=
 St.roMap (fun u h=>h.1 fun v hv=>by
  rcases List.mem_cons.1 hv with rfl|hv
  ·exact h.2
  rw[List.mem_singleton]at hv;subst hv;exact hy u) (St.roAnd h)
theorem okE {x y:Value} (hx:ErrX a u x) (hy:ErrX a u y):∀v∈[x,y],(cErr a).ok u v:=fun v hv=>by
 rcases List.mem_cons.1 hv with rfl|hv
 ·exact hx
 rw[List.mem_singleton]at hv;subst hv;exact hy
theorem ifO (a:Addr) (b:Bool):errO a b = .nilIface\/∃t y,errO a b = .iface t y:=by cases b;exact .inr ⟨_,_,rfl⟩;exact .inl rfl
theorem oneE {x:Value} (h:x = .nilIface\/∃t y,x = .iface t y):x.oneCell'=true:=by rcases h with rfl|⟨t,y,rfl⟩<;>rfl
theorem N0 (a:Addr) (s0:Sl ByteArray) (w:World) (hE:EOk w a) (hk:SlT cStr w s0) (hz:∀x∈s0.l,(x.size:Int)<=1000000) (hn:s0.l.length<=70000):
  Calls prog 29 #[s0.v] w (DecR a w s0.l):=by
 refine En func29 ?_;refine Nz 2 ?_;refine Nv 1 ?_;refine Wk 1 (Nc (s:=s0)) ?_;refine Nu ?_;refine CS.weak (fun u hu=>(hu.roTrue (p:=fun u=>ErrX a u .nilIface) (fun u=>.inl rfl)).osl0 (e:=3) (size:=1)) ?_;refine CS.loopM (σ:=Int×Value×Value) (rsL [5,7,11,27]) (fun s=>[(10,.int .i64 s.1),(2,s.2.1),(3,s.2.2)]) (fun s=>[oT cInt 3 s.2.1 (numD (s0.l.take s.1.toNat)),roS (fun u=>ErrX a u s.2.2)]) (fun s=>0<=s.1/\s.1<=s0.l.length/\noE s.2.2=numO (s0.l.take s.1.toNat)/\(s.2.2 = .nilIface\/∃t y,s.2.2 = .iface t y)) (fun s=>(s0.l.length-s.1).toNat) (0,.slice none 0 0,.nilIface) (fun _ _=>rfl) rfl rfl ⟨by simp,by simp,rfl,.inl rfl⟩ ?_;intro q t hs;obtain⟨hq1,hq2,hq3,hq4⟩:=hs;refine Nz 1 ?_;refine Wd (Qc (Cs (Cn ?_ ?_)))<;>intro hc1
 ·have hzq:=hz _ (Ai hq1 (show q.1<s0.l.length by omega));refine Ck (Qc (Cs (Ce (Nz 0 ?_))));refine Wk 0 (Xc (s:=s0)) ?_;refine Wk 1 (Ub (s:=s0)) ?_;refine Nx 1 ?_;refine Wk 5 (Cb rfl rfl Z4 (fun u hu=>SE a _ u (hE.st hu) hzq)) ?_;refine Nw 2 ?_;refine WS.buildN1 (b:=(numB 3 (nth s0.l q.1)).getD 0) sl48 zv3 rfl (fun _=>rfl) ?_;intro v21;refine WS.appendT1 (C:=cInt) (a:=(numB 3 (nth s0.l q.1)).getD 0) (j:=1) (jz:=0) sl48 zv3 rfl (by decide) rfl rfl rfl rfl (w:=w) trivial (by rw[FU,List.length_take];omega) (by rw[FU,List.length_take];omega) (fun _=>rfl) (fun _=>rfl) ?_;intro v22 hv22;refine Wz 2 ?_;refine WS.buildE2 a (b:=q.2.2) (c:=errO a (numB 3 (nth s0.l q.1)).isSome) Me zv71 rfl rfl hq4 (ifO a _) (fun _=>rfl) ?_;intro v25;refine Wc rfl rfl RD (fun u hu=>Le a ⟨v25,[q.2.2,errO a (numB 3 (nth s0.l q.1)).isSome]⟩ u (Bk hu (j:=0) rfl (okE (hu.ro (j:=3) rfl) (.o _))) (by simp)) (fun _=>rfl) ?_;rintro x ⟨hx1,hx2⟩;refine WS.sel [0,3,2] rfl ?_;refine WS.weak (fun u hu=>Jen (fun _=>.o _) hu) ?_;refine Wz 2 ?_;refine Wd (Qb (Qc (Ny 0 ?_)));refine Wk 1 Za ?_;refine Wd ?_;refine QS.sel [1,0] rfl ?_;exact QS.head ((q.1+1,v22,x)) rfl (by simp only[UH hq1 (show q.1<s0.l.length by omega)]) ⟨⟨by simp only;omega,by simp only;omega,by simp only;rw[hx1,S9 hq1 (by omega),<-hq3];simp[U9],hx2⟩,by simp only;omega⟩
 have hta:s0.l.take q.1.toNat=s0.l:=List.take_of_length_le (by omega);rw[hta]at hq3;rw[hta];refine Cv (Qe (Qe (Qx (Qc (Nz 4 ?_)))));exact Wd (Qc (Cr (out2 rfl rfl rfl (fun u hu=>decR hq3 hq4 (hu.sel [0,0] rfl)))))
def nmB (l:List ByteArray) (t:ByteArray):Bool:=decide (0<=idxN id l t)&&Au t
theorem Ut (l:List ByteArray) (t:ByteArray):idxF (fun x=>seq t x) l=idxN id l t:=by
 unfold idxN;congr 1;funext x;exact CY _ _
theorem PD {α:Type} (f:α->ByteArray) (l:List α) (t:ByteArray):idxN id (l.map f) t=idxN f l t:=(FN f (fun x=>seq (f x) t) (fun x=>seq x t) (fun _=>rfl) l).symm
theorem PT (a:Addr) (s0:Sl ByteArray) (t0:ByteArray) (w:World) (hE:EOk w a) (hk:SlT cStr w s0) (ht:(t0.size:Int)<=1000000):
  Calls prog 81 #[s0.v,.string t0] w (RetB w (.tuple #[.int .i64 (if nmB s0.l t0=true then idxN id s0.l t0 else 0),errO a (nmB s0.l t0)])):=by
 refine En func81 ?_;refine Nz 2 ?_;refine Nv 2 ?_;refine Wk 1 (Cb rfl rfl SC (fun u hu=>Hw s0 t0 u (hk.st hu))) ?_;refine Nx 3 ?_;refine Wj 0 ?_;refine Wt 0 rfl rfl (fun hg=>Cb rfl (ec_ (eg_ hg rfl) en_) Yr (fun u hu=>NJ t0 u (by omega))) ?_;refine Wk 0 Pa ?_;refine Wp ?_ ?_<;>intro hc1
 ·have hn:nmB s0.l t0=true:=by unfold nmB;rw[<-Ut];simpa using hc1
  refine Nz 3 ?_;exact Wd (Qc (Cr (Qr (out2 rfl rfl rfl (Af (by rw[hn,if_pos rfl,Ut];rfl))))))
 have hn:nmB s0.l t0=false:=by
  unfold nmB;rw[<-Ut];rcases hc1 with h|h
  ·rw[decide_eq_false h];rfl
  rw[h,Bool.and_false]
 refine Ck (Qc (Cs (Dr mixed 0 ?_)));refine Dk 2 (AX tk71 rfl fun u hu=>hE.st hu) ?_;exact Dd (Qc (Cr (out2 rfl rfl rfl (Af (by rw[hn,if_neg (by decide)];rfl)))))
def LitR (a:Addr) (w:World) (spec:Option Lit):Ending->World->Prop:=fun e w'=>∃y:Lit×Value,(((∃b,spec=some b/\y.1=b/\noE y.2=true)\/(spec=none/\noE y.2=false))/\(y.2 = .nilIface\/∃t x,y.2 = .iface t x))/\RetF w (.tuple #[.agg (cLit.cells y.1).toArray,y.2]) (roS fun u=>ErrX a u y.2) e w'
theorem litR {spec:Option Lit} (b:Lit) {x:Value} (h1:(∃c,spec=some c/\b=c/\noE x=true)\/(spec=none/\noE x=false)) (h2:x = .nilIface\/∃t y,x = .iface t y) {j:Nat} (hj:L[j]? = some (roS fun u=>ErrX a u x)) (hu:St w0.heap.size w0 L u):
 LitR a w0 spec (.returned (.tuple #[.agg (cLit.cells b).toArray,x])) u:=⟨(b,x),⟨h1,h2⟩,retF hj u hu⟩
theorem Jbh (hu:St w0.heap.size w0 L u):LitR a w0 none (.returned (.tuple #[.agg (cLit.cells ⟨0,0,false⟩).toArray,errV a])) u:=
 ⟨(⟨0,0,false⟩,errV a),⟨.inr ⟨rfl,rfl⟩,.inr ⟨_,_,rfl⟩⟩,retR (p:=fun u=>ErrX a u (errV a)) (fun _ u _=>.inr .line) u hu⟩
theorem YF {t:ByteArray}:numB 2 t=if t.size<=2 then numB 3 t else none:=by
 unfold numB AB
 by_cases h:t.size<=2
 ·rw[if_pos h,show decide ((t.size:Int)<=2)=decide ((t.size:Int)<=3) by rw[decide_eq_decide];omega]
 rw[if_neg h,show decide ((t.size:Int)<=2)=false from decide_eq_false (by omega)];simp
variable {ths:List Thing}
theorem Jcj {t:ByteArray} (h:¬AJ t<t.size):litT ths t=none:=by
 unfold litT;exact if_neg fun h2=>h h2.1
theorem VA {t:ByteArray} {i:Nat} (hi:AJ t=i) (h:i<t.size):litT ths t=if nmB (ths.map Thing.nm) (t.extract 0 i)=true then(numB 2 (t.extract (i+1) t.size)).map fun n=>⟨idxN Thing.nm ths (t.extract 0 i),n,decide (byt t i=33)⟩else none:=by
 subst hi;unfold litT nmB;rw[PD]
 by_cases h2:Au (t.extract 0 (AJ t))=true/\0<=idxN Thing.nm ths (t.extract 0 (AJ t))
 ·rw[if_pos ⟨h,h2⟩,if_pos (by rw[decide_eq_true h2.2,h2.1];rfl)]
 rw[if_neg fun h3=>h2 h3.2,if_neg fun h3=>h2 (by simp only[Bool.and_eq_true,decide_eq_true_eq]at h3;exact⟨h3.2,h3.1⟩)]
def litP (ths:List Thing) (t:ByteArray) (i:Int):Lit:=⟨if nmB (ths.map Thing.nm) (t.extract 0 i.toNat)=true then idxN id (ths.map Thing.nm) (t.extract 0 i.toNat)else 0,(numB 3 (t.extract (i+1).toNat t.size)).getD 0,decide (byt t i=33)⟩
theorem Jf9 {t:ByteArray} {z b:Bool} {a0:Addr} (hi:(AJ t:Int)=i) (h:AJ t<t.size) (hz:z=(numB 2 (t.extract (i+1).toNat t.size)).isSome) (hb:b=[errO a0 (nmB (ths.map Thing.nm) (t.extract 0 i.toNat)),errO a0 z].all noE) {x:Value} (hx:noE x=b):
  (∃c,litT ths t=some c/\litP ths t i=c/\noE x=true)\/(litT ths t=none/\noE x=false):=by
 subst hi;rw[Int.toNat_natCast]at hb;rw[show((AJ t:Int)+1).toNat=AJ t+1 by omega]at hz;rw[VA rfl h,hx,hb];simp only[List.all_cons,List.all_nil,U9,Bool.and_true];cases hn:nmB (ths.map Thing.nm) (t.extract 0 (AJ t))with
 |false=>exact .inr ⟨rfl,rfl⟩
 |true=>
  rw[if_pos rfl,hz];cases hk:numB 2 (t.extract (AJ t+1) t.size)with
  |none=>exact .inr ⟨rfl,rfl⟩
  |some n=>
   refine .inl ⟨_,rfl,?_,rfl⟩
   have h3:numB 3 (t.extract (AJ t+1) t.size)=some n:=by
    rw[YF]at hk;split at hk
    ·exact hk
    cases hk
   unfold litP;rw[Int.toNat_natCast,show((AJ t:Int)+1).toNat=AJ t+1 by omega,if_pos hn,h3,PD];rfl
theorem Jds (a:Addr) (r:Room) (w:World) (hr:RoomOk w r) (t0:ByteArray) (hE:EOk w a) (ht:(t0.size:Int)<=70000) (hl:r.ths.l.length<=70000):
  Calls prog 83 #[.agg (rcl r).toArray,.string t0] w (LitR a w (litT r.ths.l t0)):=by
 have kpl:=hr.pls;have lpl:=hr.pls.le;have kth:=hr.ths;have lth:=hr.ths.le;have kpr:=hr.prs;have lpr:=hr.prs.le;have kwy:=hr.wys;have lwy:=hr.wys.le;have kac:=hr.acs;have lac:=hr.acs.le;have kau:=hr.aus;have lau:=hr.aus.le;have kgl:=hr.gl;have lgl:=hr.gl.le;obtain⟨sg,hsg⟩:∃i:Int,(if AJ t0<t0.size then(AJ t0:Int)else -1)=i:=⟨_,rfl⟩;refine En func83 ?_;refine Nz 0 ?_;refine Wr 0 fun b2 hb2=>?_;refine Wq 1 Cu fun b4 hb4=>?_;refine Nx 1 ?_;refine Wk 1 (Cb rfl rfl X9 (fun u hu=>hsg▸Jgf t0 u (by omega))) ?_;refine Nv 2 ?_;refine Wp ?_ ?_<;>intro hc1
 ·have hno:litT r.ths.l t0=none:=Jcj (by split at hsg<;>omega);rw[hno];refine Cs ?_;refine CS.drawnTill 2 (k:=4) mixed rfl rfl ?_;refine Tk 4 0 [] rfl (Db Hd Cu) ?_;refine AT.two (i:=1) (j:=2) (by kernel_rfl) rfl rfl (by first|(intro h;exact absurd h (by decide))|exact fun _ _ h=>h|exact fun _ _ h=>h.sub (by repeat first|exact List.Sublist.refl _|apply List.Sublist.cons_cons|apply List.Sublist.cons)) rfl rfl ?_ ?_
  ·refine Wk 0 (AX tk71 rfl fun u hu=>hE.st hu) ?_;refine Wd (Qt ?_);refine To 2 rfl ?_;refine Wv 0 0 ?_;refine Wd (Qt ?_);refine To 3 rfl ?_;refine Wz 1 ?_;refine Wd (Qt ?_);refine Te ?_;exact Qc (Cr (Qr (outR (Bv rfl (Ag (j:=0) rfl rfl M4) rfl) (fun u hu=>Jbh hu))))
  refine Wv 0 0 ?_;refine Wd (Qt ?_);refine To 1 rfl ?_;refine Wk 0 (AX tk71 rfl fun u hu=>hE.st hu) ?_;refine Wd (Qt ?_);refine To 3 rfl ?_;refine Wz 1 ?_;refine Wd (Qt ?_);refine Te ?_;exact Qc (Cr (Qr (outR (Bv rfl (Ag (j:=0) rfl rfl M4) rfl) (fun u hu=>Jbh hu))))
 have hlt:AJ t0<t0.size:=by split at hsg;assumption;omega
 rw[if_pos hlt]at hsg;have hsg2:AJ t0=sg.toNat:=by omega
 have hs1:=ES t0 0 sg.toNat;have hs2:=ES t0 (sg+1).toNat t0.size;refine Ck (Qc (Nz 1 ?_));refine Nv 1 ?_;refine Wk 0 (Ba 1) ?_;refine Wk 1 (Nc (s:=r.ths)) ?_;refine Nu ?_;refine CS.weak (fun _ hu=>hu.osl0 (e:=9) (size:=1)) ?_;refine CS.loopM (σ:=Int×Value) (rsL [9,9,24,32]) (fun s=>[(23,.int .i64 s.1),(7,s.2)]) (fun s=>[oT cStr 9 s.2 ((r.ths.l.take s.1.toNat).map Thing.nm),blk b4 [.int .i64 0,.int .i64 0,.bool false] 103,blk b2 (Room.cells r) 32]) (fun s=>0<=s.1/\s.1<=r.ths.l.length) (fun s=>(r.ths.l.length-s.1).toNat) (0,.slice none 0 0) (fun _ _=>rfl) rfl rfl ⟨by simp,by simp⟩ ?_;intro q t hs;obtain⟨hq1,hq2⟩:=hs;refine Nz 1 ?_;refine Wd (Qc (Cs (Cn ?_ ?_)))<;>intro hc2
 ·refine Ck (Qc (Cs (Ce (Nz 0 ?_))));refine Wk 0 (Xc (s:=r.ths)) ?_;refine Wk 0 (Ua (s:=r.ths)) ?_;refine Wq 0 FG fun b9 hb9=>?_;refine Wv 0 0 ?_;refine Nw 2 ?_;refine Wk 0 (Ba 0) ?_;refine WS.buildS1 (b:=(nth r.ths.l q.1).nm) sl23 zv9 rfl (fun _=>rfl) ?_;intro v30;refine WS.appendT1 (C:=cStr) (a:=(nth r.ths.l q.1).nm) (j:=2) (jz:=0) sl23 zv9 rfl (by decide) rfl rfl rfl rfl (w:=w) trivial (by simp;omega) (by simp;omega) (fun _=>rfl) (fun _=>rfl) ?_;intro v31 hv31;refine Wz 1 ?_;refine Wd (Qb (Qc (Ny 0 ?_)));refine Wk 1 Za ?_;refine Wd ?_;refine QS.sel [2,2,2] rfl ?_;exact QS.head ((q.1+1,v31)) rfl (by simp only[AG r.ths.l hq1 (show q.1<r.ths.l.length by omega),List.map_append,List.map_cons,List.map_nil]) ⟨⟨by simp only;omega,by simp only;omega⟩,by simp only;omega⟩
 have hta:r.ths.l.take q.1.toNat=r.ths.l:=List.take_of_length_le (by omega);rw[hta];refine Cv (Qe (Qe (Qx (Qc (Nz 3 ?_)))));refine Wk 0 (C5 underlying9 rfl rfl (by omega)) ?_;refine Wk 5 (Cb rfl rfl Je0 (fun u hu=>PT a ⟨q.2,(r.ths.l.map Thing.nm)⟩ _ u (hE.st hu) (Bk hu (j:=0) rfl fun _ _=>trivial) (by omega))) ?_;refine Nx 2 ?_;refine Wk 0 Za ?_;refine Wk 0 (DH underlying9 rfl rfl (by omega)) ?_;refine Wk 5 (Cb rfl rfl Z4 (fun u hu=>SE a _ u (hE.st hu) (by omega))) ?_;refine Wd (Qc ?_);refine CS.cut (σ:=Bool) [49,50,51,52,53,54,55] (fun s=>[(13,errO a s)]) (fun s=>[oT cStr 9 q.2 (r.ths.l.map Thing.nm),blk b4 [.int .i64 0,.int .i64 0,.bool false] 103,blk b2 (Room.cells r) 32]) (fun s=>s=(numB 2 (t0.extract (sg+1).toNat t0.size)).isSome) (fun _ _=>rfl) ?_ ?_
 ·refine Nz 2 ?_;refine Wk 0 Za ?_;refine Wk 0 (DH underlying9 rfl rfl (by omega)) ?_;refine Wk 1 (Al underlying9 rfl) ?_;refine Wp ?_ ?_<;>intro hc3
  ·refine Ny 0 ?_;refine Wk 1 (AX tk71 rfl fun u hu=>hE.st hu) ?_;exact Wd (QS.head (false) rfl rfl (by rw[YF,if_neg (by omega)];rfl))
  exact Ck (QS.head ((numB 3 (t0.extract (sg+1).toNat t0.size)).isSome) rfl rfl (by rw[YF,if_pos (by omega)]))
 intro z t hs;have hz:=hs;refine Cs ?_;refine CS.drawnTill 11 (k:=13) mixed rfl rfl ?_;refine Tr 13 [0,1,2,3] ?_;refine Tk 13 4 [5] rfl (An underlying9 rfl rfl (by omega) (by omega)) ?_;refine Tk 13 6 [7,8] rfl (Db Hd Cu) ?_;refine To 9 rfl ?_;refine WS.buildE2 a (b:=errO a (nmB (r.ths.l.map Thing.nm) (t0.extract 0 sg.toNat))) (c:=errO a z) Me zv71 rfl rfl (ifO a _) (ifO a _) (fun _=>rfl) ?_;intro v65;refine Wd (Qt ?_);refine To 10 rfl ?_;refine Wc rfl rfl RD (fun u hu=>Le a ⟨v65,[errO a (nmB (r.ths.l.map Thing.nm) (t0.extract 0 sg.toNat)),errO a z]⟩ u (Bk hu (j:=0) rfl (okE (.o _) (.o _))) (by simp)) (fun _=>rfl) ?_;rintro x ⟨hx1,hx2⟩;refine WS.weak (fun u hu=>St.roMap (fun u h=>h (okE (.o _) (.o _))) hu) ?_;refine Wd (Qt ?_);refine To 11 rfl ?_;refine Wv 0 3 ?_;refine Wd (Qt ?_);refine To 12 rfl ?_;refine Wz 1 ?_;refine Wd (Qt ?_);refine Te ?_;exact Qc (Cr (outR (Bv rfl (Ag (j:=3) rfl rfl M4) rfl) (fun u hu=>litR (litP r.ths.l t0 sg) (Jf9 hsg hlt hz rfl hx1) hx2 (j:=0) rfl hu)))
end Go.Proofs.YtllebkdchemabaaGreatDoor
