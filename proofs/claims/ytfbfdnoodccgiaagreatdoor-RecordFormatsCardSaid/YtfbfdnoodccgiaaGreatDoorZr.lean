/- Merged texts of this proof (walks and plain laws), printed by a program of the prover. -/
import Derived.Test.YtfbfdnoodccgiaaGreatDoorZq
import Derived.Test.YtfbfdnoodccgiaaGreatDoorZk
set_option maxHeartbeats 8000000
namespace Go.Proofs.YtfbfdnoodccgiaaGreatDoor
open Go.RowKit Go.Proofs
set_option maxRecDepth 100000
set_option linter.unusedVariables false
set_option linter.unusedSimpArgs false
theorem Js8 {l:List Bool} {i:Int} (h0:0≤i) (h1:i < l.length) (h:nth l i=true):l.set i.toNat true=l:=by
 refine Jnm (by simp) fun j a b=>?_
 by_cases e:j=i
 ·
  subst e; rw [Jfq h0 h1,h]
 exact Jc6 h0 a e
theorem Jpt (z:Stt) (n:NoteD):Jjp z.x n.p=(decide (n.pl∈z.pls.l) && Jcq z.ths.l n.wh.l):=by
 unfold Jjp
 congr 1
 rw [Bool.eq_iff_iff]
 simp only [Stt.x,NoteD.p,List.any_eq_true,decide_eq_true_eq]
 exact ⟨fun ⟨x,h,e⟩=>of_decide_eq_true e ▸ h,fun h=>⟨_,h,decide_eq_true rfl⟩⟩
theorem Jw6 {G:GP} {rd:List Bool} {i lk:Int} (h0:0≤i) (hk:lk≠(nth G.nts i).lk):cluN G (rd.set i.toNat true) lk=cluN G rd lk:=by
 unfold cluN filI
 refine List.filter_congr fun j hj=>?_
 unfold Jc4 at hj
 obtain ⟨q,hq,rfl⟩:=List.mem_map.1 hj
 by_cases e:(q:Int)=i
 ·
  rw [e,decide_eq_false (fun h=>hk h.symm),Bool.and_false,Bool.and_false]
 rw [Jc6 h0 (by omega) e]
theorem Jub {G:GP} {rd:List Bool} {i lk:Int} (h0:0≤i) (hk:lk≠(nth G.nts i).lk):Jdj G (rd.set i.toNat true) lk=Jdj G rd lk:=by unfold Jdj; rw [Jw6 h0 hk]
theorem KeptO.drop {G:GP} {rd:List Bool} {f:Int→Int} (h:KeptO G rd f) {i lk:Int} (h0:0≤i) (hk:lk=(nth G.nts i).lk):KeptO G (rd.set i.toNat true) (updI f lk 0):=fun k=>by
 unfold updI
 split
 ·
  exact .inl rfl
 rename_i e; rw [Jub h0 (by rw [← hk]; exact e)]; exact h k
theorem Jso {w u:World} (R:SA) (G:Game) (hG:GameOk w G) (hn:NearG G) (g:Sl ByteArray) (hW:GOk w g) (hV:GoodG G) (tb mb:Nat) (z:Stt) (Z:SA) (hZ:HasZ w Z z) (hI:StIn G.rm z.x) (rv:Value) (rd:List Bool) (hl:rd.length=G.nts.l.length) (f:Int→Int) (hf:KeptO G.p rd f) (hu:St w.heap.size w [blk tb [G.rm.pls.v,G.rm.ths.v,G.rm.prs.v,G.rm.wys.v,G.rm.acs.v,G.rm.aus.v,.int .i64 G.rm.ply,G.rm.gl.v,G.lks.v,G.cds.v,G.nts.v,.int .i64 G.tr,z.ths.v,z.prs.v,z.pls.v,rv,.map (some mb)] 143,oT Jb2 4 rv rd,mapI mb f,Z,R] u) :
  Calls Tryz.prog 57 #[.pointer (some ⟨tb,0,none⟩)] u (fun e u'=>∃ f':Int→Int,KeptO G.p (Jb3 G.p z.x rd) f'∧e = .returned (.tuple #[])∧St w.heap.size w [blk tb [G.rm.pls.v,G.rm.ths.v,G.rm.prs.v,G.rm.wys.v,G.rm.acs.v,G.rm.aus.v,.int .i64 G.rm.ply,G.rm.gl.v,G.lks.v,G.cds.v,G.nts.v,.int .i64 G.tr,z.ths.v,z.prs.v,z.pls.v,rv,.map (some mb)] 143,oT Jb2 4 rv (Jb3 G.p z.x rd),mapI mb f',Z,R] u'):=by
 have knt:=hG.nts
 have lnt:=hG.nts.le
 have hnn:=hV.nn
 have hS:stL G.rm z.x=0:=Jd0.2 ⟨hV.ck,hI⟩
 refine Jd9 hu Tryz.func57 rfl rfl (Nat.le_of_ble_eq_true rfl) ?_
 refine Nz 4 ?_
 refine Wk 0 (Ba 0) ?_
 refine Wk 1 Nc ?_
 refine Wd (Qc (Ce ?_))
 refine CS.loopM (σ:=Int × List Bool × (Int→Int)) [2,3,4,5,13,14,15,16,17,18,19,20,21,22,23,24,25,26,27,28,29,30,31,32,33,34,35,36,37,38,39,40,41,42,43,44,45,46,47,48,49,50,51,52,53,54,55,56,57,58,59,60,61,62,63,64,65,66,67,68,69] (fun s=>[(12,.int .i64 s.1)]) (fun s=>[blk tb [G.rm.pls.v,G.rm.ths.v,G.rm.prs.v,G.rm.wys.v,G.rm.acs.v,G.rm.aus.v,.int .i64 G.rm.ply,G.rm.gl.v,G.lks.v,G.cds.v,G.nts.v,.int .i64 G.tr,z.ths.v,z.prs.v,z.pls.v,rv,.map (some mb)] 143,oT Jb2 4 rv s.2.1,mapI mb s.2.2,Z,R]) (fun s=>0≤s.1∧s.1≤G.nts.l.length∧ReadTo G.p z.x rd s.1 s.2.1∧KeptO G.p s.2.1 s.2.2) (fun s=>(G.nts.l.length - s.1).toNat) (0,rd,f) (fun _ _=>rfl) rfl rfl ⟨by simp,by simp,ReadTo.zero,hf⟩ ?_
 intro s t hs
 obtain ⟨hs1,hs2,hs3,hs4⟩:=hs
 refine Nz 1 ?_
 refine Wd (Qc (Cs (CS.cond rfl ?_ ?_)))<;>intro hc1<;>try simp only [bq] at hc1
 ·
  have hs5:s.1 < G.nts.l.length:=by omega
  have hnt:cNote.ok w (nth G.nts.l s.1):=knt.at hs1 hs5
  have hg1:=hnt.2.one1
  have hwh1:=Sl.one hnt.1
  have hHo:(HoldsV G.rm z.x (nth G.nts.l s.1).wh.l).2=Jcq z.ths.l (nth G.nts.l s.1).wh.l:=by unfold HoldsV; rw [if_pos hS,if_pos (hV.wh _ hs1 hs5)]; rfl
  have hln:=hs3.len
  have hss:=Jpt z (nth G.nts.l s.1)
  refine Ck (Qc (Cs (Ce (Nz 1 ?_))))
  refine Wk 0 Xc ?_
  refine Wk 0 Ua ?_
  refine Wl 1 Jly (fun _=>rfl) (fun _=>rfl) fun b3 hb3=>?_
  refine Wv 0 0 ?_
  refine Wd (Qc (Cs (Dr mixed 4 ?_)))
  refine Dk 4 (Bc 1) ?_
  refine Dk 1 (Bc 1) ?_
  refine Dk 0 (Ba 0) ?_
  refine Dk 5 (Cb rfl rfl J5b (fun u hu=>Jxs G.rm u (hG.rm.st hu) g (hW.st hu) hn.rm z (hZ.get (j:=4) rfl hu) (nth G.nts.l s.1).wh (hnt.1.st hu))) ?_
  refine Dd (Qc (Cs (Dr mixed 2 ?_)))
  refine Dt 0 rfl rfl (fun hg=>Fm) ?_
  refine Dt 0 rfl rfl (fun hg=>Fc) ?_
  refine Dt 0 rfl rfl (fun hg=>Ff) ?_
  refine Dt 0 rfl rfl (fun hg=>Ff) ?_
  refine Dt 0 rfl rfl (fun hg=>Ff) ?_
  refine Dt 0 rfl rfl (fun hg=>Ba 1) ?_
  refine Dt 0 rfl rfl (fun hg=>Ff) ?_
  refine Dt 0 rfl rfl (fun hg=>Ba 0) ?_
  refine Dt 0 rfl rfl (fun hg=>Cb rfl (ec_ (eg_ hg rfl) (ec_ (eg_ hg rfl) en_)) J3l (fun u hu=>Jgx z.pls _ u (hZ.get (j:=4) rfl hu).pls)) ?_
  refine Dk 1 Pa ?_
  refine Dt 0 rfl rfl (fun hg=>Fm) ?_
  refine Dt 0 rfl rfl (fun hg=>Fc) ?_
  refine Dt 0 rfl rfl (fun hg=>Ff) ?_
  refine Dt 0 rfl rfl (fun hg=>Ff) ?_
  refine Dt 0 rfl rfl (fun hg=>Ba 1) ?_
  refine Dt 0 rfl rfl (fun hg=>Fm) ?_
  refine Dt 0 rfl rfl (fun hg=>Jj3 (j:=2) sl95 (eg_ hg rfl) (eg_ hg rfl) rfl rfl (by omega) (by omega)) ?_
  refine Dt 0 rfl rfl (fun hg=>Jty (C:=Jb2) (j:=2) 1 0 rfl (eg_ hg rfl) rfl ⟨by omega,by omega⟩ (by decide) rfl tk4) ?_
  refine Dt 0 rfl rfl (fun hg=>Fn) ?_
  refine Dk 0 Pa ?_
  refine Dd (Qc (CS.cond rfl ?_ ?_))<;>intro hc2<;>try simp only [bq] at hc2
  ·
   refine Nz 4 ?_
   refine Wk 1 (Ba 1) ?_
   refine Wk 0 (Jj3 (j:=2) sl95 rfl rfl rfl rfl (by omega) (by omega)) ?_
   refine WS.storeTc (C:=Jb2) 1 0 true (j:=2) rfl rfl rfl ⟨by omega,by omega⟩ (by decide) rfl rfl tk4 rfl rfl ?_
   refine Wd (Qc ?_)
   refine CS.drawnTill 6 (k:=7) mixed rfl rfl ?_
   refine Tr 7 [0,1,2] ?_
   refine Tk 7 3 [4] rfl (Ba 1) ?_
   refine Tk 7 5 [] rfl (Ba 0) ?_
   refine To 6 rfl ?_
   refine WS.mapDelete (T2:=0) mapT mapK rfl (j:=3) rfl rfl rfl ?_
   refine Wd (Qt ?_)
   refine Te ?_
   refine Qb (Qc (Ny 0 ?_))
   refine Wk 1 Za ?_
   refine Wd ?_
   refine QS.sel [1,1,1,1,1] rfl ?_
   exact QS.head ((s.1+1,s.2.1.set s.1.toNat true,updI s.2.2 (nth G.nts.l s.1).lk 0)) rfl rfl ⟨⟨by simp; omega,by simp; omega,hs3.next hs1 (by omega) (by rw [Game.p_nts,hss,decide_eq_true hc2.1.2, ← hHo,hc2.1.1]; rfl),hs4.drop hs1 (by rw [Game.p_nts]; rfl)⟩,by simp; omega⟩
  refine Ck (Qb (Qc (Ny 0 ?_)))
  refine Wk 1 Za ?_
  refine Wd ?_
  refine QS.sel [1,1,1,1,1] rfl ?_
  exact QS.head ((s.1+1,s.2)) rfl rfl ⟨⟨by simp; omega,by simp; omega,hs3.next hs1 (by omega) (by
      rw [Game.p_nts,hss, ← hHo]
      split
      ·
       rename_i h9
       simp only [Bool.and_eq_true,decide_eq_true_eq] at h9
       refine (Js8 hs1 (by show s.1 < (s.2.1.length:Int); omega) ?_).symm
       cases h8:nth s.2.1 s.1 with
       | true=>rfl
       | false=>exact absurd hc2 (by simp [h9.1,h9.2,h8])
      rfl),hs4⟩,by simp; omega⟩
 have hrx:s.2.1=Jb3 G.p z.x rd:=hs3.done (by omega)
 exact Cv (Qe (Qe (Qx (out0 (Or.inr rfl) rfl (by rw [← hrx]; exact fun u hu=>⟨s.2.2,hs4,rfl,hu⟩)))))
def actG (G:Game) (m:Move):Bool:=decide (m.k=4) && (decide (0≤m.n) && decide (m.n≤(G.rm.acs.l.length:Int) - 1))
theorem Jtd (G:Game) (rd:List Bool) (m:Move):mayB G.p rd m=(!decide (m.k=4) || (decide ((nth G.rm.acs.l m.n).lk < 0) || Jdj G.p rd (nth G.rm.acs.l m.n).lk)):=by unfold mayB; rw [Game.p_alk]
theorem Jt4 {G:Game} {rd:List Bool} {m:Move} (h:actG G m=true):mayB G.p rd m=(decide ((nth G.rm.acs.l m.n).lk < 0) || Jdj G.p rd (nth G.rm.acs.l m.n).lk):=by
 unfold actG at h
 rw [Bool.and_eq_true,decide_eq_true_eq] at h
 rw [Jtd,decide_eq_true h.1]; rfl
theorem Ja3 {G:Game} {x:P3} {m:Move} (hS:stL G.rm x=0):((StepV G.rm x m).1=0 ↔ (Jhq G.p x m).isSome=true)∧((StepV G.rm x m).1=0→(StepV G.rm x m).2=(Jhq G.p x m).getD no3):=by
 unfold StepV
 rw [if_pos hS,Jei]
 by_cases hL:legalB G.rm x m=true
 ·
  rw [if_pos hL,if_pos hL]
  cases settleV G.rm (moveX G.rm x m) <;> simp [ansS]
 rw [if_neg hL,if_neg hL]; simp
theorem Jkh {G:Game} {x:P3} {rd:List Bool} {m:Move} (h:actG G m=true) (h2:(decide ((nth G.rm.acs.l m.n).lk < 0) || Jdj G.p rd (nth G.rm.acs.l m.n).lk)=false):Ja6 G.p (x,rd) m=false:=by
 unfold Ja6; rw [Jt4 h,h2,Bool.and_false]
theorem Jby {G:Game} {x:P3} {rd:List Bool} {m:Move} (hS:stL G.rm x=0) (h:¬ (StepV G.rm x m).1=0):Ja6 G.p (x,rd) m=false:=by
 have h1:(Jhq G.p x m).isSome=false:=by
  cases hp:(Jhq G.p x m).isSome with
  | true=>exact absurd ((Ja3 hS).1.2 hp) h
  | false=>rfl
 unfold Ja6; rw [h1]; rfl
theorem Jcd {G:Game} {x:P3} {rd:List Bool} {m:Move} (hR:Ready G.rm) (hI:StIn G.rm x) (hS:stL G.rm x=0) (h:(StepV G.rm x m).1=0) (h2:actG G m=false∨(decide ((nth G.rm.acs.l m.n).lk < 0) || Jdj G.p rd (nth G.rm.acs.l m.n).lk)=true):Ja6 G.p (x,rd) m=true:=by
 have h1:=(Ja3 hS).1.1 h
 unfold Ja6
 show ((Jhq G.p x m).isSome && mayB G.p rd m)=true
 rw [h1,Bool.true_and]
 rcases h2 with h2 | h2
 ·
  rw [Jtd]
  by_cases hk:m.k=4
  ·
   have hL:legalB G.rm x m=true:=by
    rw [Jei] at h1
    by_cases hL:legalB G.rm x m=true
    ·
     exact hL
    rw [if_neg hL] at h1; cases h1
   have hd:=Jxd hR hI hL hk
   exact absurd (show actG G m=true by unfold actG; simp only [Bool.and_eq_true,decide_eq_true_eq]; omega) (by rw [h2]; decide)
  rw [decide_eq_false hk]; rfl
 cases ha:actG G m with
 | true=>rw [Jt4 ha]; exact h2
 | false=>rw [Jtd,h2,Bool.or_true]
def Jb7 (G:GP) (x:PX) (m:Move):PX:=if Ja6 G x m=true then Jcw G x m else x
theorem Jaa {G:GP} {x:PX} {m:Move} (h:Ja6 G x m=false):Jb7 G x m=x:=by unfold Jb7; rw [h]; rfl
theorem Jbc {G:GP} {x:PX} {m:Move} (h:Ja6 G x m=true):Jb7 G x m=Jcw G x m:=if_pos h
theorem Jca {G:Game} {x:P3} {m:Move} (hR:Ready G.rm) (hI:StIn G.rm x) (hS:stL G.rm x=0) (h:(StepV G.rm x m).1=0):StIn G.rm (StepV G.rm x m).2:=by
 rw [(Ja3 hS).2 h,Jei]
 have h1:=(Ja3 hS).1.1 h
 rw [Jei] at h1
 by_cases hL:legalB G.rm x m=true
 ·
  rw [if_pos hL] at h1 ⊢
  cases hs:settleV G.rm (moveX G.rm x m) with
  | none=>rw [hs] at h1; cases h1
  | some y=>exact Jdx hR (Jku hR hI hL) hs
 rw [if_neg hL] at h1; cases h1
theorem Jc2 {w u:World} (A B:List SA) (G:Game) (hG:GameOk w G) (hn:NearG G) (g:Sl ByteArray) (hW:GOk w g) (hV:GoodG G) (tb mb:Nat) (z:Stt) (Z:SA) (hZ:HasZ w Z z) (hI:StIn G.rm z.x) (rv:Value) (rd:List Bool) (hl:rd.length=G.nts.l.length) (f:Int→Int) (hf:KeptO G.p rd f) (hu:St w.heap.size w (A++[blk tb [G.rm.pls.v,G.rm.ths.v,G.rm.prs.v,G.rm.wys.v,G.rm.acs.v,G.rm.aus.v,.int .i64 G.rm.ply,G.rm.gl.v,G.lks.v,G.cds.v,G.nts.v,.int .i64 G.tr,z.ths.v,z.prs.v,z.pls.v,rv,.map (some mb)] 143,oT Jb2 4 rv rd,mapI mb f,Z]++B) u) :
  Calls Tryz.prog 57 #[.pointer (some ⟨tb,0,none⟩)] u (fun e u'=>∃ f':Int→Int,KeptO G.p (Jb3 G.p z.x rd) f'∧e = .returned (.tuple #[])∧St w.heap.size w (A++[blk tb [G.rm.pls.v,G.rm.ths.v,G.rm.prs.v,G.rm.wys.v,G.rm.acs.v,G.rm.aus.v,.int .i64 G.rm.ply,G.rm.gl.v,G.lks.v,G.cds.v,G.nts.v,.int .i64 G.tr,z.ths.v,z.prs.v,z.pls.v,rv,.map (some mb)] 143,oT Jb2 4 rv (Jb3 G.p z.x rd),mapI mb f',Z]++B) u'):=by
 refine Calls.mono (Jso (star (A++B)) G hG hn g hW hV tb mb z Z hZ hI rv rd hl f hf hu.out4) ?_
 rintro e u' ⟨o,h1,h2,h3⟩
 exact ⟨o,h1,h2,h3.in4⟩
theorem Jv5 {w u:World} (A B:List SA) (G:Game) (hG:GameOk w G) (hV:GoodG G) (tb mb:Nat) (z:Stt) (Z:SA) (hZ:HasZ w Z z) (rv:Value) (rd:List Bool) (hl:rd.length=G.nts.l.length) (f:Int→Int) (hf:KeptO G.p rd f) (lk:Int) (h1:lk < G.lks.l.length) (hu:St w.heap.size w (A++[blk tb [G.rm.pls.v,G.rm.ths.v,G.rm.prs.v,G.rm.wys.v,G.rm.acs.v,G.rm.aus.v,.int .i64 G.rm.ply,G.rm.gl.v,G.lks.v,G.cds.v,G.nts.v,.int .i64 G.tr,z.ths.v,z.prs.v,z.pls.v,rv,.map (some mb)] 143,oT Jb2 4 rv rd,mapI mb f,Z]++B) u) :
  Calls Tryz.prog 94 #[.pointer (some ⟨tb,0,none⟩),.int .i64 lk] u (fun e u'=>∃ f':Int→Int,KeptO G.p rd f'∧e = .returned (.bool (decide (lk < 0) || Jdj G.p rd lk))∧St w.heap.size w (A++[blk tb [G.rm.pls.v,G.rm.ths.v,G.rm.prs.v,G.rm.wys.v,G.rm.acs.v,G.rm.aus.v,.int .i64 G.rm.ply,G.rm.gl.v,G.lks.v,G.cds.v,G.nts.v,.int .i64 G.tr,z.ths.v,z.prs.v,z.pls.v,rv,.map (some mb)] 143,oT Jb2 4 rv rd,mapI mb f',Z]++B) u'):=by
 refine Calls.mono (J0f (star (A++B)) G hG hV tb mb z Z hZ rv rd hl f hf lk h1 hu.out4) ?_
 rintro e u' ⟨o,h1,h2,h3⟩
 exact ⟨o,h1,h2,h3.in4⟩
theorem J1l {w u:World} (R:SA) (G:Game) (hG:GameOk w G) (hn:NearG G) (g:Sl ByteArray) (hW:GOk w g) (hV:GoodG G) (tb mb:Nat) (z:Stt) (Z:SA) (hZ:HasZ w Z z) (hI:StIn G.rm z.x) (rv:Value) (rd:List Bool) (hl:rd.length=G.nts.l.length) (f:Int→Int) (hf:KeptO G.p rd f) (m:Move) (hu:St w.heap.size w [blk tb [G.rm.pls.v,G.rm.ths.v,G.rm.prs.v,G.rm.wys.v,G.rm.acs.v,G.rm.aus.v,.int .i64 G.rm.ply,G.rm.gl.v,G.lks.v,G.cds.v,G.nts.v,.int .i64 G.tr,z.ths.v,z.prs.v,z.pls.v,rv,.map (some mb)] 143,oT Jb2 4 rv rd,mapI mb f,Z,R] u) :
  Calls Tryz.prog 61 #[.pointer (some ⟨tb,0,none⟩),.agg #[.int .i64 m.p,.int .i64 m.k,.int .i64 m.n]] u (fun e u'=>∃ q:Stt × (Int→Int) × SA × SA,(q.1.x=(Jb7 G.p (z.x,rd) m).1∧HasZ w q.2.2.1 q.1∧KeptO G.p (Jb7 G.p (z.x,rd) m).2 q.2.1∧((Ja6 G.p (z.x,rd) m=true∧q.2.2.2=Z)∨(Ja6 G.p (z.x,rd) m=false∧q.2.2.1=Z)))∧e = .returned (.bool (Ja6 G.p (z.x,rd) m))∧St w.heap.size w [blk tb [G.rm.pls.v,G.rm.ths.v,G.rm.prs.v,G.rm.wys.v,G.rm.acs.v,G.rm.aus.v,.int .i64 G.rm.ply,G.rm.gl.v,G.lks.v,G.cds.v,G.nts.v,.int .i64 G.tr,q.1.ths.v,q.1.prs.v,q.1.pls.v,rv,.map (some mb)] 143,oT Jb2 4 rv (Jb7 G.p (z.x,rd) m).2,mapI mb q.2.1,q.2.2.1,q.2.2.2,R] u'):=by
 have kac:=hG.rm.acs
 have lac:=hG.rm.acs.le
 have hR:=hV.ready
 have hS:stL G.rm z.x=0:=Jd0.2 ⟨hV.ck,hI⟩
 refine Jd9 hu Tryz.func61 rfl rfl (Nat.le_of_ble_eq_true rfl) ?_
 refine Nz 0 ?_
 refine Wb 1 rfl rfl (fun _=>rfl) (fun _=>rfl) fun b3 hb3=>?_
 refine Wd (Qc (Cs (Cs ?_)))
 rcases Bool.eq_false_or_eq_true (decide (m.k=4) && (decide (0≤m.n) && decide (m.n≤(G.rm.acs.l.length:Int) - 1))) with hb | hb
 ·
  have hac:actG G m=true:=hb
  have hac2:m.k=4∧0≤m.n∧m.n < G.rm.acs.l.length:=by simp only [Bool.and_eq_true,decide_eq_true_eq] at hb; omega
  refine CS.drawnTill 29 (k:=32) mixed rfl rfl ?_
  refine Tr 32 [0] ?_
  refine Tk 32 1 [2,3] rfl (Ba 0) ?_
  refine Tt 32 4 [] rfl rfl rfl (fun hg=>Ff) ?_
  refine Tt 32 5 [] rfl rfl rfl (fun hg=>Ba 0) ?_
  refine Tt 32 6 [] rfl rfl rfl (fun hg=>Fm) ?_
  refine Tt 32 7 [] rfl rfl rfl (fun hg=>Fc) ?_
  refine Tt 32 8 [] rfl rfl rfl (fun hg=>Ff) ?_
  refine Tt 32 9 [] rfl rfl rfl (fun hg=>Ff) ?_
  refine Tt 32 10 [] rfl rfl rfl (fun hg=>Ff) ?_
  refine Tt 32 11 [] rfl rfl rfl (fun hg=>Ba 1) ?_
  refine Tt 32 12 [] rfl rfl rfl (fun hg=>Nc (eg_ hg rfl)) ?_
  refine Tt 32 13 [] rfl rfl rfl (fun hg=>Zb) ?_
  refine Tt 32 14 [] rfl rfl rfl (fun hg=>Cb rfl (ec_ (eg_ hg rfl) (ec_ rfl (ec_ (eg_ hg rfl) en_))) Jld (fun u hu=>Jct _ _ _ u)) ?_
  refine Tk 32 15 [] rfl Pa ?_
  refine Tk 32 16 [] rfl (Jcn (v:=.bool true) (congrArg (fun b=>some (Value.bool b)) hb)) ?_
  refine Tt 32 17 [] rfl rfl rfl (fun hg=>Fm) ?_
  refine Tt 32 18 [] rfl rfl rfl (fun hg=>Fm) ?_
  refine Tt 32 19 [] rfl rfl rfl (fun hg=>Fc) ?_
  refine Tt 32 20 [] rfl rfl rfl (fun hg=>Ff) ?_
  refine Tt 32 21 [] rfl rfl rfl (fun hg=>Ff) ?_
  refine Tt 32 22 [] rfl rfl rfl (fun hg=>Ff) ?_
  refine Tt 32 23 [] rfl rfl rfl (fun hg=>Ba 1) ?_
  refine Tt 32 24 [] rfl rfl rfl (fun hg=>Ff) ?_
  refine Tt 32 25 [] rfl rfl rfl (fun hg=>Ba 0) ?_
  refine Tt 32 26 [] rfl rfl rfl (fun hg=>Xc (eg_ hg rfl)) ?_
  refine Tt 32 27 [] rfl rfl rfl (fun hg=>Ff) ?_
  refine Tt 32 28 [] rfl rfl rfl (fun hg=>Uc 8 2) ?_
  refine To 29 rfl ?_
  refine WS.callSg (want:=true) (j:=16) rfl rfl rfl J5a (fun u hu=>Jv5 [blk b3 [.int .i64 m.p,.int .i64 m.k,.int .i64 m.n] 51] [R] G hG hV tb mb z Z hZ rv rd hl f hf (nth G.rm.acs.l m.n).lk (hV.alk hac2.2.1 hac2.2.2) hu) (fun _=>rfl) ?_; rintro f1 hf1
  refine Wd (Qt ?_)
  refine To 30 rfl ?_
  refine Wt 0 rfl rfl (fun hg=>Fn) ?_
  refine Wd (Qt ?_)
  refine To 31 rfl ?_
  refine Wk 0 Pa ?_
  refine Wd (Qt ?_)
  refine Te ?_
  refine Qc (CS.cond rfl ?_ ?_)<;>intro hc1<;>try simp only [bq] at hc1
  ·
   have hpn:Ja6 G.p (z.x,rd) m=false:=by first | exact Jkh hac (by simpa using hc1) | (exfalso; simp [hb] at hc1; done) | (exfalso; rw [hb] at hc1; simp at hc1; done)
   refine Nz 1 ?_
   exact Wd (Qc (Cr (Qr (out1 rfl rfl (by first | exact fun u hu=>⟨(y,f2,roS fun u=>SttOk u y,Z),⟨by rw [hsr],HasZ.ro,by rw [hsr]; exact hf2,.inl ⟨hpy,rfl⟩⟩,by rw [hpy],by rw [hsr]; exact hu⟩ | exact fun u hu=>⟨(z,f1,Z,Go.Proofs.YtfbfdnoodccgiaaGreatDoor.osl 0 1 (.slice none 0 0) 0 []),⟨by rw [Jaa hpn],hZ,by rw [Jaa hpn]; exact hf1,.inr ⟨hpn,rfl⟩⟩,by rw [hpn],by rw [Jaa hpn]; exact (hu.sel [1,1,1,1,1] rfl).osl0.sel [1,1,1,1,0,0] rfl⟩ | exact fun u hu=>⟨(z,f,Z,Go.Proofs.YtfbfdnoodccgiaaGreatDoor.osl 0 1 (.slice none 0 0) 0 []),⟨by rw [Jaa hpn],hZ,by rw [Jaa hpn]; exact hf,.inr ⟨hpn,rfl⟩⟩,by rw [hpn],by rw [Jaa hpn]; exact (hu.sel [1,1,1,1,1] rfl).osl0.sel [1,1,1,1,0,0] rfl⟩)))))
  have hop:actG G m=false∨(decide ((nth G.rm.acs.l m.n).lk < 0) || Jdj G.p rd (nth G.rm.acs.l m.n).lk)=true:=by first | exact .inl hac | exact .inr (by simpa using hc1) | exact .inr (by simpa [Bool.not_eq_false] using hc1)
  refine Ck (Qc (Cs ?_))
  refine CS.drawnTill 16 (k:=18) mixed rfl rfl ?_
  refine Tr 18 [0,1,2,3] ?_
  refine Tk 18 4 [5,6,7,8] rfl (Bc 1) ?_
  refine Tk 18 9 [] rfl (Bc 1) ?_
  refine Tk 18 10 [] rfl (Bb 0) ?_
  refine AT.two (i:=11) (j:=15) (by kernel_rfl) rfl rfl (by first | (intro h; exact absurd h (by decide)) | exact fun _ _ h=>h | exact fun _ _ h=>h.sub (by repeat first | exact List.Sublist.refl _ | apply List.Sublist.cons_cons | apply List.Sublist.cons)) rfl rfl ?_ ?_
  ·
   refine Wc rfl rfl Jwd (fun u hu=>Ji9 G.rm u (hG.rm.st hu) g (hW.st hu) hn.rm z (hZ.get (j:=4) rfl hu) m) (fun _=>rfl) ?_; rintro y ⟨hyx,uy,hyok⟩
   obtain ⟨hya,hyb,hyc⟩:=hyok.ones
   refine Wd (Qt ?_)
   refine Tr 18 [12,13] ?_
   refine AT.two (i:=14) (j:=15) (by kernel_rfl) rfl rfl (by first | (intro h; exact absurd h (by decide)) | exact fun _ _ h=>h | exact fun _ _ h=>h.sub (by repeat first | exact List.Sublist.refl _ | apply List.Sublist.cons_cons | apply List.Sublist.cons)) rfl rfl ?_ ?_
   ·
    refine Wz 1 ?_
    refine Wd (Qt ?_)
    refine To 15 rfl ?_
    refine Wl 0 zv94 (fun _=>rfl) (fun _=>rfl) fun b5 hb5=>?_
    refine Wd (Qt ?_)
    refine To 16 rfl ?_
    refine Wv 0 0 ?_
    refine Wd (Qt ?_)
    refine To 17 rfl ?_
    refine Wz 1 ?_
    refine Wd (Qt ?_)
    refine Te ?_
    refine Qc (Cs (Nz 2 ?_))
    refine Wd (Qc (CS.cond rfl ?_ ?_))<;>intro hc2<;>try simp only [bq] at hc2
    ·
     have hpn:Ja6 G.p (z.x,rd) m=false:=Jby hS hc2
     refine Nz 1 ?_
     exact Wd (Qc (Cr (Qr (out1 rfl rfl (by first | exact fun u hu=>⟨(y,f2,roS fun u=>SttOk u y,Z),⟨by rw [hsr],HasZ.ro,by rw [hsr]; exact hf2,.inl ⟨hpy,rfl⟩⟩,by rw [hpy],by rw [hsr]; exact hu⟩ | exact fun u hu=>⟨(z,f1,Z,Go.Proofs.YtfbfdnoodccgiaaGreatDoor.osl 0 1 (.slice none 0 0) 0 []),⟨by rw [Jaa hpn],hZ,by rw [Jaa hpn]; exact hf1,.inr ⟨hpn,rfl⟩⟩,by rw [hpn],by rw [Jaa hpn]; exact (hu.sel [3,3,3,3,3] rfl).osl0.sel [1,1,1,1,0,0] rfl⟩ | exact fun u hu=>⟨(z,f,Z,Go.Proofs.YtfbfdnoodccgiaaGreatDoor.osl 0 1 (.slice none 0 0) 0 []),⟨by rw [Jaa hpn],hZ,by rw [Jaa hpn]; exact hf,.inr ⟨hpn,rfl⟩⟩,by rw [hpn],by rw [Jaa hpn]; exact (hu.sel [3,3,3,3,3] rfl).osl0.sel [1,1,1,1,0,0] rfl⟩)))))
    have hpy:Ja6 G.p (z.x,rd) m=true:=Jcd hR hI hS hc2 hop
    have hsr:Jb7 G.p (z.x,rd) m=(y.x,Jb3 G.p y.x rd):=by rw [Jbc hpy]; unfold Jcw; rw [← (Ja3 hS).2 hc2, ← hyx]
    have hIy:StIn G.rm y.x:=by rw [hyx]; exact Jca hR hI hS hc2
    refine Ck (Qc (Nz 1 ?_))
    refine Wk 3 (Bb 0) ?_
    refine WS.storeP rfl (j:=3) rfl rfl rfl (by simp [hya,hyb,hyc]) tk94 rfl rfl ?_; refine WS.sel [3,3,3,1,2,2] rfl ?_
    refine Wd (Qc (Nz 1 ?_))
    refine WS.callS rfl rfl Jf9 (fun u hu=>Jc2 [] [Z,R] G hG hn g hW hV tb mb y (roS fun u=>SttOk u y) HasZ.ro hIy rv rd hl _ (by assumption) hu) (fun _=>rfl) ?_; rintro f2 hf2
    refine Wd (Qc (Nz 1 ?_))
    exact Wd (Qc (Cr (out1 rfl rfl (by first | exact fun u hu=>⟨(y,f2,roS fun u=>SttOk u y,Z),⟨by rw [hsr],HasZ.ro,by rw [hsr]; exact hf2,.inl ⟨hpy,rfl⟩⟩,by rw [hpy],by rw [hsr]; exact hu⟩ | exact fun u hu=>⟨(z,f1,Z,Go.Proofs.YtfbfdnoodccgiaaGreatDoor.osl 0 1 (.slice none 0 0) 0 []),⟨by rw [Jaa hpn],hZ,by rw [Jaa hpn]; exact hf1,.inr ⟨hpn,rfl⟩⟩,by rw [hpn],by rw [Jaa hpn]; exact (hu.sel [0,0,0,1,1] rfl).osl0.sel [1,1,1,1,0,0] rfl⟩ | exact fun u hu=>⟨(z,f,Z,Go.Proofs.YtfbfdnoodccgiaaGreatDoor.osl 0 1 (.slice none 0 0) 0 []),⟨by rw [Jaa hpn],hZ,by rw [Jaa hpn]; exact hf,.inr ⟨hpn,rfl⟩⟩,by rw [hpn],by rw [Jaa hpn]; exact (hu.sel [0,0,0,1,1] rfl).osl0.sel [1,1,1,1,0,0] rfl⟩))))
   refine Wl 0 zv94 (fun _=>rfl) (fun _=>rfl) fun b5 hb5=>?_
   refine Wd (Qt ?_)
   refine AT.two (i:=14) (j:=16) (by kernel_rfl) rfl rfl (by first | (intro h; exact absurd h (by decide)) | exact fun _ _ h=>h | exact fun _ _ h=>h.sub (by repeat first | exact List.Sublist.refl _ | apply List.Sublist.cons_cons | apply List.Sublist.cons)) rfl rfl ?_ ?_
   ·
    refine Wz 1 ?_
    refine Wd (Qt ?_)
    refine To 16 rfl ?_
    refine Wv 0 0 ?_
    refine Wd (Qt ?_)
    refine To 17 rfl ?_
    refine Wz 1 ?_
    refine Wd (Qt ?_)
    refine Te ?_
    refine Qc (Cs (Nz 2 ?_))
    refine Wd (Qc (CS.cond rfl ?_ ?_))<;>intro hc2<;>try simp only [bq] at hc2
    ·
     have hpn:Ja6 G.p (z.x,rd) m=false:=Jby hS hc2
     refine Nz 1 ?_
     exact Wd (Qc (Cr (Qr (out1 rfl rfl (by first | exact fun u hu=>⟨(y,f2,roS fun u=>SttOk u y,Z),⟨by rw [hsr],HasZ.ro,by rw [hsr]; exact hf2,.inl ⟨hpy,rfl⟩⟩,by rw [hpy],by rw [hsr]; exact hu⟩ | exact fun u hu=>⟨(z,f1,Z,Go.Proofs.YtfbfdnoodccgiaaGreatDoor.osl 0 1 (.slice none 0 0) 0 []),⟨by rw [Jaa hpn],hZ,by rw [Jaa hpn]; exact hf1,.inr ⟨hpn,rfl⟩⟩,by rw [hpn],by rw [Jaa hpn]; exact (hu.sel [3,3,3,3,3] rfl).osl0.sel [1,1,1,1,0,0] rfl⟩ | exact fun u hu=>⟨(z,f,Z,Go.Proofs.YtfbfdnoodccgiaaGreatDoor.osl 0 1 (.slice none 0 0) 0 []),⟨by rw [Jaa hpn],hZ,by rw [Jaa hpn]; exact hf,.inr ⟨hpn,rfl⟩⟩,by rw [hpn],by rw [Jaa hpn]; exact (hu.sel [3,3,3,3,3] rfl).osl0.sel [1,1,1,1,0,0] rfl⟩)))))
    have hpy:Ja6 G.p (z.x,rd) m=true:=Jcd hR hI hS hc2 hop
    have hsr:Jb7 G.p (z.x,rd) m=(y.x,Jb3 G.p y.x rd):=by rw [Jbc hpy]; unfold Jcw; rw [← (Ja3 hS).2 hc2, ← hyx]
    have hIy:StIn G.rm y.x:=by rw [hyx]; exact Jca hR hI hS hc2
    refine Ck (Qc (Nz 1 ?_))
    refine Wk 3 (Bb 0) ?_
    refine WS.storeP rfl (j:=3) rfl rfl rfl (by simp [hya,hyb,hyc]) tk94 rfl rfl ?_; refine WS.sel [3,3,3,1,2,2] rfl ?_
    refine Wd (Qc (Nz 1 ?_))
    refine WS.callS rfl rfl Jf9 (fun u hu=>Jc2 [] [Z,R] G hG hn g hW hV tb mb y (roS fun u=>SttOk u y) HasZ.ro hIy rv rd hl _ (by assumption) hu) (fun _=>rfl) ?_; rintro f2 hf2
    refine Wd (Qc (Nz 1 ?_))
    exact Wd (Qc (Cr (out1 rfl rfl (by first | exact fun u hu=>⟨(y,f2,roS fun u=>SttOk u y,Z),⟨by rw [hsr],HasZ.ro,by rw [hsr]; exact hf2,.inl ⟨hpy,rfl⟩⟩,by rw [hpy],by rw [hsr]; exact hu⟩ | exact fun u hu=>⟨(z,f1,Z,Go.Proofs.YtfbfdnoodccgiaaGreatDoor.osl 0 1 (.slice none 0 0) 0 []),⟨by rw [Jaa hpn],hZ,by rw [Jaa hpn]; exact hf1,.inr ⟨hpn,rfl⟩⟩,by rw [hpn],by rw [Jaa hpn]; exact (hu.sel [0,0,0,1,1] rfl).osl0.sel [1,1,1,1,0,0] rfl⟩ | exact fun u hu=>⟨(z,f,Z,Go.Proofs.YtfbfdnoodccgiaaGreatDoor.osl 0 1 (.slice none 0 0) 0 []),⟨by rw [Jaa hpn],hZ,by rw [Jaa hpn]; exact hf,.inr ⟨hpn,rfl⟩⟩,by rw [hpn],by rw [Jaa hpn]; exact (hu.sel [0,0,0,1,1] rfl).osl0.sel [1,1,1,1,0,0] rfl⟩))))
   refine Wv 0 0 ?_
   refine Wd (Qt ?_)
   refine To 14 rfl ?_
   refine Wz 1 ?_
   refine Wd (Qt ?_)
   refine To 17 rfl ?_
   refine Wz 1 ?_
   refine Wd (Qt ?_)
   refine Te ?_
   refine Qc (Cs (Nz 2 ?_))
   refine Wd (Qc (CS.cond rfl ?_ ?_))<;>intro hc2<;>try simp only [bq] at hc2
   ·
    have hpn:Ja6 G.p (z.x,rd) m=false:=Jby hS hc2
    refine Nz 1 ?_
    exact Wd (Qc (Cr (Qr (out1 rfl rfl (by first | exact fun u hu=>⟨(y,f2,roS fun u=>SttOk u y,Z),⟨by rw [hsr],HasZ.ro,by rw [hsr]; exact hf2,.inl ⟨hpy,rfl⟩⟩,by rw [hpy],by rw [hsr]; exact hu⟩ | exact fun u hu=>⟨(z,f1,Z,Go.Proofs.YtfbfdnoodccgiaaGreatDoor.osl 0 1 (.slice none 0 0) 0 []),⟨by rw [Jaa hpn],hZ,by rw [Jaa hpn]; exact hf1,.inr ⟨hpn,rfl⟩⟩,by rw [hpn],by rw [Jaa hpn]; exact (hu.sel [3,3,3,3,3] rfl).osl0.sel [1,1,1,1,0,0] rfl⟩ | exact fun u hu=>⟨(z,f,Z,Go.Proofs.YtfbfdnoodccgiaaGreatDoor.osl 0 1 (.slice none 0 0) 0 []),⟨by rw [Jaa hpn],hZ,by rw [Jaa hpn]; exact hf,.inr ⟨hpn,rfl⟩⟩,by rw [hpn],by rw [Jaa hpn]; exact (hu.sel [3,3,3,3,3] rfl).osl0.sel [1,1,1,1,0,0] rfl⟩)))))
   have hpy:Ja6 G.p (z.x,rd) m=true:=Jcd hR hI hS hc2 hop
   have hsr:Jb7 G.p (z.x,rd) m=(y.x,Jb3 G.p y.x rd):=by rw [Jbc hpy]; unfold Jcw; rw [← (Ja3 hS).2 hc2, ← hyx]
   have hIy:StIn G.rm y.x:=by rw [hyx]; exact Jca hR hI hS hc2
   refine Ck (Qc (Nz 1 ?_))
   refine Wk 3 (Bb 0) ?_
   refine WS.storeP rfl (j:=3) rfl rfl rfl (by simp [hya,hyb,hyc]) tk94 rfl rfl ?_; refine WS.sel [3,3,3,1,2,2] rfl ?_
   refine Wd (Qc (Nz 1 ?_))
   refine WS.callS rfl rfl Jf9 (fun u hu=>Jc2 [] [Z,R] G hG hn g hW hV tb mb y (roS fun u=>SttOk u y) HasZ.ro hIy rv rd hl _ (by assumption) hu) (fun _=>rfl) ?_; rintro f2 hf2
   refine Wd (Qc (Nz 1 ?_))
   exact Wd (Qc (Cr (out1 rfl rfl (by first | exact fun u hu=>⟨(y,f2,roS fun u=>SttOk u y,Z),⟨by rw [hsr],HasZ.ro,by rw [hsr]; exact hf2,.inl ⟨hpy,rfl⟩⟩,by rw [hpy],by rw [hsr]; exact hu⟩ | exact fun u hu=>⟨(z,f1,Z,Go.Proofs.YtfbfdnoodccgiaaGreatDoor.osl 0 1 (.slice none 0 0) 0 []),⟨by rw [Jaa hpn],hZ,by rw [Jaa hpn]; exact hf1,.inr ⟨hpn,rfl⟩⟩,by rw [hpn],by rw [Jaa hpn]; exact (hu.sel [0,0,0,1,1] rfl).osl0.sel [1,1,1,1,0,0] rfl⟩ | exact fun u hu=>⟨(z,f,Z,Go.Proofs.YtfbfdnoodccgiaaGreatDoor.osl 0 1 (.slice none 0 0) 0 []),⟨by rw [Jaa hpn],hZ,by rw [Jaa hpn]; exact hf,.inr ⟨hpn,rfl⟩⟩,by rw [hpn],by rw [Jaa hpn]; exact (hu.sel [0,0,0,1,1] rfl).osl0.sel [1,1,1,1,0,0] rfl⟩))))
  refine Wl 0 zv94 (fun _=>rfl) (fun _=>rfl) fun b5 hb5=>?_
  refine Wd (Qt ?_)
  refine To 11 rfl ?_
  refine Wc rfl rfl Jwd (fun u hu=>Ji9 G.rm u (hG.rm.st hu) g (hW.st hu) hn.rm z (hZ.get (j:=5) rfl hu) m) (fun _=>rfl) ?_; rintro y ⟨hyx,uy,hyok⟩
  obtain ⟨hya,hyb,hyc⟩:=hyok.ones
  refine Wd (Qt ?_)
  refine Tr 1 [12,13] ?_
  refine AT.two (i:=14) (j:=16) (by kernel_rfl) rfl rfl (by first | (intro h; exact absurd h (by decide)) | exact fun _ _ h=>h | exact fun _ _ h=>h.sub (by repeat first | exact List.Sublist.refl _ | apply List.Sublist.cons_cons | apply List.Sublist.cons)) rfl rfl ?_ ?_
  ·
   refine Wz 1 ?_
   refine Wd (Qt ?_)
   refine To 16 rfl ?_
   refine Wv 0 1 ?_
   refine Wd (Qt ?_)
   refine To 17 rfl ?_
   refine Wz 1 ?_
   refine Wd (Qt ?_)
   refine Te ?_
   refine Qc (Cs (Nz 2 ?_))
   refine Wd (Qc (CS.cond rfl ?_ ?_))<;>intro hc2<;>try simp only [bq] at hc2
   ·
    have hpn:Ja6 G.p (z.x,rd) m=false:=Jby hS hc2
    refine Nz 1 ?_
    exact Wd (Qc (Cr (Qr (out1 rfl rfl (by first | exact fun u hu=>⟨(y,f2,roS fun u=>SttOk u y,Z),⟨by rw [hsr],HasZ.ro,by rw [hsr]; exact hf2,.inl ⟨hpy,rfl⟩⟩,by rw [hpy],by rw [hsr]; exact hu⟩ | exact fun u hu=>⟨(z,f1,Z,Go.Proofs.YtfbfdnoodccgiaaGreatDoor.osl 0 1 (.slice none 0 0) 0 []),⟨by rw [Jaa hpn],hZ,by rw [Jaa hpn]; exact hf1,.inr ⟨hpn,rfl⟩⟩,by rw [hpn],by rw [Jaa hpn]; exact (hu.sel [3,3,3,3,3] rfl).osl0.sel [1,1,1,1,0,0] rfl⟩ | exact fun u hu=>⟨(z,f,Z,Go.Proofs.YtfbfdnoodccgiaaGreatDoor.osl 0 1 (.slice none 0 0) 0 []),⟨by rw [Jaa hpn],hZ,by rw [Jaa hpn]; exact hf,.inr ⟨hpn,rfl⟩⟩,by rw [hpn],by rw [Jaa hpn]; exact (hu.sel [3,3,3,3,3] rfl).osl0.sel [1,1,1,1,0,0] rfl⟩)))))
   have hpy:Ja6 G.p (z.x,rd) m=true:=Jcd hR hI hS hc2 hop
   have hsr:Jb7 G.p (z.x,rd) m=(y.x,Jb3 G.p y.x rd):=by rw [Jbc hpy]; unfold Jcw; rw [← (Ja3 hS).2 hc2, ← hyx]
   have hIy:StIn G.rm y.x:=by rw [hyx]; exact Jca hR hI hS hc2
   refine Ck (Qc (Nz 1 ?_))
   refine Wk 3 (Bb 1) ?_
   refine WS.storeP rfl (j:=3) rfl rfl rfl (by simp [hya,hyb,hyc]) tk94 rfl rfl ?_; refine WS.sel [3,3,3,0,2,2] rfl ?_
   refine Wd (Qc (Nz 1 ?_))
   refine WS.callS rfl rfl Jf9 (fun u hu=>Jc2 [] [Z,R] G hG hn g hW hV tb mb y (roS fun u=>SttOk u y) HasZ.ro hIy rv rd hl _ (by assumption) hu) (fun _=>rfl) ?_; rintro f2 hf2
   refine Wd (Qc (Nz 1 ?_))
   exact Wd (Qc (Cr (out1 rfl rfl (by first | exact fun u hu=>⟨(y,f2,roS fun u=>SttOk u y,Z),⟨by rw [hsr],HasZ.ro,by rw [hsr]; exact hf2,.inl ⟨hpy,rfl⟩⟩,by rw [hpy],by rw [hsr]; exact hu⟩ | exact fun u hu=>⟨(z,f1,Z,Go.Proofs.YtfbfdnoodccgiaaGreatDoor.osl 0 1 (.slice none 0 0) 0 []),⟨by rw [Jaa hpn],hZ,by rw [Jaa hpn]; exact hf1,.inr ⟨hpn,rfl⟩⟩,by rw [hpn],by rw [Jaa hpn]; exact (hu.sel [0,0,0,1,1] rfl).osl0.sel [1,1,1,1,0,0] rfl⟩ | exact fun u hu=>⟨(z,f,Z,Go.Proofs.YtfbfdnoodccgiaaGreatDoor.osl 0 1 (.slice none 0 0) 0 []),⟨by rw [Jaa hpn],hZ,by rw [Jaa hpn]; exact hf,.inr ⟨hpn,rfl⟩⟩,by rw [hpn],by rw [Jaa hpn]; exact (hu.sel [0,0,0,1,1] rfl).osl0.sel [1,1,1,1,0,0] rfl⟩))))
  refine Wv 0 1 ?_
  refine Wd (Qt ?_)
  refine To 14 rfl ?_
  refine Wz 1 ?_
  refine Wd (Qt ?_)
  refine To 17 rfl ?_
  refine Wz 1 ?_
  refine Wd (Qt ?_)
  refine Te ?_
  refine Qc (Cs (Nz 2 ?_))
  refine Wd (Qc (CS.cond rfl ?_ ?_))<;>intro hc2<;>try simp only [bq] at hc2
  ·
   have hpn:Ja6 G.p (z.x,rd) m=false:=Jby hS hc2
   refine Nz 1 ?_
   exact Wd (Qc (Cr (Qr (out1 rfl rfl (by first | exact fun u hu=>⟨(y,f2,roS fun u=>SttOk u y,Z),⟨by rw [hsr],HasZ.ro,by rw [hsr]; exact hf2,.inl ⟨hpy,rfl⟩⟩,by rw [hpy],by rw [hsr]; exact hu⟩ | exact fun u hu=>⟨(z,f1,Z,Go.Proofs.YtfbfdnoodccgiaaGreatDoor.osl 0 1 (.slice none 0 0) 0 []),⟨by rw [Jaa hpn],hZ,by rw [Jaa hpn]; exact hf1,.inr ⟨hpn,rfl⟩⟩,by rw [hpn],by rw [Jaa hpn]; exact (hu.sel [3,3,3,3,3] rfl).osl0.sel [1,1,1,1,0,0] rfl⟩ | exact fun u hu=>⟨(z,f,Z,Go.Proofs.YtfbfdnoodccgiaaGreatDoor.osl 0 1 (.slice none 0 0) 0 []),⟨by rw [Jaa hpn],hZ,by rw [Jaa hpn]; exact hf,.inr ⟨hpn,rfl⟩⟩,by rw [hpn],by rw [Jaa hpn]; exact (hu.sel [3,3,3,3,3] rfl).osl0.sel [1,1,1,1,0,0] rfl⟩)))))
  have hpy:Ja6 G.p (z.x,rd) m=true:=Jcd hR hI hS hc2 hop
  have hsr:Jb7 G.p (z.x,rd) m=(y.x,Jb3 G.p y.x rd):=by rw [Jbc hpy]; unfold Jcw; rw [← (Ja3 hS).2 hc2, ← hyx]
  have hIy:StIn G.rm y.x:=by rw [hyx]; exact Jca hR hI hS hc2
  refine Ck (Qc (Nz 1 ?_))
  refine Wk 3 (Bb 1) ?_
  refine WS.storeP rfl (j:=3) rfl rfl rfl (by simp [hya,hyb,hyc]) tk94 rfl rfl ?_; refine WS.sel [3,3,3,0,2,2] rfl ?_
  refine Wd (Qc (Nz 1 ?_))
  refine WS.callS rfl rfl Jf9 (fun u hu=>Jc2 [] [Z,R] G hG hn g hW hV tb mb y (roS fun u=>SttOk u y) HasZ.ro hIy rv rd hl _ (by assumption) hu) (fun _=>rfl) ?_; rintro f2 hf2
  refine Wd (Qc (Nz 1 ?_))
  exact Wd (Qc (Cr (out1 rfl rfl (by first | exact fun u hu=>⟨(y,f2,roS fun u=>SttOk u y,Z),⟨by rw [hsr],HasZ.ro,by rw [hsr]; exact hf2,.inl ⟨hpy,rfl⟩⟩,by rw [hpy],by rw [hsr]; exact hu⟩ | exact fun u hu=>⟨(z,f1,Z,Go.Proofs.YtfbfdnoodccgiaaGreatDoor.osl 0 1 (.slice none 0 0) 0 []),⟨by rw [Jaa hpn],hZ,by rw [Jaa hpn]; exact hf1,.inr ⟨hpn,rfl⟩⟩,by rw [hpn],by rw [Jaa hpn]; exact (hu.sel [0,0,0,1,1] rfl).osl0.sel [1,1,1,1,0,0] rfl⟩ | exact fun u hu=>⟨(z,f,Z,Go.Proofs.YtfbfdnoodccgiaaGreatDoor.osl 0 1 (.slice none 0 0) 0 []),⟨by rw [Jaa hpn],hZ,by rw [Jaa hpn]; exact hf,.inr ⟨hpn,rfl⟩⟩,by rw [hpn],by rw [Jaa hpn]; exact (hu.sel [0,0,0,1,1] rfl).osl0.sel [1,1,1,1,0,0] rfl⟩))))
 have hac:actG G m=false:=hb
 refine Dr mixed 1 ?_
 refine Dk 2 (Ba 0) ?_
 refine Dt 0 rfl rfl (fun hg=>Ff) ?_
 refine Dt 0 rfl rfl (fun hg=>Ba 0) ?_
 refine Dt 0 rfl rfl (fun hg=>Fm) ?_
 refine Dt 0 rfl rfl (fun hg=>Fc) ?_
 refine Dt 0 rfl rfl (fun hg=>Ff) ?_
 refine Dt 0 rfl rfl (fun hg=>Ff) ?_
 refine Dt 0 rfl rfl (fun hg=>Ff) ?_
 refine Dt 0 rfl rfl (fun hg=>Ba 1) ?_
 refine Dt 0 rfl rfl (fun hg=>Nc (eg_ hg rfl)) ?_
 refine Dt 0 rfl rfl (fun hg=>Zb) ?_
 refine Dt 0 rfl rfl (fun hg=>Cb rfl (ec_ (eg_ hg rfl) (ec_ rfl (ec_ (eg_ hg rfl) en_))) Jld (fun u hu=>Jct _ _ _ u)) ?_
 refine Dk 1 Pa ?_
 refine Dt 0 rfl rfl (fun hg=>Fy hb hg) ?_
 refine Dt 0 rfl rfl (fun hg=>Fy hb hg) ?_
 refine Dt 0 rfl rfl (fun hg=>Fy hb hg) ?_
 refine Dt 0 rfl rfl (fun hg=>Fy hb hg) ?_
 refine Dt 0 rfl rfl (fun hg=>Fy hb hg) ?_
 refine Dt 0 rfl rfl (fun hg=>Fy hb hg) ?_
 refine Dt 0 rfl rfl (fun hg=>Fy hb hg) ?_
 refine Dt 0 rfl rfl (fun hg=>Fy hb hg) ?_
 refine Dt 0 rfl rfl (fun hg=>Fy hb hg) ?_
 refine Dt 0 rfl rfl (fun hg=>Fy hb hg) ?_
 refine Dt 0 rfl rfl (fun hg=>Fy hb hg) ?_
 refine Dt 0 rfl rfl (fun hg=>Fy hb hg) ?_
 refine Dt 0 rfl rfl (fun hg=>Fy hb hg) ?_
 refine Dt 0 rfl rfl (fun hg=>Fz hb hg) ?_
 refine Dk 0 Pa ?_
 refine Dd (Qc (CS.cond rfl ?_ ?_))<;>intro hc1<;>try simp only [bq] at hc1
 ·
  have hpn:Ja6 G.p (z.x,rd) m=false:=by first | exact Jkh hac (by simpa using hc1) | (exfalso; simp [hb] at hc1; done) | (exfalso; rw [hb] at hc1; simp at hc1; done)
  refine Nz 1 ?_
  exact Wd (Qc (Cr (Qr (out1 rfl rfl (by first | exact fun u hu=>⟨(y,f2,roS fun u=>SttOk u y,Z),⟨by rw [hsr],HasZ.ro,by rw [hsr]; exact hf2,.inl ⟨hpy,rfl⟩⟩,by rw [hpy],by rw [hsr]; exact hu⟩ | exact fun u hu=>⟨(z,f1,Z,Go.Proofs.YtfbfdnoodccgiaaGreatDoor.osl 0 1 (.slice none 0 0) 0 []),⟨by rw [Jaa hpn],hZ,by rw [Jaa hpn]; exact hf1,.inr ⟨hpn,rfl⟩⟩,by rw [hpn],by rw [Jaa hpn]; exact (hu.sel [1,1,1,1,1] rfl).osl0.sel [1,1,1,1,0,0] rfl⟩ | exact fun u hu=>⟨(z,f,Z,Go.Proofs.YtfbfdnoodccgiaaGreatDoor.osl 0 1 (.slice none 0 0) 0 []),⟨by rw [Jaa hpn],hZ,by rw [Jaa hpn]; exact hf,.inr ⟨hpn,rfl⟩⟩,by rw [hpn],by rw [Jaa hpn]; exact (hu.sel [1,1,1,1,1] rfl).osl0.sel [1,1,1,1,0,0] rfl⟩)))))
 have hop:actG G m=false∨(decide ((nth G.rm.acs.l m.n).lk < 0) || Jdj G.p rd (nth G.rm.acs.l m.n).lk)=true:=by first | exact .inl hac | exact .inr (by simpa using hc1) | exact .inr (by simpa [Bool.not_eq_false] using hc1)
 refine Ck (Qc (Cs ?_))
 refine CS.drawnTill 16 (k:=18) mixed rfl rfl ?_
 refine Tr 18 [0,1,2,3] ?_
 refine Tk 18 4 [5,6,7,8] rfl (Bc 1) ?_
 refine Tk 18 9 [] rfl (Bc 1) ?_
 refine Tk 18 10 [] rfl (Bb 0) ?_
 refine AT.two (i:=11) (j:=15) (by kernel_rfl) rfl rfl (by first | (intro h; exact absurd h (by decide)) | exact fun _ _ h=>h | exact fun _ _ h=>h.sub (by repeat first | exact List.Sublist.refl _ | apply List.Sublist.cons_cons | apply List.Sublist.cons)) rfl rfl ?_ ?_
 ·
  refine Wc rfl rfl Jwd (fun u hu=>Ji9 G.rm u (hG.rm.st hu) g (hW.st hu) hn.rm z (hZ.get (j:=4) rfl hu) m) (fun _=>rfl) ?_; rintro y ⟨hyx,uy,hyok⟩
  obtain ⟨hya,hyb,hyc⟩:=hyok.ones
  refine Wd (Qt ?_)
  refine Tr 18 [12,13] ?_
  refine AT.two (i:=14) (j:=15) (by kernel_rfl) rfl rfl (by first | (intro h; exact absurd h (by decide)) | exact fun _ _ h=>h | exact fun _ _ h=>h.sub (by repeat first | exact List.Sublist.refl _ | apply List.Sublist.cons_cons | apply List.Sublist.cons)) rfl rfl ?_ ?_
  ·
   refine Wz 1 ?_
   refine Wd (Qt ?_)
   refine To 15 rfl ?_
   refine Wl 0 zv94 (fun _=>rfl) (fun _=>rfl) fun b5 hb5=>?_
   refine Wd (Qt ?_)
   refine To 16 rfl ?_
   refine Wv 0 0 ?_
   refine Wd (Qt ?_)
   refine To 17 rfl ?_
   refine Wz 1 ?_
   refine Wd (Qt ?_)
   refine Te ?_
   refine Qc (Cs (Nz 2 ?_))
   refine Wd (Qc (CS.cond rfl ?_ ?_))<;>intro hc2<;>try simp only [bq] at hc2
   ·
    have hpn:Ja6 G.p (z.x,rd) m=false:=Jby hS hc2
    refine Nz 1 ?_
    exact Wd (Qc (Cr (Qr (out1 rfl rfl (by first | exact fun u hu=>⟨(y,f2,roS fun u=>SttOk u y,Z),⟨by rw [hsr],HasZ.ro,by rw [hsr]; exact hf2,.inl ⟨hpy,rfl⟩⟩,by rw [hpy],by rw [hsr]; exact hu⟩ | exact fun u hu=>⟨(z,f1,Z,Go.Proofs.YtfbfdnoodccgiaaGreatDoor.osl 0 1 (.slice none 0 0) 0 []),⟨by rw [Jaa hpn],hZ,by rw [Jaa hpn]; exact hf1,.inr ⟨hpn,rfl⟩⟩,by rw [hpn],by rw [Jaa hpn]; exact (hu.sel [3,3,3,3,3] rfl).osl0.sel [1,1,1,1,0,0] rfl⟩ | exact fun u hu=>⟨(z,f,Z,Go.Proofs.YtfbfdnoodccgiaaGreatDoor.osl 0 1 (.slice none 0 0) 0 []),⟨by rw [Jaa hpn],hZ,by rw [Jaa hpn]; exact hf,.inr ⟨hpn,rfl⟩⟩,by rw [hpn],by rw [Jaa hpn]; exact (hu.sel [3,3,3,3,3] rfl).osl0.sel [1,1,1,1,0,0] rfl⟩)))))
   have hpy:Ja6 G.p (z.x,rd) m=true:=Jcd hR hI hS hc2 hop
   have hsr:Jb7 G.p (z.x,rd) m=(y.x,Jb3 G.p y.x rd):=by rw [Jbc hpy]; unfold Jcw; rw [← (Ja3 hS).2 hc2, ← hyx]
   have hIy:StIn G.rm y.x:=by rw [hyx]; exact Jca hR hI hS hc2
   refine Ck (Qc (Nz 1 ?_))
   refine Wk 3 (Bb 0) ?_
   refine WS.storeP rfl (j:=3) rfl rfl rfl (by simp [hya,hyb,hyc]) tk94 rfl rfl ?_; refine WS.sel [3,3,3,1,2,2] rfl ?_
   refine Wd (Qc (Nz 1 ?_))
   refine WS.callS rfl rfl Jf9 (fun u hu=>Jc2 [] [Z,R] G hG hn g hW hV tb mb y (roS fun u=>SttOk u y) HasZ.ro hIy rv rd hl _ (by assumption) hu) (fun _=>rfl) ?_; rintro f2 hf2
   refine Wd (Qc (Nz 1 ?_))
   exact Wd (Qc (Cr (out1 rfl rfl (by first | exact fun u hu=>⟨(y,f2,roS fun u=>SttOk u y,Z),⟨by rw [hsr],HasZ.ro,by rw [hsr]; exact hf2,.inl ⟨hpy,rfl⟩⟩,by rw [hpy],by rw [hsr]; exact hu⟩ | exact fun u hu=>⟨(z,f1,Z,Go.Proofs.YtfbfdnoodccgiaaGreatDoor.osl 0 1 (.slice none 0 0) 0 []),⟨by rw [Jaa hpn],hZ,by rw [Jaa hpn]; exact hf1,.inr ⟨hpn,rfl⟩⟩,by rw [hpn],by rw [Jaa hpn]; exact (hu.sel [0,0,0,1,1] rfl).osl0.sel [1,1,1,1,0,0] rfl⟩ | exact fun u hu=>⟨(z,f,Z,Go.Proofs.YtfbfdnoodccgiaaGreatDoor.osl 0 1 (.slice none 0 0) 0 []),⟨by rw [Jaa hpn],hZ,by rw [Jaa hpn]; exact hf,.inr ⟨hpn,rfl⟩⟩,by rw [hpn],by rw [Jaa hpn]; exact (hu.sel [0,0,0,1,1] rfl).osl0.sel [1,1,1,1,0,0] rfl⟩))))
  refine Wl 0 zv94 (fun _=>rfl) (fun _=>rfl) fun b5 hb5=>?_
  refine Wd (Qt ?_)
  refine AT.two (i:=14) (j:=16) (by kernel_rfl) rfl rfl (by first | (intro h; exact absurd h (by decide)) | exact fun _ _ h=>h | exact fun _ _ h=>h.sub (by repeat first | exact List.Sublist.refl _ | apply List.Sublist.cons_cons | apply List.Sublist.cons)) rfl rfl ?_ ?_
  ·
   refine Wz 1 ?_
   refine Wd (Qt ?_)
   refine To 16 rfl ?_
   refine Wv 0 0 ?_
   refine Wd (Qt ?_)
   refine To 17 rfl ?_
   refine Wz 1 ?_
   refine Wd (Qt ?_)
   refine Te ?_
   refine Qc (Cs (Nz 2 ?_))
   refine Wd (Qc (CS.cond rfl ?_ ?_))<;>intro hc2<;>try simp only [bq] at hc2
   ·
    have hpn:Ja6 G.p (z.x,rd) m=false:=Jby hS hc2
    refine Nz 1 ?_
    exact Wd (Qc (Cr (Qr (out1 rfl rfl (by first | exact fun u hu=>⟨(y,f2,roS fun u=>SttOk u y,Z),⟨by rw [hsr],HasZ.ro,by rw [hsr]; exact hf2,.inl ⟨hpy,rfl⟩⟩,by rw [hpy],by rw [hsr]; exact hu⟩ | exact fun u hu=>⟨(z,f1,Z,Go.Proofs.YtfbfdnoodccgiaaGreatDoor.osl 0 1 (.slice none 0 0) 0 []),⟨by rw [Jaa hpn],hZ,by rw [Jaa hpn]; exact hf1,.inr ⟨hpn,rfl⟩⟩,by rw [hpn],by rw [Jaa hpn]; exact (hu.sel [3,3,3,3,3] rfl).osl0.sel [1,1,1,1,0,0] rfl⟩ | exact fun u hu=>⟨(z,f,Z,Go.Proofs.YtfbfdnoodccgiaaGreatDoor.osl 0 1 (.slice none 0 0) 0 []),⟨by rw [Jaa hpn],hZ,by rw [Jaa hpn]; exact hf,.inr ⟨hpn,rfl⟩⟩,by rw [hpn],by rw [Jaa hpn]; exact (hu.sel [3,3,3,3,3] rfl).osl0.sel [1,1,1,1,0,0] rfl⟩)))))
   have hpy:Ja6 G.p (z.x,rd) m=true:=Jcd hR hI hS hc2 hop
   have hsr:Jb7 G.p (z.x,rd) m=(y.x,Jb3 G.p y.x rd):=by rw [Jbc hpy]; unfold Jcw; rw [← (Ja3 hS).2 hc2, ← hyx]
   have hIy:StIn G.rm y.x:=by rw [hyx]; exact Jca hR hI hS hc2
   refine Ck (Qc (Nz 1 ?_))
   refine Wk 3 (Bb 0) ?_
   refine WS.storeP rfl (j:=3) rfl rfl rfl (by simp [hya,hyb,hyc]) tk94 rfl rfl ?_; refine WS.sel [3,3,3,1,2,2] rfl ?_
   refine Wd (Qc (Nz 1 ?_))
   refine WS.callS rfl rfl Jf9 (fun u hu=>Jc2 [] [Z,R] G hG hn g hW hV tb mb y (roS fun u=>SttOk u y) HasZ.ro hIy rv rd hl _ (by assumption) hu) (fun _=>rfl) ?_; rintro f2 hf2
   refine Wd (Qc (Nz 1 ?_))
   exact Wd (Qc (Cr (out1 rfl rfl (by first | exact fun u hu=>⟨(y,f2,roS fun u=>SttOk u y,Z),⟨by rw [hsr],HasZ.ro,by rw [hsr]; exact hf2,.inl ⟨hpy,rfl⟩⟩,by rw [hpy],by rw [hsr]; exact hu⟩ | exact fun u hu=>⟨(z,f1,Z,Go.Proofs.YtfbfdnoodccgiaaGreatDoor.osl 0 1 (.slice none 0 0) 0 []),⟨by rw [Jaa hpn],hZ,by rw [Jaa hpn]; exact hf1,.inr ⟨hpn,rfl⟩⟩,by rw [hpn],by rw [Jaa hpn]; exact (hu.sel [0,0,0,1,1] rfl).osl0.sel [1,1,1,1,0,0] rfl⟩ | exact fun u hu=>⟨(z,f,Z,Go.Proofs.YtfbfdnoodccgiaaGreatDoor.osl 0 1 (.slice none 0 0) 0 []),⟨by rw [Jaa hpn],hZ,by rw [Jaa hpn]; exact hf,.inr ⟨hpn,rfl⟩⟩,by rw [hpn],by rw [Jaa hpn]; exact (hu.sel [0,0,0,1,1] rfl).osl0.sel [1,1,1,1,0,0] rfl⟩))))
  refine Wv 0 0 ?_
  refine Wd (Qt ?_)
  refine To 14 rfl ?_
  refine Wz 1 ?_
  refine Wd (Qt ?_)
  refine To 17 rfl ?_
  refine Wz 1 ?_
  refine Wd (Qt ?_)
  refine Te ?_
  refine Qc (Cs (Nz 2 ?_))
  refine Wd (Qc (CS.cond rfl ?_ ?_))<;>intro hc2<;>try simp only [bq] at hc2
  ·
   have hpn:Ja6 G.p (z.x,rd) m=false:=Jby hS hc2
   refine Nz 1 ?_
   exact Wd (Qc (Cr (Qr (out1 rfl rfl (by first | exact fun u hu=>⟨(y,f2,roS fun u=>SttOk u y,Z),⟨by rw [hsr],HasZ.ro,by rw [hsr]; exact hf2,.inl ⟨hpy,rfl⟩⟩,by rw [hpy],by rw [hsr]; exact hu⟩ | exact fun u hu=>⟨(z,f1,Z,Go.Proofs.YtfbfdnoodccgiaaGreatDoor.osl 0 1 (.slice none 0 0) 0 []),⟨by rw [Jaa hpn],hZ,by rw [Jaa hpn]; exact hf1,.inr ⟨hpn,rfl⟩⟩,by rw [hpn],by rw [Jaa hpn]; exact (hu.sel [3,3,3,3,3] rfl).osl0.sel [1,1,1,1,0,0] rfl⟩ | exact fun u hu=>⟨(z,f,Z,Go.Proofs.YtfbfdnoodccgiaaGreatDoor.osl 0 1 (.slice none 0 0) 0 []),⟨by rw [Jaa hpn],hZ,by rw [Jaa hpn]; exact hf,.inr ⟨hpn,rfl⟩⟩,by rw [hpn],by rw [Jaa hpn]; exact (hu.sel [3,3,3,3,3] rfl).osl0.sel [1,1,1,1,0,0] rfl⟩)))))
  have hpy:Ja6 G.p (z.x,rd) m=true:=Jcd hR hI hS hc2 hop
  have hsr:Jb7 G.p (z.x,rd) m=(y.x,Jb3 G.p y.x rd):=by rw [Jbc hpy]; unfold Jcw; rw [← (Ja3 hS).2 hc2, ← hyx]
  have hIy:StIn G.rm y.x:=by rw [hyx]; exact Jca hR hI hS hc2
  refine Ck (Qc (Nz 1 ?_))
  refine Wk 3 (Bb 0) ?_
  refine WS.storeP rfl (j:=3) rfl rfl rfl (by simp [hya,hyb,hyc]) tk94 rfl rfl ?_; refine WS.sel [3,3,3,1,2,2] rfl ?_
  refine Wd (Qc (Nz 1 ?_))
  refine WS.callS rfl rfl Jf9 (fun u hu=>Jc2 [] [Z,R] G hG hn g hW hV tb mb y (roS fun u=>SttOk u y) HasZ.ro hIy rv rd hl _ (by assumption) hu) (fun _=>rfl) ?_; rintro f2 hf2
  refine Wd (Qc (Nz 1 ?_))
  exact Wd (Qc (Cr (out1 rfl rfl (by first | exact fun u hu=>⟨(y,f2,roS fun u=>SttOk u y,Z),⟨by rw [hsr],HasZ.ro,by rw [hsr]; exact hf2,.inl ⟨hpy,rfl⟩⟩,by rw [hpy],by rw [hsr]; exact hu⟩ | exact fun u hu=>⟨(z,f1,Z,Go.Proofs.YtfbfdnoodccgiaaGreatDoor.osl 0 1 (.slice none 0 0) 0 []),⟨by rw [Jaa hpn],hZ,by rw [Jaa hpn]; exact hf1,.inr ⟨hpn,rfl⟩⟩,by rw [hpn],by rw [Jaa hpn]; exact (hu.sel [0,0,0,1,1] rfl).osl0.sel [1,1,1,1,0,0] rfl⟩ | exact fun u hu=>⟨(z,f,Z,Go.Proofs.YtfbfdnoodccgiaaGreatDoor.osl 0 1 (.slice none 0 0) 0 []),⟨by rw [Jaa hpn],hZ,by rw [Jaa hpn]; exact hf,.inr ⟨hpn,rfl⟩⟩,by rw [hpn],by rw [Jaa hpn]; exact (hu.sel [0,0,0,1,1] rfl).osl0.sel [1,1,1,1,0,0] rfl⟩))))
 refine Wl 0 zv94 (fun _=>rfl) (fun _=>rfl) fun b5 hb5=>?_
 refine Wd (Qt ?_)
 refine To 11 rfl ?_
 refine Wc rfl rfl Jwd (fun u hu=>Ji9 G.rm u (hG.rm.st hu) g (hW.st hu) hn.rm z (hZ.get (j:=5) rfl hu) m) (fun _=>rfl) ?_; rintro y ⟨hyx,uy,hyok⟩
 obtain ⟨hya,hyb,hyc⟩:=hyok.ones
 refine Wd (Qt ?_)
 refine Tr 1 [12,13] ?_
 refine AT.two (i:=14) (j:=16) (by kernel_rfl) rfl rfl (by first | (intro h; exact absurd h (by decide)) | exact fun _ _ h=>h | exact fun _ _ h=>h.sub (by repeat first | exact List.Sublist.refl _ | apply List.Sublist.cons_cons | apply List.Sublist.cons)) rfl rfl ?_ ?_
 ·
  refine Wz 1 ?_
  refine Wd (Qt ?_)
  refine To 16 rfl ?_
  refine Wv 0 1 ?_
  refine Wd (Qt ?_)
  refine To 17 rfl ?_
  refine Wz 1 ?_
  refine Wd (Qt ?_)
  refine Te ?_
  refine Qc (Cs (Nz 2 ?_))
  refine Wd (Qc (CS.cond rfl ?_ ?_))<;>intro hc2<;>try simp only [bq] at hc2
  ·
   have hpn:Ja6 G.p (z.x,rd) m=false:=Jby hS hc2
   refine Nz 1 ?_
   exact Wd (Qc (Cr (Qr (out1 rfl rfl (by first | exact fun u hu=>⟨(y,f2,roS fun u=>SttOk u y,Z),⟨by rw [hsr],HasZ.ro,by rw [hsr]; exact hf2,.inl ⟨hpy,rfl⟩⟩,by rw [hpy],by rw [hsr]; exact hu⟩ | exact fun u hu=>⟨(z,f1,Z,Go.Proofs.YtfbfdnoodccgiaaGreatDoor.osl 0 1 (.slice none 0 0) 0 []),⟨by rw [Jaa hpn],hZ,by rw [Jaa hpn]; exact hf1,.inr ⟨hpn,rfl⟩⟩,by rw [hpn],by rw [Jaa hpn]; exact (hu.sel [3,3,3,3,3] rfl).osl0.sel [1,1,1,1,0,0] rfl⟩ | exact fun u hu=>⟨(z,f,Z,Go.Proofs.YtfbfdnoodccgiaaGreatDoor.osl 0 1 (.slice none 0 0) 0 []),⟨by rw [Jaa hpn],hZ,by rw [Jaa hpn]; exact hf,.inr ⟨hpn,rfl⟩⟩,by rw [hpn],by rw [Jaa hpn]; exact (hu.sel [3,3,3,3,3] rfl).osl0.sel [1,1,1,1,0,0] rfl⟩)))))
  have hpy:Ja6 G.p (z.x,rd) m=true:=Jcd hR hI hS hc2 hop
  have hsr:Jb7 G.p (z.x,rd) m=(y.x,Jb3 G.p y.x rd):=by rw [Jbc hpy]; unfold Jcw; rw [← (Ja3 hS).2 hc2, ← hyx]
  have hIy:StIn G.rm y.x:=by rw [hyx]; exact Jca hR hI hS hc2
  refine Ck (Qc (Nz 1 ?_))
  refine Wk 3 (Bb 1) ?_
  refine WS.storeP rfl (j:=3) rfl rfl rfl (by simp [hya,hyb,hyc]) tk94 rfl rfl ?_; refine WS.sel [3,3,3,0,2,2] rfl ?_
  refine Wd (Qc (Nz 1 ?_))
  refine WS.callS rfl rfl Jf9 (fun u hu=>Jc2 [] [Z,R] G hG hn g hW hV tb mb y (roS fun u=>SttOk u y) HasZ.ro hIy rv rd hl _ (by assumption) hu) (fun _=>rfl) ?_; rintro f2 hf2
  refine Wd (Qc (Nz 1 ?_))
  exact Wd (Qc (Cr (out1 rfl rfl (by first | exact fun u hu=>⟨(y,f2,roS fun u=>SttOk u y,Z),⟨by rw [hsr],HasZ.ro,by rw [hsr]; exact hf2,.inl ⟨hpy,rfl⟩⟩,by rw [hpy],by rw [hsr]; exact hu⟩ | exact fun u hu=>⟨(z,f1,Z,Go.Proofs.YtfbfdnoodccgiaaGreatDoor.osl 0 1 (.slice none 0 0) 0 []),⟨by rw [Jaa hpn],hZ,by rw [Jaa hpn]; exact hf1,.inr ⟨hpn,rfl⟩⟩,by rw [hpn],by rw [Jaa hpn]; exact (hu.sel [0,0,0,1,1] rfl).osl0.sel [1,1,1,1,0,0] rfl⟩ | exact fun u hu=>⟨(z,f,Z,Go.Proofs.YtfbfdnoodccgiaaGreatDoor.osl 0 1 (.slice none 0 0) 0 []),⟨by rw [Jaa hpn],hZ,by rw [Jaa hpn]; exact hf,.inr ⟨hpn,rfl⟩⟩,by rw [hpn],by rw [Jaa hpn]; exact (hu.sel [0,0,0,1,1] rfl).osl0.sel [1,1,1,1,0,0] rfl⟩))))
 refine Wv 0 1 ?_
 refine Wd (Qt ?_)
 refine To 14 rfl ?_
 refine Wz 1 ?_
 refine Wd (Qt ?_)
 refine To 17 rfl ?_
 refine Wz 1 ?_
 refine Wd (Qt ?_)
 refine Te ?_
 refine Qc (Cs (Nz 2 ?_))
 refine Wd (Qc (CS.cond rfl ?_ ?_))<;>intro hc2<;>try simp only [bq] at hc2
 ·
  have hpn:Ja6 G.p (z.x,rd) m=false:=Jby hS hc2
  refine Nz 1 ?_
  exact Wd (Qc (Cr (Qr (out1 rfl rfl (by first | exact fun u hu=>⟨(y,f2,roS fun u=>SttOk u y,Z),⟨by rw [hsr],HasZ.ro,by rw [hsr]; exact hf2,.inl ⟨hpy,rfl⟩⟩,by rw [hpy],by rw [hsr]; exact hu⟩ | exact fun u hu=>⟨(z,f1,Z,Go.Proofs.YtfbfdnoodccgiaaGreatDoor.osl 0 1 (.slice none 0 0) 0 []),⟨by rw [Jaa hpn],hZ,by rw [Jaa hpn]; exact hf1,.inr ⟨hpn,rfl⟩⟩,by rw [hpn],by rw [Jaa hpn]; exact (hu.sel [3,3,3,3,3] rfl).osl0.sel [1,1,1,1,0,0] rfl⟩ | exact fun u hu=>⟨(z,f,Z,Go.Proofs.YtfbfdnoodccgiaaGreatDoor.osl 0 1 (.slice none 0 0) 0 []),⟨by rw [Jaa hpn],hZ,by rw [Jaa hpn]; exact hf,.inr ⟨hpn,rfl⟩⟩,by rw [hpn],by rw [Jaa hpn]; exact (hu.sel [3,3,3,3,3] rfl).osl0.sel [1,1,1,1,0,0] rfl⟩)))))
 have hpy:Ja6 G.p (z.x,rd) m=true:=Jcd hR hI hS hc2 hop
 have hsr:Jb7 G.p (z.x,rd) m=(y.x,Jb3 G.p y.x rd):=by rw [Jbc hpy]; unfold Jcw; rw [← (Ja3 hS).2 hc2, ← hyx]
 have hIy:StIn G.rm y.x:=by rw [hyx]; exact Jca hR hI hS hc2
 refine Ck (Qc (Nz 1 ?_))
 refine Wk 3 (Bb 1) ?_
 refine WS.storeP rfl (j:=3) rfl rfl rfl (by simp [hya,hyb,hyc]) tk94 rfl rfl ?_; refine WS.sel [3,3,3,0,2,2] rfl ?_
 refine Wd (Qc (Nz 1 ?_))
 refine WS.callS rfl rfl Jf9 (fun u hu=>Jc2 [] [Z,R] G hG hn g hW hV tb mb y (roS fun u=>SttOk u y) HasZ.ro hIy rv rd hl _ (by assumption) hu) (fun _=>rfl) ?_; rintro f2 hf2
 refine Wd (Qc (Nz 1 ?_))
 exact Wd (Qc (Cr (out1 rfl rfl (by first | exact fun u hu=>⟨(y,f2,roS fun u=>SttOk u y,Z),⟨by rw [hsr],HasZ.ro,by rw [hsr]; exact hf2,.inl ⟨hpy,rfl⟩⟩,by rw [hpy],by rw [hsr]; exact hu⟩ | exact fun u hu=>⟨(z,f1,Z,Go.Proofs.YtfbfdnoodccgiaaGreatDoor.osl 0 1 (.slice none 0 0) 0 []),⟨by rw [Jaa hpn],hZ,by rw [Jaa hpn]; exact hf1,.inr ⟨hpn,rfl⟩⟩,by rw [hpn],by rw [Jaa hpn]; exact (hu.sel [0,0,0,1,1] rfl).osl0.sel [1,1,1,1,0,0] rfl⟩ | exact fun u hu=>⟨(z,f,Z,Go.Proofs.YtfbfdnoodccgiaaGreatDoor.osl 0 1 (.slice none 0 0) 0 []),⟨by rw [Jaa hpn],hZ,by rw [Jaa hpn]; exact hf,.inr ⟨hpn,rfl⟩⟩,by rw [hpn],by rw [Jaa hpn]; exact (hu.sel [0,0,0,1,1] rfl).osl0.sel [1,1,1,1,0,0] rfl⟩))))
end Go.Proofs.YtfbfdnoodccgiaaGreatDoor
