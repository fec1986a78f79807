/- Merged texts of this proof (walks and plain laws), printed by a program of the prover. -/
import Derived.Test.YtkekjhcmephhjaaGreatDoorZg
import Derived.Test.YtkekjhcmephhjaaGreatDoorZb
set_option maxHeartbeats 8000000
namespace Go.Proofs.YtkekjhcmephhjaaGreatDoor
open Go.RowKit Go.Proofs
set_option maxRecDepth 100000
set_option linter.unusedVariables false
set_option linter.unusedSimpArgs false
section
variable {P:Program} {ro:Option Nat} {n0:Nat} {w0:World} {ds:List Deferred} {ops:Array Oper} {Q:Exit→Act→World→Prop} {L:List SA} {rest:List Oper} {l:List Value}
theorem CS.stE {c:Code} (k:(∃ u,St n0 w0 L u)→CS P ro n0 w0 ds c Q L l):CS P ro n0 w0 ds c Q L l:=fun u hu=>k ⟨u,hu⟩ u hu
end
theorem Jce {b:Bool} {t:ByteArray} {ws ws':Wds} (h:some (isW t ws,if isW t ws then ws.tail else ws)=some (b,ws')):Jke t ws=if b then some ws' else none:=by
 simp only [Option.some.injEq,Prod.mk.injEq] at h
 rw [Jke, ← h.1, ← h.2]
 split <;> rfl
theorem Jk8 {t:ByteArray} {ws ws':Wds} {m:Int} (h:Jec ws=some (t,ws')):numW m ws=(numB m t).map fun n=>(n,ws'):=by rw [numW,h]; rfl
theorem Jki {ws:Wds} {m:Int} (h:Jec ws=none):numW m ws=none:=by rw [numW,h]; rfl
theorem Js3 {a:Lit} {ps:List Put} (h:Jfw [a]=some ps):a.nt=false∧ps=[⟨a.t,a.s⟩]:=by
 cases ha:a.nt with
 | true=>simp [Jfw,ha] at h
 | false=>simp [Jfw,ha] at h; exact ⟨rfl,h.symm⟩
theorem Jwb {a:Lit} (h:Jfw [a]=none):a.nt=true:=by
 cases ha:a.nt with
 | true=>rfl
 | false=>simp [Jfw,ha] at h
theorem Jmr {ths:List Thing}:∀ {ws r:Wds} {c:List Lit},Jcr ths ws=some (c,r)→c.length≤ws.length
 | [],r,c,h=>by cases h; exact Nat.le_refl _
 | t::ws,r,c,h=>by
  rw [Jcr] at h
  split at h
  ·
   cases h; exact Nat.zero_le _
  cases h1:litT ths t with
  | none=>rw [h1] at h; cases h
  | some a =>
   cases h2:Jcr ths ws with
   | none=>rw [h1,h2] at h; cases h
   | some x =>
    rw [h1,h2] at h
    cases h
    have:=Jmr h2
    simp only [List.length_cons]; omega
theorem Jho {gk:Sl ByteArray} (hg:gk.l=kindsL) {k:Int} (h0:0≤k) (h8:k < 8) {t:ByteArray} (i:Fin 8) (ht:t=nth kindsL ((i.val:Nat):Int)) (h:seq (nth gk.l k) t=true):k=((i.val:Nat):Int):=(Jud hg h0 h8 i ht h).mpr rfl
theorem Jht {gk:Sl ByteArray} (hg:gk.l=kindsL) {k:Int} (h0:0≤k) (h8:k < 8) {t:ByteArray} (i:Fin 8) (ht:t=nth kindsL ((i.val:Nat):Int)) (h:seq (nth gk.l k) t=false):k≠((i.val:Nat):Int):=fun e=>by
 have:=(Jud hg h0 h8 i ht h).mp e
 cases this
theorem Ju9 {n0:Nat} {w0 u:World} {L:List SA} {p a b c d e:World→Prop} {r:Room} (hr:∀ u,p u→a u→b u→c u→d u→e u→elOk r u) (h:St n0 w0 (roS p::roS a::roS b::roS c::roS d::roS e::L) u):St n0 w0 (roS (elOk r)::L) u :=
 St.roMap (fun u h=>hr u h.1.1.1.1.1 h.1.1.1.1.2 h.1.1.1.2 h.1.1.2 h.1.2 h.2) (St.roAnd (St.roAnd (St.roAnd (St.roAnd (St.roAnd h)))))
theorem CellsOf.oneO {v:Value} {i:Nat} {l:List (Nat × Value)} {m:List (Nat × List Value)} (h:v.oneCell'=true) (k:CellsOf l m):CellsOf ((i,v)::l) ((i,[v])::m):=CellsOf.one h k
theorem J2m {w u:World} (R:SA) (xb:Nat) (sx:RdS) (hu:St w.heap.size w [rdr xb sx,R] u) (g:Sl ByteArray) (hG:GOk w g) (gk:Sl ByteArray) (hK:KOk w gk) (hM:MaxOk w) (t0:ByteArray) (ht:t0.size≤65536) (hkd:0≤sx.kd∧sx.kd≤7) (hb:RdB 65536 sx.r) :
  Calls Tryz.prog 19 #[.pointer (some ⟨xb,0,none⟩),.string t0] u (J2f w R xb sx t0):=by
 refine Jz3 hu Tryz.func19 rfl rfl (Nat.le_of_ble_eq_true rfl) ?_
 obtain ⟨hb1,hb2,hb3,hb4,hb5,hb6⟩:=hb
 obtain ⟨hkd,hkd7⟩:=hkd
 have hgk:=hK.sl
 have hg8:gk.l.length=8:=by rw [hK.1]; rfl
 refine Nz 0 ?_
 refine Wl 0 zv4 (fun _=>rfl) (fun _=>rfl) fun b4 hb4=>?_
 refine Wd (Qc (Nz 0 ?_))
 refine Wk 0 (Jat rfl) ?_
 refine WS.defer rfl ?_
 refine Wd (Qc (Nz 2 ?_))
 refine Wc rfl rfl J38 (fun u hu=>Jy5 32 t0 u (hM.st hu) (by omega)) (fun _=>rfl) ?_; rintro v14 ⟨u14,hv14⟩
 have hv14o:=Sl.one hv14
 have hv14o:v14.oneCell'=true:=hv14o
 refine Wz 2 ?_
 refine WS.sel [2,0,0,0] rfl ?_
 refine WS.weak (fun u hu=>St.unpack (L1:=Jam xb sx) hu) ?_
 first | refine WS.store (j:=0) rfl rfl (by first | decide | omega | (simp; done) | (simp; omega) | exact Nat.le_of_ble_eq_true rfl) rfl (by first | rfl | assumption) tk23 rfl rfl ?_ | refine WS.store (j:=0) rfl rfl (by first | decide | omega | (simp; done) | (simp; omega) | exact Nat.le_of_ble_eq_true rfl) rfl (by first | rfl | assumption) tk23 (Jac _ _ _) rfl ?_ | refine WS.store (j:=1) rfl rfl (by first | decide | omega | (simp; done) | (simp; omega) | exact Nat.le_of_ble_eq_true rfl) rfl (by first | rfl | assumption) tk23 rfl rfl ?_ | refine WS.store (j:=1) rfl rfl (by first | decide | omega | (simp; done) | (simp; omega) | exact Nat.le_of_ble_eq_true rfl) rfl (by first | rfl | assumption) tk23 (Jac _ _ _) rfl ?_ | refine WS.store (j:=2) rfl rfl (by first | decide | omega | (simp; done) | (simp; omega) | exact Nat.le_of_ble_eq_true rfl) rfl (by first | rfl | assumption) tk23 rfl rfl ?_ | refine WS.store (j:=2) rfl rfl (by first | decide | omega | (simp; done) | (simp; omega) | exact Nat.le_of_ble_eq_true rfl) rfl (by first | rfl | assumption) tk23 (Jac _ _ _) rfl ?_ | refine WS.store (j:=3) rfl rfl (by first | decide | omega | (simp; done) | (simp; omega) | exact Nat.le_of_ble_eq_true rfl) rfl (by first | rfl | assumption) tk23 rfl rfl ?_ | refine WS.store (j:=3) rfl rfl (by first | decide | omega | (simp; done) | (simp; omega) | exact Nat.le_of_ble_eq_true rfl) rfl (by first | rfl | assumption) tk23 (Jac _ _ _) rfl ?_ | refine WS.store (j:=4) rfl rfl (by first | decide | omega | (simp; done) | (simp; omega) | exact Nat.le_of_ble_eq_true rfl) rfl (by first | rfl | assumption) tk23 rfl rfl ?_ | refine WS.store (j:=4) rfl rfl (by first | decide | omega | (simp; done) | (simp; omega) | exact Nat.le_of_ble_eq_true rfl) rfl (by first | rfl | assumption) tk23 (Jac _ _ _) rfl ?_ | refine WS.store (j:=5) rfl rfl (by first | decide | omega | (simp; done) | (simp; omega) | exact Nat.le_of_ble_eq_true rfl) rfl (by first | rfl | assumption) tk23 rfl rfl ?_ | refine WS.store (j:=5) rfl rfl (by first | decide | omega | (simp; done) | (simp; omega) | exact Nat.le_of_ble_eq_true rfl) rfl (by first | rfl | assumption) tk23 (Jac _ _ _) rfl ?_ | refine WS.store (j:=6) rfl rfl (by first | decide | omega | (simp; done) | (simp; omega) | exact Nat.le_of_ble_eq_true rfl) rfl (by first | rfl | assumption) tk23 rfl rfl ?_ | refine WS.store (j:=6) rfl rfl (by first | decide | omega | (simp; done) | (simp; omega) | exact Nat.le_of_ble_eq_true rfl) rfl (by first | rfl | assumption) tk23 (Jac _ _ _) rfl ?_ | refine WS.store (j:=7) rfl rfl (by first | decide | omega | (simp; done) | (simp; omega) | exact Nat.le_of_ble_eq_true rfl) rfl (by first | rfl | assumption) tk23 rfl rfl ?_ | refine WS.store (j:=7) rfl rfl (by first | decide | omega | (simp; done) | (simp; omega) | exact Nat.le_of_ble_eq_true rfl) rfl (by first | rfl | assumption) tk23 (Jac _ _ _) rfl ?_ | refine WS.store (j:=8) rfl rfl (by first | decide | omega | (simp; done) | (simp; omega) | exact Nat.le_of_ble_eq_true rfl) rfl (by first | rfl | assumption) tk23 rfl rfl ?_ | refine WS.store (j:=8) rfl rfl (by first | decide | omega | (simp; done) | (simp; omega) | exact Nat.le_of_ble_eq_true rfl) rfl (by first | rfl | assumption) tk23 (Jac _ _ _) rfl ?_ | refine WS.store (j:=9) rfl rfl (by first | decide | omega | (simp; done) | (simp; omega) | exact Nat.le_of_ble_eq_true rfl) rfl (by first | rfl | assumption) tk23 rfl rfl ?_ | refine WS.store (j:=9) rfl rfl (by first | decide | omega | (simp; done) | (simp; omega) | exact Nat.le_of_ble_eq_true rfl) rfl (by first | rfl | assumption) tk23 (Jac _ _ _) rfl ?_ | refine WS.store (j:=10) rfl rfl (by first | decide | omega | (simp; done) | (simp; omega) | exact Nat.le_of_ble_eq_true rfl) rfl (by first | rfl | assumption) tk23 rfl rfl ?_ | refine WS.store (j:=10) rfl rfl (by first | decide | omega | (simp; done) | (simp; omega) | exact Nat.le_of_ble_eq_true rfl) rfl (by first | rfl | assumption) tk23 (Jac _ _ _) rfl ?_ | refine WS.store (j:=11) rfl rfl (by first | decide | omega | (simp; done) | (simp; omega) | exact Nat.le_of_ble_eq_true rfl) rfl (by first | rfl | assumption) tk23 rfl rfl ?_ | refine WS.store (j:=11) rfl rfl (by first | decide | omega | (simp; done) | (simp; omega) | exact Nat.le_of_ble_eq_true rfl) rfl (by first | rfl | assumption) tk23 (Jac _ _ _) rfl ?_
 refine WS.sel [0,0,0,0,0,0,0,0,1,1,1] rfl ?_
 refine WS.weak (fun u hu=>St.pack (L1:=Jam xb ⟨sx.r,sx.kd,⟨v14,Jao 32 t0⟩⟩) hu) ?_
 refine Wd (Qc (Cs ?_))
 refine CS.drawnTillC 4 ((fun u=>Below w.heap.size w u)) (k:=5) mixed rfl rfl ?_
 refine Tk 5 0 [1] rfl (Jdx tk23 rfl fun u hu=>(hK.2 u hu).1) ?_
 refine AT.one (i:=2) (by kernel_rfl) rfl (fun _ u hu=>hu.below) rfl ?_
 refine WS.callP rfl rfl Jlx (fun u hu=>RdX.lw (Jhr (star _) xb ⟨sx.r,sx.kd,⟨v14,Jao 32 t0⟩⟩ (St.tailPack (hu)))) (fun _=>rfl) (fun hq u hu=>fun a_ ha_ hk_=>lpan [0,0] (Jrs hq) hu rfl ha_ ((hk_ 4 (by decide)).trans rfl)) ?_; rintro ⟨w1,t⟩ ⟨hn1,hs1⟩
 obtain ⟨k,hk⟩:∃ k,idxF (fun x=>seq t x) gk.l=k:=⟨_,rfl⟩
 have hkr:Jft t=k:=(J1b hK.1 t).symm.trans hk
 refine Wd (Qt ?_)
 refine Tk 5 3 [] rfl (Jon (fun u hu=>hk ▸ Jpd gk t u (hK.2 u hu).2) rfl J19 rfl) ?_
 refine AT.one (i:=4) (by kernel_rfl) rfl (fun _ u hu=>hu.below) rfl ?_
 refine Wz 1 ?_
 refine Wd (Qt ?_)
 refine Te ?_
 refine Qc (Cs ?_)
 refine CS.weak (fun u hu=>St.unpack (L1:=Jam xb ⟨sx.r,sx.kd,w1⟩) hu) ?_
 refine Ny 4 ?_
 refine Wk 2 (by first | exact Jd1 rfl (by assumption) (by omega) tk3 | exact Jaa (j:=0) rfl rfl rfl tk3 | exact Jaa (j:=1) rfl rfl rfl tk3 | exact Jaa (j:=2) rfl rfl rfl tk3 | exact Jaa (j:=3) rfl rfl rfl tk3 | exact Jaa (j:=4) rfl rfl rfl tk3 | exact Jaa (j:=5) rfl rfl rfl tk3 | exact Jaa (j:=6) rfl rfl rfl tk3 | exact Jaa (j:=7) rfl rfl rfl tk3 | exact Jaa (j:=8) rfl rfl rfl tk3 | exact Jaa (j:=9) rfl rfl rfl tk3 | exact Jaa (j:=10) rfl rfl rfl tk3 | exact Jaa (j:=11) rfl rfl rfl tk3 | exact Jab rfl (by assumption) rfl tk3) ?_
 refine Wt 0 rfl rfl (fun hg=>Fm) ?_
 refine Wt 0 rfl rfl (fun hg=>Fc) ?_
 refine Wt 0 rfl rfl (fun hg=>Ff) ?_
 refine Wt 0 rfl rfl (fun hg=>by first | exact Jd1 (eg_ hg rfl) (by assumption) (by (try simp only [bq] at hg); omega) tk3 | exact Jaa (j:=0) (eg_ hg rfl) rfl rfl tk3 | exact Jaa (j:=1) (eg_ hg rfl) rfl rfl tk3 | exact Jaa (j:=2) (eg_ hg rfl) rfl rfl tk3 | exact Jaa (j:=3) (eg_ hg rfl) rfl rfl tk3 | exact Jaa (j:=4) (eg_ hg rfl) rfl rfl tk3 | exact Jaa (j:=5) (eg_ hg rfl) rfl rfl tk3 | exact Jaa (j:=6) (eg_ hg rfl) rfl rfl tk3 | exact Jaa (j:=7) (eg_ hg rfl) rfl rfl tk3 | exact Jaa (j:=8) (eg_ hg rfl) rfl rfl tk3 | exact Jaa (j:=9) (eg_ hg rfl) rfl rfl tk3 | exact Jaa (j:=10) (eg_ hg rfl) rfl rfl tk3 | exact Jaa (j:=11) (eg_ hg rfl) rfl rfl tk3 | exact Jab (eg_ hg rfl) (by assumption) rfl tk3) ?_
 refine Wt 0 rfl rfl (fun hg=>Fh) ?_
 refine Wt 0 rfl rfl (fun hg=>Fm (eg_ hg rfl)) ?_
 refine Wn 0 rfl rfl rfl (fun hg=>Fm) ?_
 refine Wn 0 rfl rfl rfl (fun hg=>Fm) ?_
 refine Wn 0 rfl rfl rfl (fun hg=>Fc) ?_
 refine Wn 0 rfl rfl rfl (fun hg=>Ff) ?_
 refine Wn 0 rfl rfl rfl (fun hg=>by first | exact Jd1 (eg_ hg rfl) (by assumption) (by (try simp only [bq] at hg); omega) tk3 | exact Jaa (j:=0) (eg_ hg rfl) rfl rfl tk3 | exact Jaa (j:=1) (eg_ hg rfl) rfl rfl tk3 | exact Jaa (j:=2) (eg_ hg rfl) rfl rfl tk3 | exact Jaa (j:=3) (eg_ hg rfl) rfl rfl tk3 | exact Jaa (j:=4) (eg_ hg rfl) rfl rfl tk3 | exact Jaa (j:=5) (eg_ hg rfl) rfl rfl tk3 | exact Jaa (j:=6) (eg_ hg rfl) rfl rfl tk3 | exact Jaa (j:=7) (eg_ hg rfl) rfl rfl tk3 | exact Jaa (j:=8) (eg_ hg rfl) rfl rfl tk3 | exact Jaa (j:=9) (eg_ hg rfl) rfl rfl tk3 | exact Jaa (j:=10) (eg_ hg rfl) rfl rfl tk3 | exact Jaa (j:=11) (eg_ hg rfl) rfl rfl tk3 | exact Jab (eg_ hg rfl) (by assumption) rfl tk3) ?_
 refine Wn 0 rfl rfl rfl (fun hg=>Jtw (eg_ hg rfl) rfl (by (try simp only); omega)) ?_
 refine Wn 0 rfl rfl rfl (fun hg=>Fr) ?_
 refine Wt 0 rfl rfl (fun hg=>Jc8 (eg_ hg rfl) (Jh8 hg rfl) rfl) ?_
 refine Wt 0 rfl rfl (fun hg=>Fn) ?_
 refine Wk 1 Pa ?_
 refine Wt 0 rfl rfl (fun hg=>Fm) ?_
 refine Wt 0 rfl rfl (fun hg=>Fl) ?_
 refine Wt 0 rfl rfl (fun hg=>Fm (eg_ hg rfl)) ?_
 refine Wn 0 rfl rfl rfl (fun hg=>Fm) ?_
 refine Wn 0 rfl rfl rfl (fun hg=>Fc) ?_
 refine Wn 0 rfl rfl rfl (fun hg=>Ff) ?_
 refine Wn 0 rfl rfl rfl (fun hg=>by first | exact Jd1 (eg_ hg rfl) (by assumption) (by (try simp only [bq] at hg); omega) tk3 | exact Jaa (j:=0) (eg_ hg rfl) rfl rfl tk3 | exact Jaa (j:=1) (eg_ hg rfl) rfl rfl tk3 | exact Jaa (j:=2) (eg_ hg rfl) rfl rfl tk3 | exact Jaa (j:=3) (eg_ hg rfl) rfl rfl tk3 | exact Jaa (j:=4) (eg_ hg rfl) rfl rfl tk3 | exact Jaa (j:=5) (eg_ hg rfl) rfl rfl tk3 | exact Jaa (j:=6) (eg_ hg rfl) rfl rfl tk3 | exact Jaa (j:=7) (eg_ hg rfl) rfl rfl tk3 | exact Jaa (j:=8) (eg_ hg rfl) rfl rfl tk3 | exact Jaa (j:=9) (eg_ hg rfl) rfl rfl tk3 | exact Jaa (j:=10) (eg_ hg rfl) rfl rfl tk3 | exact Jaa (j:=11) (eg_ hg rfl) rfl rfl tk3 | exact Jab (eg_ hg rfl) (by assumption) rfl tk3) ?_
 refine Wn 0 rfl rfl rfl (fun hg=>Fq) ?_
 refine Wt 0 rfl rfl (fun hg=>Jfv (eg_ hg rfl) (Jpc hg rfl) rfl) ?_
 refine Wk 0 Pa ?_
 refine WS.callP rfl rfl Jej (Jcp _) (fun _=>rfl) (fun hq u hu=>lpan [9,9] (Jue hn1 hkr ((Jyf _ _).symm.trans hq)) hu rfl rfl rfl) ?_; rintro ⟨⟩ hmay_
 have hmay:mayK sx.kd k=true:=(Jyf _ _).symm.trans hmay_
 have hL:=J0h (r:=sx.r) hn1 hkr hmay
 have hk8:k < 8:=hkr ▸ J0g t
 have hk0:0≤k:=by
  have:=hmay
  simp only [mayK,Bool.and_eq_true,decide_eq_true_eq] at this
  omega
 refine Wd (Qc (Nz 4 ?_))
 first | refine WS.store (j:=0) rfl rfl (by first | decide | omega | (simp; done) | (simp; omega) | exact Nat.le_of_ble_eq_true rfl) rfl (by first | rfl | assumption) tk3 rfl rfl ?_ | refine WS.store (j:=0) rfl rfl (by first | decide | omega | (simp; done) | (simp; omega) | exact Nat.le_of_ble_eq_true rfl) rfl (by first | rfl | assumption) tk3 (Jac _ _ _) rfl ?_ | refine WS.store (j:=1) rfl rfl (by first | decide | omega | (simp; done) | (simp; omega) | exact Nat.le_of_ble_eq_true rfl) rfl (by first | rfl | assumption) tk3 rfl rfl ?_ | refine WS.store (j:=1) rfl rfl (by first | decide | omega | (simp; done) | (simp; omega) | exact Nat.le_of_ble_eq_true rfl) rfl (by first | rfl | assumption) tk3 (Jac _ _ _) rfl ?_ | refine WS.store (j:=2) rfl rfl (by first | decide | omega | (simp; done) | (simp; omega) | exact Nat.le_of_ble_eq_true rfl) rfl (by first | rfl | assumption) tk3 rfl rfl ?_ | refine WS.store (j:=2) rfl rfl (by first | decide | omega | (simp; done) | (simp; omega) | exact Nat.le_of_ble_eq_true rfl) rfl (by first | rfl | assumption) tk3 (Jac _ _ _) rfl ?_ | refine WS.store (j:=3) rfl rfl (by first | decide | omega | (simp; done) | (simp; omega) | exact Nat.le_of_ble_eq_true rfl) rfl (by first | rfl | assumption) tk3 rfl rfl ?_ | refine WS.store (j:=3) rfl rfl (by first | decide | omega | (simp; done) | (simp; omega) | exact Nat.le_of_ble_eq_true rfl) rfl (by first | rfl | assumption) tk3 (Jac _ _ _) rfl ?_ | refine WS.store (j:=4) rfl rfl (by first | decide | omega | (simp; done) | (simp; omega) | exact Nat.le_of_ble_eq_true rfl) rfl (by first | rfl | assumption) tk3 rfl rfl ?_ | refine WS.store (j:=4) rfl rfl (by first | decide | omega | (simp; done) | (simp; omega) | exact Nat.le_of_ble_eq_true rfl) rfl (by first | rfl | assumption) tk3 (Jac _ _ _) rfl ?_ | refine WS.store (j:=5) rfl rfl (by first | decide | omega | (simp; done) | (simp; omega) | exact Nat.le_of_ble_eq_true rfl) rfl (by first | rfl | assumption) tk3 rfl rfl ?_ | refine WS.store (j:=5) rfl rfl (by first | decide | omega | (simp; done) | (simp; omega) | exact Nat.le_of_ble_eq_true rfl) rfl (by first | rfl | assumption) tk3 (Jac _ _ _) rfl ?_ | refine WS.store (j:=6) rfl rfl (by first | decide | omega | (simp; done) | (simp; omega) | exact Nat.le_of_ble_eq_true rfl) rfl (by first | rfl | assumption) tk3 rfl rfl ?_ | refine WS.store (j:=6) rfl rfl (by first | decide | omega | (simp; done) | (simp; omega) | exact Nat.le_of_ble_eq_true rfl) rfl (by first | rfl | assumption) tk3 (Jac _ _ _) rfl ?_ | refine WS.store (j:=7) rfl rfl (by first | decide | omega | (simp; done) | (simp; omega) | exact Nat.le_of_ble_eq_true rfl) rfl (by first | rfl | assumption) tk3 rfl rfl ?_ | refine WS.store (j:=7) rfl rfl (by first | decide | omega | (simp; done) | (simp; omega) | exact Nat.le_of_ble_eq_true rfl) rfl (by first | rfl | assumption) tk3 (Jac _ _ _) rfl ?_ | refine WS.store (j:=8) rfl rfl (by first | decide | omega | (simp; done) | (simp; omega) | exact Nat.le_of_ble_eq_true rfl) rfl (by first | rfl | assumption) tk3 rfl rfl ?_ | refine WS.store (j:=8) rfl rfl (by first | decide | omega | (simp; done) | (simp; omega) | exact Nat.le_of_ble_eq_true rfl) rfl (by first | rfl | assumption) tk3 (Jac _ _ _) rfl ?_ | refine WS.store (j:=9) rfl rfl (by first | decide | omega | (simp; done) | (simp; omega) | exact Nat.le_of_ble_eq_true rfl) rfl (by first | rfl | assumption) tk3 rfl rfl ?_ | refine WS.store (j:=9) rfl rfl (by first | decide | omega | (simp; done) | (simp; omega) | exact Nat.le_of_ble_eq_true rfl) rfl (by first | rfl | assumption) tk3 (Jac _ _ _) rfl ?_ | refine WS.store (j:=10) rfl rfl (by first | decide | omega | (simp; done) | (simp; omega) | exact Nat.le_of_ble_eq_true rfl) rfl (by first | rfl | assumption) tk3 rfl rfl ?_ | refine WS.store (j:=10) rfl rfl (by first | decide | omega | (simp; done) | (simp; omega) | exact Nat.le_of_ble_eq_true rfl) rfl (by first | rfl | assumption) tk3 (Jac _ _ _) rfl ?_ | refine WS.store (j:=11) rfl rfl (by first | decide | omega | (simp; done) | (simp; omega) | exact Nat.le_of_ble_eq_true rfl) rfl (by first | rfl | assumption) tk3 rfl rfl ?_ | refine WS.store (j:=11) rfl rfl (by first | decide | omega | (simp; done) | (simp; omega) | exact Nat.le_of_ble_eq_true rfl) rfl (by first | rfl | assumption) tk3 (Jac _ _ _) rfl ?_
 refine WS.weak (fun u hu=>St.pack (L1:=Jam xb ⟨sx.r,k,w1⟩) hu) ?_
 refine Wd (Qc (Nz 4 ?_))
 refine Wd (Qc ?_)
 refine CS.cut (σ:=RdS × Ln) [7,8,9,10,63,64,65,66,67,68,69,70,71,72,73,74,75,76,77,78,79,80,81,82,83,84,85,86,87,88,89,90,91,92,93,94,95,96,97,98,99,100,101,102,103,104,105,106,107,108,109,110,111,112,113,114,115,116,117,118,119,120,121,122,123,124,125,126,127,128,129,130,131,132,133,134,135,136,137,138,139,140,141,142,143,144,145,146,147,148,149,150,151,152,153,154,155,156,157,158,159,160,161,162,163,164,165,166,167,168,169,170,171,172,173,174,175,176,177,178,179,180,181,182,183,184,185,186,187,188,189,190,191,192,193,194,195,196,197,198,199,200,201,202,203,204,205,206,207,208,209,210,211,212,213,214,215,216,217,218,219,220,221,222,223,224,225,226,227,228,229,230,231,232,233,234,235,236,237,238,239,240,241,242,243,244,245,246,247] (fun s=>[]) (fun s=>[rdr xb s.1,blk b4 [.bool false] 4,R]) (fun s=>Ja3 sx.r k w1.l=some (s.2,s.1.ws.l)∧s.1.r.e=(addL sx.r s.2).e∧s.1.kd=k) (fun _ _=>rfl) ?_ ?_
 ·
  refine Nz 0 ?_
  refine Wk 1 (Jdx tk23 rfl fun u hu=>hK.cell hu) ?_
  refine Wk 0 (Xc (s:=gk)) ?_
  refine Wk 0 (Ub (s:=gk)) ?_
  refine Wd (Qc (Ce (Nz 0 ?_)))
  refine Wk 1 (Ja2 rfl rfl) ?_
  refine Wd (Qc (CS.cond rfl ?_ ?_))<;>intro hc1<;>try simp only [bq] at hc1
  ·
   have hki:k=0:=Jho hK.1 hk0 hk8 0 rfl hc1
   refine CS.drawnTillC 8 ((fun u=>∃ wz:Sl ByteArray,True∧St w.heap.size w [rdr xb ⟨sx.r,k,wz⟩,blk b4 [.bool false] 4,R] u)) (k:=12) mixed rfl rfl ?_
   refine Tr 12 [1,2,3] ?_
   refine Tk 12 4 [5] rfl (Jig (v:=sx.r.pls.v) fun wz _=>Jnf rfl rfl tk23) ?_
   refine AT.takeP 0 rfl (by kernel_rfl) rfl (by kernel_rfl) (by kernel_rfl) rfl rfl (Jbg rfl) rfl rfl ?_
   refine AT.one (i:=6) (by kernel_rfl) rfl (fun _ u hu=>⟨w1,trivial,hu⟩) rfl ?_
   refine WS.callP rfl rfl Jq7 (fun u hu=>RdX.lw (Jjo (star _) xb ⟨sx.r,k,w1⟩ (St.tailPack (hu)) g hG (Jdc ht hs1))) (fun _=>rfl) (fun hq u hu=>fun a_ ha_ hk_=>lpan [0,0] (by rw [hL,hki]; simp [Ja3,hq]) hu rfl ha_ ((hk_ 4 (by decide)).trans rfl)) ?_; rintro ⟨w3,nm⟩ ⟨hn3,hs3_⟩
   have hs3:w3.l <:+ Jao 32 t0:=hs3_.trans hs1
   refine Wd (Qt ?_)
   refine AT.one (i:=7) (by kernel_rfl) rfl (fun _ u hu=>⟨w3,trivial,hu⟩) rfl ?_
   refine WS.buildS1 (b:=nm) sl23 zv9 rfl (fun _=>rfl) ?_; intro v76
   refine Wd (Qt ?_)
   refine AT.one (i:=8) (by kernel_rfl) rfl (fun _ u hu=>⟨w3,trivial,hu.sel [1,1,1] rfl⟩) rfl ?_
   refine WS.sel [1,0,0,0] rfl ?_
   refine WS.weak (fun u hu=>St.unpack (L1:=Jam xb ⟨sx.r,k,w3⟩) hu) ?_
   refine WS.appendT1 (C:=cStr) (a:=nm) (j:=1) (jz:=9) sl23 zv9 rfl (by decide) rfl rfl rfl rfl (w:=w) trivial (by (try simp only); omega) (by (try simp only); omega) (fun _=>rfl) (fun _=>rfl) ?_; intro v77 hv77
   refine Wd (Qt ?_)
   refine To 9 rfl ?_
   refine Wz 1 ?_
   refine Wd (Qt ?_)
   refine To 10 rfl ?_
   refine Wz 1 ?_
   refine Wd (Qt ?_)
   refine To 11 rfl ?_
   first | refine WS.store (j:=0) rfl rfl (by first | decide | omega | (simp; done) | (simp; omega) | exact Nat.le_of_ble_eq_true rfl) rfl (by first | rfl | assumption) tk23 rfl rfl ?_ | refine WS.store (j:=0) rfl rfl (by first | decide | omega | (simp; done) | (simp; omega) | exact Nat.le_of_ble_eq_true rfl) rfl (by first | rfl | assumption) tk23 (Jac _ _ _) rfl ?_ | refine WS.store (j:=1) rfl rfl (by first | decide | omega | (simp; done) | (simp; omega) | exact Nat.le_of_ble_eq_true rfl) rfl (by first | rfl | assumption) tk23 rfl rfl ?_ | refine WS.store (j:=1) rfl rfl (by first | decide | omega | (simp; done) | (simp; omega) | exact Nat.le_of_ble_eq_true rfl) rfl (by first | rfl | assumption) tk23 (Jac _ _ _) rfl ?_ | refine WS.store (j:=2) rfl rfl (by first | decide | omega | (simp; done) | (simp; omega) | exact Nat.le_of_ble_eq_true rfl) rfl (by first | rfl | assumption) tk23 rfl rfl ?_ | refine WS.store (j:=2) rfl rfl (by first | decide | omega | (simp; done) | (simp; omega) | exact Nat.le_of_ble_eq_true rfl) rfl (by first | rfl | assumption) tk23 (Jac _ _ _) rfl ?_ | refine WS.store (j:=3) rfl rfl (by first | decide | omega | (simp; done) | (simp; omega) | exact Nat.le_of_ble_eq_true rfl) rfl (by first | rfl | assumption) tk23 rfl rfl ?_ | refine WS.store (j:=3) rfl rfl (by first | decide | omega | (simp; done) | (simp; omega) | exact Nat.le_of_ble_eq_true rfl) rfl (by first | rfl | assumption) tk23 (Jac _ _ _) rfl ?_ | refine WS.store (j:=4) rfl rfl (by first | decide | omega | (simp; done) | (simp; omega) | exact Nat.le_of_ble_eq_true rfl) rfl (by first | rfl | assumption) tk23 rfl rfl ?_ | refine WS.store (j:=4) rfl rfl (by first | decide | omega | (simp; done) | (simp; omega) | exact Nat.le_of_ble_eq_true rfl) rfl (by first | rfl | assumption) tk23 (Jac _ _ _) rfl ?_ | refine WS.store (j:=5) rfl rfl (by first | decide | omega | (simp; done) | (simp; omega) | exact Nat.le_of_ble_eq_true rfl) rfl (by first | rfl | assumption) tk23 rfl rfl ?_ | refine WS.store (j:=5) rfl rfl (by first | decide | omega | (simp; done) | (simp; omega) | exact Nat.le_of_ble_eq_true rfl) rfl (by first | rfl | assumption) tk23 (Jac _ _ _) rfl ?_ | refine WS.store (j:=6) rfl rfl (by first | decide | omega | (simp; done) | (simp; omega) | exact Nat.le_of_ble_eq_true rfl) rfl (by first | rfl | assumption) tk23 rfl rfl ?_ | refine WS.store (j:=6) rfl rfl (by first | decide | omega | (simp; done) | (simp; omega) | exact Nat.le_of_ble_eq_true rfl) rfl (by first | rfl | assumption) tk23 (Jac _ _ _) rfl ?_ | refine WS.store (j:=7) rfl rfl (by first | decide | omega | (simp; done) | (simp; omega) | exact Nat.le_of_ble_eq_true rfl) rfl (by first | rfl | assumption) tk23 rfl rfl ?_ | refine WS.store (j:=7) rfl rfl (by first | decide | omega | (simp; done) | (simp; omega) | exact Nat.le_of_ble_eq_true rfl) rfl (by first | rfl | assumption) tk23 (Jac _ _ _) rfl ?_ | refine WS.store (j:=8) rfl rfl (by first | decide | omega | (simp; done) | (simp; omega) | exact Nat.le_of_ble_eq_true rfl) rfl (by first | rfl | assumption) tk23 rfl rfl ?_ | refine WS.store (j:=8) rfl rfl (by first | decide | omega | (simp; done) | (simp; omega) | exact Nat.le_of_ble_eq_true rfl) rfl (by first | rfl | assumption) tk23 (Jac _ _ _) rfl ?_ | refine WS.store (j:=9) rfl rfl (by first | decide | omega | (simp; done) | (simp; omega) | exact Nat.le_of_ble_eq_true rfl) rfl (by first | rfl | assumption) tk23 rfl rfl ?_ | refine WS.store (j:=9) rfl rfl (by first | decide | omega | (simp; done) | (simp; omega) | exact Nat.le_of_ble_eq_true rfl) rfl (by first | rfl | assumption) tk23 (Jac _ _ _) rfl ?_ | refine WS.store (j:=10) rfl rfl (by first | decide | omega | (simp; done) | (simp; omega) | exact Nat.le_of_ble_eq_true rfl) rfl (by first | rfl | assumption) tk23 rfl rfl ?_ | refine WS.store (j:=10) rfl rfl (by first | decide | omega | (simp; done) | (simp; omega) | exact Nat.le_of_ble_eq_true rfl) rfl (by first | rfl | assumption) tk23 (Jac _ _ _) rfl ?_ | refine WS.store (j:=11) rfl rfl (by first | decide | omega | (simp; done) | (simp; omega) | exact Nat.le_of_ble_eq_true rfl) rfl (by first | rfl | assumption) tk23 rfl rfl ?_ | refine WS.store (j:=11) rfl rfl (by first | decide | omega | (simp; done) | (simp; omega) | exact Nat.le_of_ble_eq_true rfl) rfl (by first | rfl | assumption) tk23 (Jac _ _ _) rfl ?_
   refine WS.sel [0,0,0,0,0,0,0,0,0,1,1] rfl ?_
   refine WS.weak (fun u hu=>St.pack (L1:=Jam xb ⟨{ sx.r with pls:=⟨v77,sx.r.pls.l++[nm]⟩ },k,w3⟩) hu) ?_
   refine Wd (Qt ?_)
   refine Te ?_
   exact Qb (QS.head ((⟨{ sx.r with pls:=⟨v77,sx.r.pls.l++[nm]⟩ },k,w3⟩,.place nm)) rfl rfl ⟨by rw [hki]; simp [Ja3,hn3],by simp [Room.e,addL,Sl.e,nls,Pro.e,Way.e,Actn.e,Auto.e],rfl⟩)
  have hkn0:k≠0:=Jht hK.1 hk0 hk8 0 rfl hc1
  refine Nz 0 ?_
  refine Wk 1 (Ja2 rfl rfl) ?_
  refine Wd (Qc (CS.cond rfl ?_ ?_))<;>intro hc2<;>try simp only [bq] at hc2
  ·
   have hki:k=1:=Jho hK.1 hk0 hk8 1 rfl hc2
   refine Nz 1 ?_
   refine WS.callP rfl rfl Jq7 (fun u hu=>RdX.lw (Jjo (star _) xb ⟨sx.r,k,w1⟩ (St.tailPack (hu)) g hG (Jdc ht hs1))) (fun _=>rfl) (fun hq u hu=>lpan [0,0] (by rw [hL,hki]; simp [Ja3,Jdl,hq]) hu rfl rfl rfl) ?_; rintro ⟨w3,nm⟩ ⟨hn3,hs3_⟩
   have hs3:w3.l <:+ Jao 32 t0:=hs3_.trans hs1
   refine Wk 0 (Db Jyu zv65) ?_
   refine Wl 0 zv65 (fun _=>rfl) (fun _=>rfl) fun b7 hb7=>?_
   refine Wv 0 0 ?_
   refine Wd (Qc (Nz 1 ?_))
   refine WS.callP rfl rfl Jjd (fun u hu=>RdX.lw (Jfs (star _) xb ⟨sx.r,k,w3⟩ (St.tailPack (hu.sel [1,0,0,0] rfl)) atW)) (fun _=>rfl) (fun hq u hu=>absurd hq (by simp)) ?_; rintro ⟨w4,b⟩ ⟨hn4,hs4_⟩
   have hs4:w4.l <:+ Jao 32 t0:=hs4_.trans hs3
   refine WS.callP rfl rfl Jej (Jcp _) (fun _=>rfl) (fun hq u hu=>lpan [2,2] (by have hm_:=Jce hn4; rw [hq,if_neg (by decide)] at hm_; rw [hL,hki]; simp [Ja3,Jdl,hn3,hm_]) hu rfl rfl rfl) ?_; rintro ⟨⟩ hm4_
   have hm4:=Jce hn4
   rw [hm4_,if_pos rfl] at hm4
   refine Wd (Qc (Nz 1 ?_))
   refine WS.callP rfl rfl Jtr (fun u hu=>RdX.lw (Jg1 (star _) xb ⟨sx.r,k,w4⟩ (St.tailPack (hu)) g hG (Jdc ht hs4))) (fun _=>rfl) (fun hq u hu=>lpan [1,1] (by rw [hL,hki]; simp [Ja3,Jdl,hn3,hm4,hq]) hu rfl rfl rfl) ?_; rintro ⟨w5,pl⟩ ⟨hn5,hs5_⟩
   have hs5:w5.l <:+ Jao 32 t0:=hs5_.trans hs4
   refine Wz 1 ?_
   refine Ws 0 1 ?_
   refine Wd (Qc (Nz 1 ?_))
   refine WS.callP rfl rfl Jjd (fun u hu=>RdX.lw (Jfs (star _) xb ⟨sx.r,k,w5⟩ (St.tailPack (hu)) Jf7)) (fun _=>rfl) (fun hq u hu=>absurd hq (by simp)) ?_; rintro ⟨w6,b⟩ ⟨hn6,hs6_⟩
   have hs6:w6.l <:+ Jao 32 t0:=hs6_.trans hs5
   refine WS.callP rfl rfl Jej (Jcp _) (fun _=>rfl) (fun hq u hu=>lpan [2,2] (by have hm_:=Jce hn6; rw [hq,if_neg (by decide)] at hm_; rw [hL,hki]; simp [Ja3,Jdl,hn3,hm4,hn5,hm_]) hu rfl rfl rfl) ?_; rintro ⟨⟩ hm6_
   have hm6:=Jce hn6
   rw [hm6_,if_pos rfl] at hm6
   refine Wd (Qc (Nz 1 ?_))
   refine WS.callP rfl rfl Jlx (fun u hu=>RdX.lw (Jhr (star _) xb ⟨sx.r,k,w6⟩ (St.tailPack (hu)))) (fun _=>rfl) (fun hq u hu=>lpan [1,1] (by have hq_:=Jki (m:=2) hq; rw [hL,hki]; simp [Ja3,Jdl,hn3,hm4,hn5,hm6,hq_]) hu rfl rfl rfl) ?_; rintro ⟨w7,t7⟩ ⟨hn7,hs7_⟩
   have hs7:w7.l <:+ Jao 32 t0:=hs7_.trans hs6
   have htt7:t7.size≤65536:=(Jdc (r:=sx.r) (k:=k) ht hs6).sz _ (Jdo hn7)
   refine WS.callP rfl rfl Juj (fun u hu=>RetN.st hu (Jeu t7 u (by omega))) (fun _=>rfl) (fun hq u hu=>lpan [2,2] (by have hm_:numW 2 _=_:=(Jk8 hn7).trans (congrArg _ hq); rw [hL,hki]; simp [Ja3,Jdl,hn3,hm4,hn5,hm6,hm_]) hu rfl rfl rfl) ?_; rintro st hm7_
   have hm7:numW 2 _=_:=(Jk8 hn7).trans (congrArg _ hm7_)
   simp only [Option.map_some] at hm7
   refine Wz 1 ?_
   refine Ws 0 1 ?_
   refine Wd (Qc (Nz 1 ?_))
   refine WS.callP rfl rfl Jjd (fun u hu=>RdX.lw (Jfs (star _) xb ⟨sx.r,k,w7⟩ (St.tailPack (hu)) Jii)) (fun _=>rfl) (fun hq u hu=>absurd hq (by simp)) ?_; rintro ⟨w8,b⟩ ⟨hn8,hs8_⟩
   have hs8:w8.l <:+ Jao 32 t0:=hs8_.trans hs7
   refine WS.callP rfl rfl Jej (Jcp _) (fun _=>rfl) (fun hq u hu=>lpan [2,2] (by have hm_:=Jce hn8; rw [hq,if_neg (by decide)] at hm_; rw [hL,hki]; simp [Ja3,Jdl,hn3,hm4,hn5,hm6,hm7,hm_]) hu rfl rfl rfl) ?_; rintro ⟨⟩ hm8_
   have hm8:=Jce hn8
   rw [hm8_,if_pos rfl] at hm8
   refine Wd (Qc (Nz 1 ?_))
   refine WS.callP rfl rfl Jlx (fun u hu=>RdX.lw (Jhr (star _) xb ⟨sx.r,k,w8⟩ (St.tailPack (hu)))) (fun _=>rfl) (fun hq u hu=>lpan [1,1] (by have hq_:=Jki (m:=2) hq; rw [hL,hki]; simp [Ja3,Jdl,hn3,hm4,hn5,hm6,hm7,hm8,hq_]) hu rfl rfl rfl) ?_; rintro ⟨w9,t9⟩ ⟨hn9,hs9_⟩
   have hs9:w9.l <:+ Jao 32 t0:=hs9_.trans hs8
   have htt9:t9.size≤65536:=(Jdc (r:=sx.r) (k:=k) ht hs8).sz _ (Jdo hn9)
   refine WS.callP rfl rfl Juj (fun u hu=>RetN.st hu (Jeu t9 u (by omega))) (fun _=>rfl) (fun hq u hu=>lpan [2,2] (by have hm_:numW 2 _=_:=(Jk8 hn9).trans (congrArg _ hq); rw [hL,hki]; simp [Ja3,Jdl,hn3,hm4,hn5,hm6,hm7,hm8,hm_]) hu rfl rfl rfl) ?_; rintro sr hm9_
   have hm9:numW 2 _=_:=(Jk8 hn9).trans (congrArg _ hm9_)
   simp only [Option.map_some] at hm9
   refine Wz 1 ?_
   refine Ws 0 1 ?_
   refine Wd (Qc ?_)
   refine CS.weak (fun u hu=>St.unpack (L1:=Jam xb ⟨sx.r,k,w9⟩) hu) ?_
   refine CS.drawnTill 7 (k:=11) mixed rfl rfl ?_
   refine Tr 11 [1,2,3] ?_
   refine Tk 11 4 [] rfl (by first | exact Jaa (j:=0) rfl rfl rfl tk24 | exact Jaa (j:=1) rfl rfl rfl tk24 | exact Jaa (j:=2) rfl rfl rfl tk24 | exact Jaa (j:=3) rfl rfl rfl tk24 | exact Jaa (j:=4) rfl rfl rfl tk24 | exact Jaa (j:=5) rfl rfl rfl tk24 | exact Jaa (j:=6) rfl rfl rfl tk24 | exact Jaa (j:=7) rfl rfl rfl tk24 | exact Jaa (j:=8) rfl rfl rfl tk24 | exact Jaa (j:=9) rfl rfl rfl tk24 | exact Jaa (j:=10) rfl rfl rfl tk24 | exact Jaa (j:=11) rfl rfl rfl tk24 | exact Jab rfl (by assumption) rfl tk24) ?_
   refine Tk 11 5 [] rfl (by first | exact Jad (j:=9) rfl rfl tk65 | exact Jae (j:=9) rfl rfl (by rfl) tk65 | exact Jai rfl (by assumption) (by rfl) tk65 | exact Jaf (n:=4) (j:=9) rfl rfl rfl rfl tk65) ?_
   refine AT.takeP 0 rfl (by kernel_rfl) rfl (by kernel_rfl) (by kernel_rfl) rfl rfl (Jbg rfl) rfl rfl ?_
   refine To 6 rfl ?_
   refine WS.buildT1 cThing (a:=⟨nm,pl,st,sr⟩) sl24 zv65 rfl (by decide) (fun _=>rfl) ?_; intro v111
   refine Wd (Qt ?_)
   refine To 7 rfl ?_
   refine WS.appendT1 (C:=cThing) (a:=⟨nm,pl,st,sr⟩) (j:=3) (jz:=0) sl24 zv65 rfl (by decide) rfl rfl rfl rfl (w:=w) trivial (by (try simp only); omega) (by (try simp only); omega) (fun _=>rfl) (fun _=>rfl) ?_; intro v112 hv112
   refine Wd (Qt ?_)
   refine To 8 rfl ?_
   refine Wz 1 ?_
   refine Wd (Qt ?_)
   refine To 9 rfl ?_
   refine Wz 1 ?_
   refine Wd (Qt ?_)
   refine To 10 rfl ?_
   first | refine WS.store (j:=0) rfl rfl (by first | decide | omega | (simp; done) | (simp; omega) | exact Nat.le_of_ble_eq_true rfl) rfl (by first | rfl | assumption) tk24 rfl rfl ?_ | refine WS.store (j:=0) rfl rfl (by first | decide | omega | (simp; done) | (simp; omega) | exact Nat.le_of_ble_eq_true rfl) rfl (by first | rfl | assumption) tk24 (Jac _ _ _) rfl ?_ | refine WS.store (j:=1) rfl rfl (by first | decide | omega | (simp; done) | (simp; omega) | exact Nat.le_of_ble_eq_true rfl) rfl (by first | rfl | assumption) tk24 rfl rfl ?_ | refine WS.store (j:=1) rfl rfl (by first | decide | omega | (simp; done) | (simp; omega) | exact Nat.le_of_ble_eq_true rfl) rfl (by first | rfl | assumption) tk24 (Jac _ _ _) rfl ?_ | refine WS.store (j:=2) rfl rfl (by first | decide | omega | (simp; done) | (simp; omega) | exact Nat.le_of_ble_eq_true rfl) rfl (by first | rfl | assumption) tk24 rfl rfl ?_ | refine WS.store (j:=2) rfl rfl (by first | decide | omega | (simp; done) | (simp; omega) | exact Nat.le_of_ble_eq_true rfl) rfl (by first | rfl | assumption) tk24 (Jac _ _ _) rfl ?_ | refine WS.store (j:=3) rfl rfl (by first | decide | omega | (simp; done) | (simp; omega) | exact Nat.le_of_ble_eq_true rfl) rfl (by first | rfl | assumption) tk24 rfl rfl ?_ | refine WS.store (j:=3) rfl rfl (by first | decide | omega | (simp; done) | (simp; omega) | exact Nat.le_of_ble_eq_true rfl) rfl (by first | rfl | assumption) tk24 (Jac _ _ _) rfl ?_ | refine WS.store (j:=4) rfl rfl (by first | decide | omega | (simp; done) | (simp; omega) | exact Nat.le_of_ble_eq_true rfl) rfl (by first | rfl | assumption) tk24 rfl rfl ?_ | refine WS.store (j:=4) rfl rfl (by first | decide | omega | (simp; done) | (simp; omega) | exact Nat.le_of_ble_eq_true rfl) rfl (by first | rfl | assumption) tk24 (Jac _ _ _) rfl ?_ | refine WS.store (j:=5) rfl rfl (by first | decide | omega | (simp; done) | (simp; omega) | exact Nat.le_of_ble_eq_true rfl) rfl (by first | rfl | assumption) tk24 rfl rfl ?_ | refine WS.store (j:=5) rfl rfl (by first | decide | omega | (simp; done) | (simp; omega) | exact Nat.le_of_ble_eq_true rfl) rfl (by first | rfl | assumption) tk24 (Jac _ _ _) rfl ?_ | refine WS.store (j:=6) rfl rfl (by first | decide | omega | (simp; done) | (simp; omega) | exact Nat.le_of_ble_eq_true rfl) rfl (by first | rfl | assumption) tk24 rfl rfl ?_ | refine WS.store (j:=6) rfl rfl (by first | decide | omega | (simp; done) | (simp; omega) | exact Nat.le_of_ble_eq_true rfl) rfl (by first | rfl | assumption) tk24 (Jac _ _ _) rfl ?_ | refine WS.store (j:=7) rfl rfl (by first | decide | omega | (simp; done) | (simp; omega) | exact Nat.le_of_ble_eq_true rfl) rfl (by first | rfl | assumption) tk24 rfl rfl ?_ | refine WS.store (j:=7) rfl rfl (by first | decide | omega | (simp; done) | (simp; omega) | exact Nat.le_of_ble_eq_true rfl) rfl (by first | rfl | assumption) tk24 (Jac _ _ _) rfl ?_ | refine WS.store (j:=8) rfl rfl (by first | decide | omega | (simp; done) | (simp; omega) | exact Nat.le_of_ble_eq_true rfl) rfl (by first | rfl | assumption) tk24 rfl rfl ?_ | refine WS.store (j:=8) rfl rfl (by first | decide | omega | (simp; done) | (simp; omega) | exact Nat.le_of_ble_eq_true rfl) rfl (by first | rfl | assumption) tk24 (Jac _ _ _) rfl ?_ | refine WS.store (j:=9) rfl rfl (by first | decide | omega | (simp; done) | (simp; omega) | exact Nat.le_of_ble_eq_true rfl) rfl (by first | rfl | assumption) tk24 rfl rfl ?_ | refine WS.store (j:=9) rfl rfl (by first | decide | omega | (simp; done) | (simp; omega) | exact Nat.le_of_ble_eq_true rfl) rfl (by first | rfl | assumption) tk24 (Jac _ _ _) rfl ?_ | refine WS.store (j:=10) rfl rfl (by first | decide | omega | (simp; done) | (simp; omega) | exact Nat.le_of_ble_eq_true rfl) rfl (by first | rfl | assumption) tk24 rfl rfl ?_ | refine WS.store (j:=10) rfl rfl (by first | decide | omega | (simp; done) | (simp; omega) | exact Nat.le_of_ble_eq_true rfl) rfl (by first | rfl | assumption) tk24 (Jac _ _ _) rfl ?_ | refine WS.store (j:=11) rfl rfl (by first | decide | omega | (simp; done) | (simp; omega) | exact Nat.le_of_ble_eq_true rfl) rfl (by first | rfl | assumption) tk24 rfl rfl ?_ | refine WS.store (j:=11) rfl rfl (by first | decide | omega | (simp; done) | (simp; omega) | exact Nat.le_of_ble_eq_true rfl) rfl (by first | rfl | assumption) tk24 (Jac _ _ _) rfl ?_
   refine WS.sel [1,1,1,1,1,1,1,1,1,2,2] rfl ?_
   refine WS.weak (fun u hu=>St.pack (L1:=Jam xb ⟨{ sx.r with ths:=⟨v112,sx.r.ths.l++[⟨nm,pl,st,sr⟩]⟩ },k,w9⟩) hu) ?_
   refine Wd (Qt ?_)
   refine Te ?_
   exact Qb (QS.head ((⟨{ sx.r with ths:=⟨v112,sx.r.ths.l++[⟨nm,pl,st,sr⟩]⟩ },k,w9⟩,.thing ⟨nm,pl,st,sr⟩)) rfl rfl ⟨by rw [hki]; simp [Ja3,Jdl,hn3,hm4,hn5,hm6,hm7,hm8,hm9],by simp [Room.e,addL,Sl.e,nls,Pro.e,Way.e,Actn.e,Auto.e],rfl⟩)
  have hkn1:k≠1:=Jht hK.1 hk0 hk8 1 rfl hc2
  refine Nz 0 ?_
  refine Wk 1 (Ja2 rfl rfl) ?_
  refine Wd (Qc (CS.cond rfl ?_ ?_))<;>intro hc3<;>try simp only [bq] at hc3
  ·
   have hki:k=2:=Jho hK.1 hk0 hk8 2 rfl hc3
   refine Nz 1 ?_
   refine WS.callP rfl rfl Jq7 (fun u hu=>RdX.lw (Jjo (star _) xb ⟨sx.r,k,w1⟩ (St.tailPack (hu)) g hG (Jdc ht hs1))) (fun _=>rfl) (fun hq u hu=>lpan [0,0] (by rw [hL,hki]; simp [Ja3,Jje,hq]) hu rfl rfl rfl) ?_; rintro ⟨w3,nm⟩ ⟨hn3,hs3_⟩
   have hs3:w3.l <:+ Jao 32 t0:=hs3_.trans hs1
   refine Wk 0 (Db J1x zv67) ?_
   refine Wl 0 zv67 (fun _=>rfl) (fun _=>rfl) fun b8 hb8=>?_
   refine Wv 0 0 ?_
   refine Wd (Qc ?_)
   refine CS.cut (σ:=Sl ByteArray × Int) [120,121,122,123,124,125,126,127,128] (fun s=>[]) (fun s=>[rdr xb ⟨sx.r,k,s.1⟩,blk b8 [.string nm,.int .i64 s.2,.slice none 0 0] 67,blk b4 [.bool false] 4,R]) (fun s=>Jg4 sx.r w3.l=some (s.2,s.1.l)∧s.1.l <:+ Jao 32 t0) (fun _ _=>rfl) ?_ ?_
   ·
    refine Nz 1 ?_
    refine WS.callP rfl rfl Jjd (fun u hu=>RdX.lw (Jfs (star _) xb ⟨sx.r,k,w3⟩ (St.tailPack (hu.sel [1,0,0,0] rfl)) Jhc)) (fun _=>rfl) (fun hq u hu=>absurd hq (by simp)) ?_; rintro ⟨w4,b⟩ ⟨hn4,hs4_⟩
    have hs4:w4.l <:+ Jao 32 t0:=hs4_.trans hs3
    refine Wz 1 ?_
    refine Wd (Qc (CS.cond rfl ?_ ?_))<;>intro hc4<;>try simp only [bq] at hc4
    ·
     subst hc4
     obtain ⟨hng,hwg⟩:=Jls hn4
     replace hwg:w4.l=w3.l:=hwg
     replace hng:isW Jhc w4.l=false:=hwg ▸ hng
     refine Nz 1 ?_
     refine WS.callP rfl rfl Jjd (fun u hu=>RdX.lw (Jfs (star _) xb ⟨sx.r,k,w4⟩ (St.tailPack (hu)) atW)) (fun _=>rfl) (fun hq u hu=>absurd hq (by simp)) ?_; rintro ⟨w5,b⟩ ⟨hn5,hs5_⟩
     have hs5:w5.l <:+ Jao 32 t0:=hs5_.trans hs4
     refine WS.callP rfl rfl Jej (Jcp _) (fun _=>rfl) (fun hq u hu=>lpan [2,2] (by have hm_:=Jce hn5; rw [hq,if_neg (by decide)] at hm_; rw [hL,hki]; simp [Ja3,Jje,hn3,Jg4,hng,hwg.symm,hm_]) hu rfl rfl rfl) ?_; rintro ⟨⟩ hm5_
     have hm5:=Jce hn5
     rw [hm5_,if_pos rfl] at hm5
     refine Wd (Qc (Ny 1 ?_))
     refine WS.callP rfl rfl Jtr (fun u hu=>RdX.lw (Jg1 (star _) xb ⟨sx.r,k,w5⟩ (St.tailPack (hu)) g hG (Jdc ht hs5))) (fun _=>rfl) (fun hq u hu=>lpan [1,1] (by rw [hL,hki]; simp [Ja3,Jje,hn3,Jg4,hng,hwg.symm,hm5,hq]) hu rfl rfl rfl) ?_; rintro ⟨w6,pl⟩ ⟨hn6,hs6_⟩
     have hs6:w6.l <:+ Jao 32 t0:=hs6_.trans hs5
     refine Wz 1 ?_
     refine Ws 0 1 ?_
     exact Wd (QS.head ((w6,pl)) rfl rfl ⟨by simp [Jg4,hng,hwg.symm,hm5,hn6],hs6⟩)
    subst hc4
    obtain ⟨hng,hwg⟩:=Jmd hn4
    replace hwg:w4.l=w3.l.tail:=hwg
    exact Ck (QS.head ((w4, -1)) rfl rfl ⟨by simp [Jg4,hng,hwg],hs4⟩)
   intro q t hs
   obtain ⟨hn7,hs7⟩:=hs
   refine Nz 1 ?_
   refine WS.callP rfl rfl Jxb (fun u hu=>RdL.lw (Jpl (star _) xb ⟨sx.r,k,q.1⟩ (St.tailPack (hu)) g hG (Jdc ht hs7))) (fun _=>rfl) (fun hq u hu=>lpan [1,1] (by rw [hL,hki]; simp [Ja3,Jje,hn3,hn7,hq]) hu rfl rfl rfl) ?_; rintro ⟨w8,c⟩ ⟨hn8,hs8_,uc,hcx⟩
   have hco:=Sl.one hcx
   have hs8:w8.l <:+ Jao 32 t0:=hs8_.trans hs7
   refine Wz 1 ?_
   refine Ws 0 2 ?_
   refine Wd (Qc ?_)
   refine CS.weak (fun u hu=>St.unpack (L1:=Jam xb ⟨sx.r,k,w8⟩) hu) ?_
   refine CS.drawnTill 7 (k:=11) mixed rfl rfl ?_
   refine Tr 11 [1,2,3] ?_
   refine Tk 11 4 [] rfl (by first | exact Jaa (j:=0) rfl rfl rfl tk25 | exact Jaa (j:=1) rfl rfl rfl tk25 | exact Jaa (j:=2) rfl rfl rfl tk25 | exact Jaa (j:=3) rfl rfl rfl tk25 | exact Jaa (j:=4) rfl rfl rfl tk25 | exact Jaa (j:=5) rfl rfl rfl tk25 | exact Jaa (j:=6) rfl rfl rfl tk25 | exact Jaa (j:=7) rfl rfl rfl tk25 | exact Jaa (j:=8) rfl rfl rfl tk25 | exact Jaa (j:=9) rfl rfl rfl tk25 | exact Jaa (j:=10) rfl rfl rfl tk25 | exact Jaa (j:=11) rfl rfl rfl tk25 | exact Jab rfl (by assumption) rfl tk25) ?_
   refine Tk 11 5 [] rfl (by first | exact Jad (j:=10) rfl rfl tk67 | exact Jae (j:=10) rfl rfl (by rfl) tk67 | exact Jai rfl (by assumption) (by rfl) tk67 | exact Jaf (n:=3) (j:=10) rfl rfl rfl rfl tk67) ?_
   refine AT.takeP 0 rfl (by kernel_rfl) rfl (by kernel_rfl) (by kernel_rfl) rfl rfl (Jbg rfl) rfl rfl ?_
   refine To 6 rfl ?_
   refine WS.buildT1 cPro (a:=⟨nm,q.2,c⟩) sl25 zv67 rfl (by decide) (fun _=>rfl) ?_; intro v138
   refine Wd (Qt ?_)
   refine To 7 rfl ?_
   refine WS.appendT1 (C:=cPro) (a:=⟨nm,q.2,c⟩) (j:=4) (jz:=0) sl25 zv67 rfl (by decide) rfl rfl rfl rfl (w:=uc) hcx (by (try simp only); omega) (by (try simp only); omega) (fun _=>rfl) (fun _=>rfl) ?_; intro v139 hv139
   refine Wd (Qt ?_)
   refine To 8 rfl ?_
   refine Wz 1 ?_
   refine Wd (Qt ?_)
   refine To 9 rfl ?_
   refine Wz 1 ?_
   refine Wd (Qt ?_)
   refine To 10 rfl ?_
   first | refine WS.store (j:=0) rfl rfl (by first | decide | omega | (simp; done) | (simp; omega) | exact Nat.le_of_ble_eq_true rfl) rfl (by first | rfl | assumption) tk25 rfl rfl ?_ | refine WS.store (j:=0) rfl rfl (by first | decide | omega | (simp; done) | (simp; omega) | exact Nat.le_of_ble_eq_true rfl) rfl (by first | rfl | assumption) tk25 (Jac _ _ _) rfl ?_ | refine WS.store (j:=1) rfl rfl (by first | decide | omega | (simp; done) | (simp; omega) | exact Nat.le_of_ble_eq_true rfl) rfl (by first | rfl | assumption) tk25 rfl rfl ?_ | refine WS.store (j:=1) rfl rfl (by first | decide | omega | (simp; done) | (simp; omega) | exact Nat.le_of_ble_eq_true rfl) rfl (by first | rfl | assumption) tk25 (Jac _ _ _) rfl ?_ | refine WS.store (j:=2) rfl rfl (by first | decide | omega | (simp; done) | (simp; omega) | exact Nat.le_of_ble_eq_true rfl) rfl (by first | rfl | assumption) tk25 rfl rfl ?_ | refine WS.store (j:=2) rfl rfl (by first | decide | omega | (simp; done) | (simp; omega) | exact Nat.le_of_ble_eq_true rfl) rfl (by first | rfl | assumption) tk25 (Jac _ _ _) rfl ?_ | refine WS.store (j:=3) rfl rfl (by first | decide | omega | (simp; done) | (simp; omega) | exact Nat.le_of_ble_eq_true rfl) rfl (by first | rfl | assumption) tk25 rfl rfl ?_ | refine WS.store (j:=3) rfl rfl (by first | decide | omega | (simp; done) | (simp; omega) | exact Nat.le_of_ble_eq_true rfl) rfl (by first | rfl | assumption) tk25 (Jac _ _ _) rfl ?_ | refine WS.store (j:=4) rfl rfl (by first | decide | omega | (simp; done) | (simp; omega) | exact Nat.le_of_ble_eq_true rfl) rfl (by first | rfl | assumption) tk25 rfl rfl ?_ | refine WS.store (j:=4) rfl rfl (by first | decide | omega | (simp; done) | (simp; omega) | exact Nat.le_of_ble_eq_true rfl) rfl (by first | rfl | assumption) tk25 (Jac _ _ _) rfl ?_ | refine WS.store (j:=5) rfl rfl (by first | decide | omega | (simp; done) | (simp; omega) | exact Nat.le_of_ble_eq_true rfl) rfl (by first | rfl | assumption) tk25 rfl rfl ?_ | refine WS.store (j:=5) rfl rfl (by first | decide | omega | (simp; done) | (simp; omega) | exact Nat.le_of_ble_eq_true rfl) rfl (by first | rfl | assumption) tk25 (Jac _ _ _) rfl ?_ | refine WS.store (j:=6) rfl rfl (by first | decide | omega | (simp; done) | (simp; omega) | exact Nat.le_of_ble_eq_true rfl) rfl (by first | rfl | assumption) tk25 rfl rfl ?_ | refine WS.store (j:=6) rfl rfl (by first | decide | omega | (simp; done) | (simp; omega) | exact Nat.le_of_ble_eq_true rfl) rfl (by first | rfl | assumption) tk25 (Jac _ _ _) rfl ?_ | refine WS.store (j:=7) rfl rfl (by first | decide | omega | (simp; done) | (simp; omega) | exact Nat.le_of_ble_eq_true rfl) rfl (by first | rfl | assumption) tk25 rfl rfl ?_ | refine WS.store (j:=7) rfl rfl (by first | decide | omega | (simp; done) | (simp; omega) | exact Nat.le_of_ble_eq_true rfl) rfl (by first | rfl | assumption) tk25 (Jac _ _ _) rfl ?_ | refine WS.store (j:=8) rfl rfl (by first | decide | omega | (simp; done) | (simp; omega) | exact Nat.le_of_ble_eq_true rfl) rfl (by first | rfl | assumption) tk25 rfl rfl ?_ | refine WS.store (j:=8) rfl rfl (by first | decide | omega | (simp; done) | (simp; omega) | exact Nat.le_of_ble_eq_true rfl) rfl (by first | rfl | assumption) tk25 (Jac _ _ _) rfl ?_ | refine WS.store (j:=9) rfl rfl (by first | decide | omega | (simp; done) | (simp; omega) | exact Nat.le_of_ble_eq_true rfl) rfl (by first | rfl | assumption) tk25 rfl rfl ?_ | refine WS.store (j:=9) rfl rfl (by first | decide | omega | (simp; done) | (simp; omega) | exact Nat.le_of_ble_eq_true rfl) rfl (by first | rfl | assumption) tk25 (Jac _ _ _) rfl ?_ | refine WS.store (j:=10) rfl rfl (by first | decide | omega | (simp; done) | (simp; omega) | exact Nat.le_of_ble_eq_true rfl) rfl (by first | rfl | assumption) tk25 rfl rfl ?_ | refine WS.store (j:=10) rfl rfl (by first | decide | omega | (simp; done) | (simp; omega) | exact Nat.le_of_ble_eq_true rfl) rfl (by first | rfl | assumption) tk25 (Jac _ _ _) rfl ?_ | refine WS.store (j:=11) rfl rfl (by first | decide | omega | (simp; done) | (simp; omega) | exact Nat.le_of_ble_eq_true rfl) rfl (by first | rfl | assumption) tk25 rfl rfl ?_ | refine WS.store (j:=11) rfl rfl (by first | decide | omega | (simp; done) | (simp; omega) | exact Nat.le_of_ble_eq_true rfl) rfl (by first | rfl | assumption) tk25 (Jac _ _ _) rfl ?_
   refine WS.sel [8,9,0,0,0,0,0,0,0,0,0,0,0,0] rfl ?_
   refine WS.weak (fun u hu=>Jkf (r:=elOk { sx.r with prs:=⟨v139,sx.r.prs.l++[⟨nm,q.2,c⟩]⟩ }) (fun u h1 h2=>elOk.prs (x:=⟨nm,q.2,c⟩) v139 h1 h2) hu) ?_
   refine WS.sel [2,2,2,2,2,2,2,0,1,2,2] rfl ?_
   refine WS.weak (fun u hu=>St.pack (L1:=Jam xb ⟨{ sx.r with prs:=⟨v139,sx.r.prs.l++[⟨nm,q.2,c⟩]⟩ },k,w8⟩) hu) ?_
   refine Wd (Qt ?_)
   refine Te ?_
   exact Qb (QS.head ((⟨{ sx.r with prs:=⟨v139,sx.r.prs.l++[⟨nm,q.2,c⟩]⟩ },k,w8⟩,.prop nm q.2 c.l)) rfl rfl ⟨by rw [hki]; simp [Ja3,Jje,hn3,hn7,hn8],by simp [Room.e,addL,Sl.e,nls,Pro.e,Way.e,Actn.e,Auto.e],rfl⟩)
  have hkn2:k≠2:=Jht hK.1 hk0 hk8 2 rfl hc3
  refine Nz 0 ?_
  refine Wk 1 (Ja2 rfl rfl) ?_
  refine Wd (Qc (CS.cond rfl ?_ ?_))<;>intro hc5<;>try simp only [bq] at hc5
  ·
   have hki:k=3:=Jho hK.1 hk0 hk8 3 rfl hc5
   refine CS.drawnTillC 13 ((fun u=>∃ wz:Sl ByteArray,True∧St w.heap.size w [rdr xb ⟨sx.r,k,wz⟩,blk b4 [.bool false] 4,R] u)) (k:=17) mixed rfl rfl ?_
   refine Tr 17 [1,2,3] ?_
   refine Tk 17 4 [5,7,9] rfl (Jig (v:=sx.r.wys.v) fun wz _=>Jnf rfl rfl tk26) ?_
   refine AT.takeP 0 rfl (by kernel_rfl) rfl (by kernel_rfl) (by kernel_rfl) rfl rfl (Jbg rfl) rfl rfl ?_
   refine AT.one (i:=6) (by kernel_rfl) rfl (fun _ u hu=>⟨w1,trivial,hu⟩) rfl ?_
   refine WS.callP rfl rfl Jtr (fun u hu=>RdX.lw (Jg1 (star _) xb ⟨sx.r,k,w1⟩ (St.tailPack (hu)) g hG (Jdc ht hs1))) (fun _=>rfl) (fun hq u hu=>fun a_ ha_ hk_=>lpan [0,0] (by rw [hL,hki]; simp [Ja3,wayW,hq]) hu rfl ha_ ((hk_ 4 (by decide)).trans rfl)) ?_; rintro ⟨w3,pa⟩ ⟨hn3,hs3_⟩
   have hs3:w3.l <:+ Jao 32 t0:=hs3_.trans hs1
   refine Wd (Qt ?_)
   refine AT.one (i:=8) (by kernel_rfl) rfl (fun _ u hu=>⟨w3,trivial,hu⟩) rfl ?_
   refine WS.callP rfl rfl Jtr (fun u hu=>RdX.lw (Jg1 (star _) xb ⟨sx.r,k,w3⟩ (St.tailPack (hu)) g hG (Jdc ht hs3))) (fun _=>rfl) (fun hq u hu=>fun a_ ha_ hk_=>lpan [0,0] (by rw [hL,hki]; simp [Ja3,wayW,hn3,hq]) hu rfl ha_ ((hk_ 4 (by decide)).trans rfl)) ?_; rintro ⟨w4,pb⟩ ⟨hn4,hs4_⟩
   have hs4:w4.l <:+ Jao 32 t0:=hs4_.trans hs3
   refine Wd (Qt ?_)
   refine AT.one (i:=10) (by kernel_rfl) rfl (fun _ u hu=>⟨w4,trivial,hu⟩) rfl ?_
   refine WS.callP rfl rfl Jxb (fun u hu=>RdL.lw (Jpl (star _) xb ⟨sx.r,k,w4⟩ (St.tailPack (hu)) g hG (Jdc ht hs4))) (fun _=>rfl) (fun hq u hu=>fun a_ ha_ hk_=>lpan [0,0] (by rw [hL,hki]; simp [Ja3,wayW,hn3,hn4,hq]) hu rfl ha_ ((hk_ 4 (by decide)).trans rfl)) ?_; rintro ⟨w8,c⟩ ⟨hn8,hs8_,uc,hcx⟩
   have hco:=Sl.one hcx
   have hs8:w8.l <:+ Jao 32 t0:=hs8_.trans hs4
   refine Wd (Qt ?_)
   refine Tk 17 11 [] rfl (Db J04 zv69) ?_
   refine AT.one (i:=12) (by kernel_rfl) rfl (fun _ u hu=>⟨w8,trivial,hu.sel [0,1,1] rfl⟩) rfl ?_
   refine WS.buildT1 cWay (a:=⟨pa,pb,c⟩) sl26 zv69 rfl (by decide) (fun _=>rfl) ?_; intro v156
   refine Wd (Qt ?_)
   refine AT.one (i:=13) (by kernel_rfl) rfl (fun _ u hu=>⟨w8,trivial,hu.sel [1,2,2] rfl⟩) rfl ?_
   refine WS.sel [1,0,0,0,0] rfl ?_
   refine WS.weak (fun u hu=>St.unpack (L1:=Jam xb ⟨sx.r,k,w8⟩) hu) ?_
   refine WS.appendT1 (C:=cWay) (a:=⟨pa,pb,c⟩) (j:=4) (jz:=9) sl26 zv69 rfl (by decide) rfl rfl rfl rfl (w:=uc) hcx (by (try simp only); omega) (by (try simp only); omega) (fun _=>rfl) (fun _=>rfl) ?_; intro v157 hv157
   refine Wd (Qt ?_)
   refine To 14 rfl ?_
   refine Wz 1 ?_
   refine Wd (Qt ?_)
   refine To 15 rfl ?_
   refine Wz 1 ?_
   refine Wd (Qt ?_)
   refine To 16 rfl ?_
   first | refine WS.store (j:=0) rfl rfl (by first | decide | omega | (simp; done) | (simp; omega) | exact Nat.le_of_ble_eq_true rfl) rfl (by first | rfl | assumption) tk26 rfl rfl ?_ | refine WS.store (j:=0) rfl rfl (by first | decide | omega | (simp; done) | (simp; omega) | exact Nat.le_of_ble_eq_true rfl) rfl (by first | rfl | assumption) tk26 (Jac _ _ _) rfl ?_ | refine WS.store (j:=1) rfl rfl (by first | decide | omega | (simp; done) | (simp; omega) | exact Nat.le_of_ble_eq_true rfl) rfl (by first | rfl | assumption) tk26 rfl rfl ?_ | refine WS.store (j:=1) rfl rfl (by first | decide | omega | (simp; done) | (simp; omega) | exact Nat.le_of_ble_eq_true rfl) rfl (by first | rfl | assumption) tk26 (Jac _ _ _) rfl ?_ | refine WS.store (j:=2) rfl rfl (by first | decide | omega | (simp; done) | (simp; omega) | exact Nat.le_of_ble_eq_true rfl) rfl (by first | rfl | assumption) tk26 rfl rfl ?_ | refine WS.store (j:=2) rfl rfl (by first | decide | omega | (simp; done) | (simp; omega) | exact Nat.le_of_ble_eq_true rfl) rfl (by first | rfl | assumption) tk26 (Jac _ _ _) rfl ?_ | refine WS.store (j:=3) rfl rfl (by first | decide | omega | (simp; done) | (simp; omega) | exact Nat.le_of_ble_eq_true rfl) rfl (by first | rfl | assumption) tk26 rfl rfl ?_ | refine WS.store (j:=3) rfl rfl (by first | decide | omega | (simp; done) | (simp; omega) | exact Nat.le_of_ble_eq_true rfl) rfl (by first | rfl | assumption) tk26 (Jac _ _ _) rfl ?_ | refine WS.store (j:=4) rfl rfl (by first | decide | omega | (simp; done) | (simp; omega) | exact Nat.le_of_ble_eq_true rfl) rfl (by first | rfl | assumption) tk26 rfl rfl ?_ | refine WS.store (j:=4) rfl rfl (by first | decide | omega | (simp; done) | (simp; omega) | exact Nat.le_of_ble_eq_true rfl) rfl (by first | rfl | assumption) tk26 (Jac _ _ _) rfl ?_ | refine WS.store (j:=5) rfl rfl (by first | decide | omega | (simp; done) | (simp; omega) | exact Nat.le_of_ble_eq_true rfl) rfl (by first | rfl | assumption) tk26 rfl rfl ?_ | refine WS.store (j:=5) rfl rfl (by first | decide | omega | (simp; done) | (simp; omega) | exact Nat.le_of_ble_eq_true rfl) rfl (by first | rfl | assumption) tk26 (Jac _ _ _) rfl ?_ | refine WS.store (j:=6) rfl rfl (by first | decide | omega | (simp; done) | (simp; omega) | exact Nat.le_of_ble_eq_true rfl) rfl (by first | rfl | assumption) tk26 rfl rfl ?_ | refine WS.store (j:=6) rfl rfl (by first | decide | omega | (simp; done) | (simp; omega) | exact Nat.le_of_ble_eq_true rfl) rfl (by first | rfl | assumption) tk26 (Jac _ _ _) rfl ?_ | refine WS.store (j:=7) rfl rfl (by first | decide | omega | (simp; done) | (simp; omega) | exact Nat.le_of_ble_eq_true rfl) rfl (by first | rfl | assumption) tk26 rfl rfl ?_ | refine WS.store (j:=7) rfl rfl (by first | decide | omega | (simp; done) | (simp; omega) | exact Nat.le_of_ble_eq_true rfl) rfl (by first | rfl | assumption) tk26 (Jac _ _ _) rfl ?_ | refine WS.store (j:=8) rfl rfl (by first | decide | omega | (simp; done) | (simp; omega) | exact Nat.le_of_ble_eq_true rfl) rfl (by first | rfl | assumption) tk26 rfl rfl ?_ | refine WS.store (j:=8) rfl rfl (by first | decide | omega | (simp; done) | (simp; omega) | exact Nat.le_of_ble_eq_true rfl) rfl (by first | rfl | assumption) tk26 (Jac _ _ _) rfl ?_ | refine WS.store (j:=9) rfl rfl (by first | decide | omega | (simp; done) | (simp; omega) | exact Nat.le_of_ble_eq_true rfl) rfl (by first | rfl | assumption) tk26 rfl rfl ?_ | refine WS.store (j:=9) rfl rfl (by first | decide | omega | (simp; done) | (simp; omega) | exact Nat.le_of_ble_eq_true rfl) rfl (by first | rfl | assumption) tk26 (Jac _ _ _) rfl ?_ | refine WS.store (j:=10) rfl rfl (by first | decide | omega | (simp; done) | (simp; omega) | exact Nat.le_of_ble_eq_true rfl) rfl (by first | rfl | assumption) tk26 rfl rfl ?_ | refine WS.store (j:=10) rfl rfl (by first | decide | omega | (simp; done) | (simp; omega) | exact Nat.le_of_ble_eq_true rfl) rfl (by first | rfl | assumption) tk26 (Jac _ _ _) rfl ?_ | refine WS.store (j:=11) rfl rfl (by first | decide | omega | (simp; done) | (simp; omega) | exact Nat.le_of_ble_eq_true rfl) rfl (by first | rfl | assumption) tk26 rfl rfl ?_ | refine WS.store (j:=11) rfl rfl (by first | decide | omega | (simp; done) | (simp; omega) | exact Nat.le_of_ble_eq_true rfl) rfl (by first | rfl | assumption) tk26 (Jac _ _ _) rfl ?_
   refine WS.sel [7,9,0,0,0,0,0,0,0,0,0,0,0] rfl ?_
   refine WS.weak (fun u hu=>Jkf (r:=elOk { sx.r with wys:=⟨v157,sx.r.wys.l++[⟨pa,pb,c⟩]⟩ }) (fun u h1 h2=>elOk.wys (x:=⟨pa,pb,c⟩) v157 h1 h2) hu) ?_
   refine WS.sel [1,1,1,1,1,1,1,0,0,1,1] rfl ?_
   refine WS.weak (fun u hu=>St.pack (L1:=Jam xb ⟨{ sx.r with wys:=⟨v157,sx.r.wys.l++[⟨pa,pb,c⟩]⟩ },k,w8⟩) hu) ?_
   refine Wd (Qt ?_)
   refine Te ?_
   exact Qb (QS.head ((⟨{ sx.r with wys:=⟨v157,sx.r.wys.l++[⟨pa,pb,c⟩]⟩ },k,w8⟩,.way pa pb c.l)) rfl rfl ⟨by rw [hki]; simp [Ja3,wayW,hn3,hn4,hn8],by simp [Room.e,addL,Sl.e,nls,Pro.e,Way.e,Actn.e,Auto.e],rfl⟩)
  have hkn3:k≠3:=Jht hK.1 hk0 hk8 3 rfl hc5
  refine Nz 0 ?_
  refine Wk 1 (Ja2 rfl rfl) ?_
  refine Wd (Qc (CS.cond rfl ?_ ?_))<;>intro hc6<;>try simp only [bq] at hc6
  ·
   have hki:k=4:=Jho hK.1 hk0 hk8 4 rfl hc6
   refine Nz 1 ?_
   refine WS.callP rfl rfl Jq7 (fun u hu=>RdX.lw (Jjo (star _) xb ⟨sx.r,k,w1⟩ (St.tailPack (hu)) g hG (Jdc ht hs1))) (fun _=>rfl) (fun hq u hu=>lpan [0,0] (by rw [hL,hki]; simp [Ja3,actW,hq]) hu rfl rfl rfl) ?_; rintro ⟨w3,nm⟩ ⟨hn3,hs3_⟩
   have hs3:w3.l <:+ Jao 32 t0:=hs3_.trans hs1
   refine Wk 0 (Db Jz9 zv73) ?_
   refine Wl 0 zv73 (fun _=>rfl) (fun _=>rfl) fun b9 hb9=>?_
   refine Wv 0 0 ?_
   refine Wd (Qc (Nz 1 ?_))
   refine WS.callP rfl rfl Jjd (fun u hu=>RdX.lw (Jfs (star _) xb ⟨sx.r,k,w3⟩ (St.tailPack (hu.sel [1,0,0,0] rfl)) atW)) (fun _=>rfl) (fun hq u hu=>absurd hq (by simp)) ?_; rintro ⟨w4,b⟩ ⟨hn4,hs4_⟩
   have hs4:w4.l <:+ Jao 32 t0:=hs4_.trans hs3
   refine WS.callP rfl rfl Jej (Jcp _) (fun _=>rfl) (fun hq u hu=>lpan [2,2] (by have hm_:=Jce hn4; rw [hq,if_neg (by decide)] at hm_; rw [hL,hki]; simp [Ja3,actW,hn3,hm_]) hu rfl rfl rfl) ?_; rintro ⟨⟩ hm4_
   have hm4:=Jce hn4
   rw [hm4_,if_pos rfl] at hm4
   refine Wd (Qc (Nz 1 ?_))
   refine WS.callP rfl rfl Jtr (fun u hu=>RdX.lw (Jg1 (star _) xb ⟨sx.r,k,w4⟩ (St.tailPack (hu)) g hG (Jdc ht hs4))) (fun _=>rfl) (fun hq u hu=>lpan [1,1] (by rw [hL,hki]; simp [Ja3,actW,hn3,hm4,hq]) hu rfl rfl rfl) ?_; rintro ⟨w5,pl⟩ ⟨hn5,hs5_⟩
   have hs5:w5.l <:+ Jao 32 t0:=hs5_.trans hs4
   refine Wz 1 ?_
   refine Ws 0 1 ?_
   refine Wd (Qc ?_)
   refine CS.cut (σ:=Sl ByteArray × Int) [171,172,173,174,175,176] (fun s=>[]) (fun s=>[rdr xb ⟨sx.r,k,s.1⟩,blk b9 [.string nm,.int .i64 pl,.int .i64 s.2,.slice none 0 0,.slice none 0 0,.slice none 0 0,.slice none 0 0,.slice none 0 0] 73,blk b4 [.bool false] 4,R]) (fun s=>Jew w5.l=some (s.2,s.1.l)∧s.1.l <:+ Jao 32 t0) (fun _ _=>rfl) ?_ ?_
   ·
    refine Nz 1 ?_
    refine WS.callP rfl rfl Jjd (fun u hu=>RdX.lw (Jfs (star _) xb ⟨sx.r,k,w5⟩ (St.tailPack (hu)) Ji8)) (fun _=>rfl) (fun hq u hu=>absurd hq (by simp)) ?_; rintro ⟨w6,b⟩ ⟨hn6,hs6_⟩
    have hs6:w6.l <:+ Jao 32 t0:=hs6_.trans hs5
    refine Wd (Qc (CS.cond rfl ?_ ?_))<;>intro hc7<;>try simp only [bq] at hc7
    ·
     subst hc7
     obtain ⟨hng,hwg⟩:=Jmd hn6
     replace hwg:w6.l=w5.l.tail:=hwg
     refine Ny 1 ?_
     refine WS.callP rfl rfl Jlx (fun u hu=>RdX.lw (Jhr (star _) xb ⟨sx.r,k,w6⟩ (St.tailPack (hu)))) (fun _=>rfl) (fun hq u hu=>lpan [1,1] (by have hq_:=Jki (m:=2) hq; rw [hL,hki]; simp [Ja3,actW,hn3,hm4,hn5,Jew,hng,hwg.symm,hq_]) hu rfl rfl rfl) ?_; rintro ⟨w7,t7⟩ ⟨hn7,hs7_⟩
     have hs7:w7.l <:+ Jao 32 t0:=hs7_.trans hs6
     have htt7:t7.size≤65536:=(Jdc (r:=sx.r) (k:=k) ht hs6).sz _ (Jdo hn7)
     refine WS.callP rfl rfl Juj (fun u hu=>RetN.st hu (Jeu t7 u (by omega))) (fun _=>rfl) (fun hq u hu=>lpan [2,2] (by have hm_:numW 2 _=_:=(Jk8 hn7).trans (congrArg _ hq); rw [hL,hki]; simp [Ja3,actW,hn3,hm4,hn5,Jew,hng,hwg.symm,hm_]) hu rfl rfl rfl) ?_; rintro lk hm7_
     have hm7:numW 2 _=_:=(Jk8 hn7).trans (congrArg _ hm7_)
     simp only [Option.map_some] at hm7
     refine Wz 1 ?_
     refine Ws 0 1 ?_
     exact Wd (QS.head ((w7,lk)) rfl rfl ⟨by simp [Jew,hng,hwg.symm,hm7],hs7⟩)
    subst hc7
    obtain ⟨hng,hwg⟩:=Jls hn6
    replace hwg:w6.l=w5.l:=hwg
    exact Ck (QS.head ((w6, -1)) rfl rfl ⟨by simp [Jew,hng,hwg],hs6⟩)
   intro q t hs
   obtain ⟨hn7,hs7⟩:=hs
   refine Nz 1 ?_
   refine WS.callP rfl rfl Jzf (fun u hu=>RdL.lw (Jus (star _) xb ⟨sx.r,k,q.1⟩ (St.tailPack (hu)) g hG (Jdc ht hs7) Jfa)) (fun _=>rfl) (fun hq u hu=>lpan [1,1] (by rw [hL,hki]; simp [Ja3,actW,hn3,hm4,hn5,hn7,hq]) hu rfl rfl rfl) ?_; rintro ⟨w8,us⟩ ⟨hn8,hs8_,uu,husx⟩
   have huso:=Sl.one husx
   have hs8:w8.l <:+ Jao 32 t0:=hs8_.trans hs7
   refine Wz 1 ?_
   refine WS.callP rfl rfl Jxb (fun u hu=>RdL.lw (Jpl (star _) xb ⟨sx.r,k,w8⟩ (St.tailPack (hu)) g hG (Jdc ht hs8))) (fun _=>rfl) (fun hq u hu=>lpan [2,2] (by rw [hL,hki]; simp [Ja3,actW,hn3,hm4,hn5,hn7,hn8,hq]) hu rfl rfl rfl) ?_; rintro ⟨w9,wh⟩ ⟨hn9,hs9_,uw,hwhx⟩
   have hwho:=Sl.one hwhx
   have hs9:w9.l <:+ Jao 32 t0:=hs9_.trans hs8
   refine Wz 1 ?_
   refine Ws 1 3 ?_
   refine Ws 0 3 ?_
   refine Wd (Qc ?_)
   refine CS.cut (σ:=Sl ByteArray × Sl Put) [183,184,185,186,187,188,189,190,191,192,193] (fun s=>[]) (fun s=>[rdr xb ⟨sx.r,k,s.1⟩,roT cPut s.2,roT cLit wh,roT cInt us,blk b9 [.string nm,.int .i64 pl,.int .i64 q.2,us.v,wh.v,s.2.v,.slice none 0 0,.slice none 0 0] 73,blk b4 [.bool false] 4,R]) (fun s=>Jks sx.r.ths.l w9.l=some (s.2.l,s.1.l)∧s.1.l <:+ Jao 32 t0∧∃ u0,SlT cPut u0 s.2) (fun _ _=>rfl) ?_ ?_
   ·
    refine Nz 1 ?_
    refine WS.callP rfl rfl Jjd (fun u hu=>RdX.lw (Jfs (star _) xb ⟨sx.r,k,w9⟩ (St.tailPack (hu)) ⟨#[115,101,116,115]⟩)) (fun _=>rfl) (fun hq u hu=>absurd hq (by simp)) ?_; rintro ⟨w10,b⟩ ⟨hn10,hs10_⟩
    have hs10:w10.l <:+ Jao 32 t0:=hs10_.trans hs9
    refine Wd (Qc (CS.cond rfl ?_ ?_))<;>intro hc8<;>try simp only [bq] at hc8
    ·
     subst hc8
     obtain ⟨hsg,hwsg⟩:=Jmd hn10
     replace hwsg:w10.l=w9.l.tail:=hwsg
     refine Nz 1 ?_
     refine WS.callP rfl rfl Jzk (fun u hu=>RdL.lw (Jsc (star _) xb ⟨sx.r,k,w10⟩ (St.tailPack (hu)) g hG (Jdc ht hs10))) (fun _=>rfl) (fun hq u hu=>lpan [3,3] (by rw [hL,hki]; simp [Ja3,actW,hn3,hm4,hn5,hn7,hn8,hn9,Jks,hsg,hwsg.symm,hq]) hu rfl rfl rfl) ?_; rintro ⟨w11,cc⟩ ⟨hn11,hs11_,uc,hcx⟩
     have hs11:w11.l <:+ Jao 32 t0:=hs11_.trans hs10
     have hcl:cc.l.length≤70000:=by have:=Jmr hn11; have:=(Jdc (r:=sx.r) (k:=k) ht hs10).len; simp only at *; omega
     refine WS.callP rfl rfl J08 (fun u hu=>RetNF.st hu (Jxz cc u (hu.ro (j:=1) rfl) hcl)) (fun _=>rfl) (fun hq u hu=>lpan [5,5] (by rw [hL,hki]; simp [Ja3,actW,hn3,hm4,hn5,hn7,hn8,hn9,Jks,hsg,hwsg.symm,hn11,hq]) hu rfl rfl rfl) ?_; rintro lp ⟨hlp,up,hlpx⟩
     have hlpo:=Sl.one hlpx
     refine Wz 1 ?_
     refine Ws 0 5 ?_
     refine Wd (Qc (Ny 1 ?_))
     refine Wk 0 (by first | exact Jaa (j:=5) rfl rfl rfl tk71 | exact Jab rfl (by assumption) rfl tk71) ?_
     refine Wk 1 (Nc (s:=lp)) ?_
     refine WS.callP rfl rfl Jej (Jcp _) (fun _=>rfl) (fun hq u hu=>lpan [6,6] (by have hlp0:lp.l=[]:=(by simpa using hq); rw [hL,hki]; simp [Ja3,actW,hn3,hm4,hn5,hn7,hn8,hn9,Jks,hsg,hwsg.symm,hn11,hlp,hlp0]) hu rfl rfl rfl) ?_; rintro ⟨⟩ hm12
     have hlp0:¬ lp.l=[]:=fun h=>by simp [h] at hm12
     refine Wd ?_
     refine QS.sel [1,0,1,1,1,1,1] rfl ?_
     skip
     exact QS.head ((w11,lp)) rfl rfl ⟨by simp [Jks,hsg,hwsg.symm,hn11,hlp,hlp0],hs11,up,hlpx⟩
    subst hc8
    obtain ⟨hsg,hwsg⟩:=Jls hn10
    replace hwsg:w10.l=w9.l:=hwsg
    refine Ck ?_
    refine QS.weak (fun u hu=>St.roTrue hu (p:=fun u=>SlT cPut u ⟨.slice none 0 0,[]⟩) (SlT.nil cPut)) ?_
    refine QS.sel [1,0,0,0,0,0,0] rfl ?_
    exact QS.head ((w10,⟨.slice none 0 0,[]⟩)) rfl rfl ⟨by simp [Jks,hsg,hwsg],hs10,w,SlT.nil _ _⟩
   intro z t hs
   obtain ⟨hn12,hs12,up,hlpx⟩:=hs
   have hlpo:=Sl.one hlpx
   refine Nz 1 ?_
   refine WS.callP rfl rfl Jzf (fun u hu=>RdL.lw (Jus (star _) xb ⟨sx.r,k,z.1⟩ (St.tailPack (hu)) g hG (Jdc ht hs12) Jb0)) (fun _=>rfl) (fun hq u hu=>lpan [4,4] (by rw [hL,hki]; simp [Ja3,actW,hn3,hm4,hn5,hn7,hn8,hn9,hn12,hq]) hu rfl rfl rfl) ?_; rintro ⟨w13,spd⟩ ⟨hn13,hs13_,ux,hspx⟩
   have hspo:=Sl.one hspx
   have hs13:w13.l <:+ Jao 32 t0:=hs13_.trans hs12
   refine Wz 1 ?_
   refine WS.callP rfl rfl Jzf (fun u hu=>RdL.lw (Jus (star _) xb ⟨sx.r,k,w13⟩ (St.tailPack (hu)) g hG (Jdc ht hs13) Jbu)) (fun _=>rfl) (fun hq u hu=>lpan [5,5] (by rw [hL,hki]; simp [Ja3,actW,hn3,hm4,hn5,hn7,hn8,hn9,hn12,hn13,hq]) hu rfl rfl rfl) ?_; rintro ⟨w14,brg⟩ ⟨hn14,hs14_,uy,hbrx⟩
   have hbro:=Sl.one hbrx
   have hs14:w14.l <:+ Jao 32 t0:=hs14_.trans hs13
   refine Wz 1 ?_
   refine Ws 1 6 ?_
   refine Ws 0 6 ?_
   refine Wd (Qc ?_)
   refine CS.stE fun hst=>?_
   obtain ⟨ua,hua⟩:=hst
   have hact:cAct.ok ua ⟨nm,pl,q.2,us,wh,z.2,spd,brg⟩:=⟨hua.ro (j:=5) rfl,hua.ro (j:=4) rfl,hua.ro (j:=3) rfl,hua.ro (j:=2) rfl,hua.ro (j:=1) rfl⟩
   refine CS.weak (fun u hu=>St.unpack (L1:=Jam xb ⟨sx.r,k,w14⟩) hu) ?_
   refine CS.drawnTill 7 (k:=11) mixed rfl rfl ?_
   refine Tr 11 [1,2,3] ?_
   refine Tk 11 4 [] rfl (by first | exact Jaa (j:=0) rfl rfl rfl tk27 | exact Jaa (j:=1) rfl rfl rfl tk27 | exact Jaa (j:=2) rfl rfl rfl tk27 | exact Jaa (j:=3) rfl rfl rfl tk27 | exact Jaa (j:=4) rfl rfl rfl tk27 | exact Jaa (j:=5) rfl rfl rfl tk27 | exact Jaa (j:=6) rfl rfl rfl tk27 | exact Jaa (j:=7) rfl rfl rfl tk27 | exact Jaa (j:=8) rfl rfl rfl tk27 | exact Jaa (j:=9) rfl rfl rfl tk27 | exact Jaa (j:=10) rfl rfl rfl tk27 | exact Jaa (j:=11) rfl rfl rfl tk27 | exact Jab rfl (by assumption) rfl tk27) ?_
   refine Tk 11 5 [] rfl (by first | exact Jad (j:=14) rfl rfl tk73 | exact Jae (j:=14) rfl rfl (by rfl) tk73 | exact Jai rfl (by assumption) (by rfl) tk73 | exact Jaf (n:=8) (j:=14) rfl rfl rfl rfl tk73) ?_
   refine AT.takeP 0 rfl (by kernel_rfl) rfl (by kernel_rfl) (by kernel_rfl) rfl rfl (Jbg rfl) rfl rfl ?_
   refine To 6 rfl ?_
   refine WS.buildT1 cAct (a:=⟨nm,pl,q.2,us,wh,z.2,spd,brg⟩) sl27 zv73 rfl (by decide) (fun _=>rfl) ?_; intro v206
   refine Wd (Qt ?_)
   refine To 7 rfl ?_
   refine WS.appendT1 (C:=cAct) (a:=⟨nm,pl,q.2,us,wh,z.2,spd,brg⟩) (j:=6) (jz:=0) sl27 zv73 rfl (by decide) rfl rfl rfl rfl (w:=ua) hact (by (try simp only); omega) (by (try simp only); omega) (fun _=>rfl) (fun _=>rfl) ?_; intro v207 hv207
   refine Wd (Qt ?_)
   refine To 8 rfl ?_
   refine Wz 1 ?_
   refine Wd (Qt ?_)
   refine To 9 rfl ?_
   refine Wz 1 ?_
   refine Wd (Qt ?_)
   refine To 10 rfl ?_
   first | refine WS.store (j:=0) rfl rfl (by first | decide | omega | (simp; done) | (simp; omega) | exact Nat.le_of_ble_eq_true rfl) rfl (by first | rfl | assumption) tk27 rfl rfl ?_ | refine WS.store (j:=0) rfl rfl (by first | decide | omega | (simp; done) | (simp; omega) | exact Nat.le_of_ble_eq_true rfl) rfl (by first | rfl | assumption) tk27 (Jac _ _ _) rfl ?_ | refine WS.store (j:=1) rfl rfl (by first | decide | omega | (simp; done) | (simp; omega) | exact Nat.le_of_ble_eq_true rfl) rfl (by first | rfl | assumption) tk27 rfl rfl ?_ | refine WS.store (j:=1) rfl rfl (by first | decide | omega | (simp; done) | (simp; omega) | exact Nat.le_of_ble_eq_true rfl) rfl (by first | rfl | assumption) tk27 (Jac _ _ _) rfl ?_ | refine WS.store (j:=2) rfl rfl (by first | decide | omega | (simp; done) | (simp; omega) | exact Nat.le_of_ble_eq_true rfl) rfl (by first | rfl | assumption) tk27 rfl rfl ?_ | refine WS.store (j:=2) rfl rfl (by first | decide | omega | (simp; done) | (simp; omega) | exact Nat.le_of_ble_eq_true rfl) rfl (by first | rfl | assumption) tk27 (Jac _ _ _) rfl ?_ | refine WS.store (j:=3) rfl rfl (by first | decide | omega | (simp; done) | (simp; omega) | exact Nat.le_of_ble_eq_true rfl) rfl (by first | rfl | assumption) tk27 rfl rfl ?_ | refine WS.store (j:=3) rfl rfl (by first | decide | omega | (simp; done) | (simp; omega) | exact Nat.le_of_ble_eq_true rfl) rfl (by first | rfl | assumption) tk27 (Jac _ _ _) rfl ?_ | refine WS.store (j:=4) rfl rfl (by first | decide | omega | (simp; done) | (simp; omega) | exact Nat.le_of_ble_eq_true rfl) rfl (by first | rfl | assumption) tk27 rfl rfl ?_ | refine WS.store (j:=4) rfl rfl (by first | decide | omega | (simp; done) | (simp; omega) | exact Nat.le_of_ble_eq_true rfl) rfl (by first | rfl | assumption) tk27 (Jac _ _ _) rfl ?_ | refine WS.store (j:=5) rfl rfl (by first | decide | omega | (simp; done) | (simp; omega) | exact Nat.le_of_ble_eq_true rfl) rfl (by first | rfl | assumption) tk27 rfl rfl ?_ | refine WS.store (j:=5) rfl rfl (by first | decide | omega | (simp; done) | (simp; omega) | exact Nat.le_of_ble_eq_true rfl) rfl (by first | rfl | assumption) tk27 (Jac _ _ _) rfl ?_ | refine WS.store (j:=6) rfl rfl (by first | decide | omega | (simp; done) | (simp; omega) | exact Nat.le_of_ble_eq_true rfl) rfl (by first | rfl | assumption) tk27 rfl rfl ?_ | refine WS.store (j:=6) rfl rfl (by first | decide | omega | (simp; done) | (simp; omega) | exact Nat.le_of_ble_eq_true rfl) rfl (by first | rfl | assumption) tk27 (Jac _ _ _) rfl ?_ | refine WS.store (j:=7) rfl rfl (by first | decide | omega | (simp; done) | (simp; omega) | exact Nat.le_of_ble_eq_true rfl) rfl (by first | rfl | assumption) tk27 rfl rfl ?_ | refine WS.store (j:=7) rfl rfl (by first | decide | omega | (simp; done) | (simp; omega) | exact Nat.le_of_ble_eq_true rfl) rfl (by first | rfl | assumption) tk27 (Jac _ _ _) rfl ?_ | refine WS.store (j:=8) rfl rfl (by first | decide | omega | (simp; done) | (simp; omega) | exact Nat.le_of_ble_eq_true rfl) rfl (by first | rfl | assumption) tk27 rfl rfl ?_ | refine WS.store (j:=8) rfl rfl (by first | decide | omega | (simp; done) | (simp; omega) | exact Nat.le_of_ble_eq_true rfl) rfl (by first | rfl | assumption) tk27 (Jac _ _ _) rfl ?_ | refine WS.store (j:=9) rfl rfl (by first | decide | omega | (simp; done) | (simp; omega) | exact Nat.le_of_ble_eq_true rfl) rfl (by first | rfl | assumption) tk27 rfl rfl ?_ | refine WS.store (j:=9) rfl rfl (by first | decide | omega | (simp; done) | (simp; omega) | exact Nat.le_of_ble_eq_true rfl) rfl (by first | rfl | assumption) tk27 (Jac _ _ _) rfl ?_ | refine WS.store (j:=10) rfl rfl (by first | decide | omega | (simp; done) | (simp; omega) | exact Nat.le_of_ble_eq_true rfl) rfl (by first | rfl | assumption) tk27 rfl rfl ?_ | refine WS.store (j:=10) rfl rfl (by first | decide | omega | (simp; done) | (simp; omega) | exact Nat.le_of_ble_eq_true rfl) rfl (by first | rfl | assumption) tk27 (Jac _ _ _) rfl ?_ | refine WS.store (j:=11) rfl rfl (by first | decide | omega | (simp; done) | (simp; omega) | exact Nat.le_of_ble_eq_true rfl) rfl (by first | rfl | assumption) tk27 rfl rfl ?_ | refine WS.store (j:=11) rfl rfl (by first | decide | omega | (simp; done) | (simp; omega) | exact Nat.le_of_ble_eq_true rfl) rfl (by first | rfl | assumption) tk27 (Jac _ _ _) rfl ?_
   refine WS.sel [8,13,12,11,10,9,0,0,0,0,0,0,0,0,0,0,0,0] rfl ?_
   refine WS.weak (fun u hu=>Ju9 (r:={ sx.r with acs:=⟨v207,sx.r.acs.l++[⟨nm,pl,q.2,us,wh,z.2,spd,brg⟩]⟩ }) (fun u h1 h2 h3 h4 h5 h6=>elOk.acs (x:=⟨nm,pl,q.2,us,wh,z.2,spd,brg⟩) v207 h1 ⟨h2,h3,h4,h5,h6⟩) hu) ?_
   refine WS.sel [2,2,2,2,2,2,2,0,1,2,2] rfl ?_
   refine WS.weak (fun u hu=>St.pack (L1:=Jam xb ⟨{ sx.r with acs:=⟨v207,sx.r.acs.l++[⟨nm,pl,q.2,us,wh,z.2,spd,brg⟩]⟩ },k,w14⟩) hu) ?_
   refine Wd (Qt ?_)
   refine Te ?_
   exact Qb (QS.head ((⟨{ sx.r with acs:=⟨v207,sx.r.acs.l++[⟨nm,pl,q.2,us,wh,z.2,spd,brg⟩]⟩ },k,w14⟩,.act nm pl q.2 us.l wh.l z.2.l spd.l brg.l)) rfl rfl ⟨by rw [hki]; simp [Ja3,actW,hn3,hm4,hn5,hn7,hn8,hn9,hn12,hn13,hn14],by simp [Room.e,addL,Sl.e,nls,Pro.e,Way.e,Actn.e,Auto.e],rfl⟩)
  have hkn4:k≠4:=Jht hK.1 hk0 hk8 4 rfl hc6
  refine Nz 0 ?_
  refine Wk 1 (Ja2 rfl rfl) ?_
  refine Wd (Qc (CS.cond rfl ?_ ?_))<;>intro hc9<;>try simp only [bq] at hc9
  ·
   have hki:k=5:=Jho hK.1 hk0 hk8 5 rfl hc9
   refine Nz 2 ?_
   refine WS.callP rfl rfl Jlx (fun u hu=>RdX.lw (Jhr (star _) xb ⟨sx.r,k,w1⟩ (St.tailPack (hu)))) (fun _=>rfl) (fun hq u hu=>lpan [0,0] (by rw [hL,hki]; simp [Ja3,Jjf,hq]) hu rfl rfl rfl) ?_; rintro ⟨w3,t3⟩ ⟨hn3,hs3_⟩
   have hs3:w3.l <:+ Jao 32 t0:=hs3_.trans hs1
   have htt3:t3.size≤65536:=(Jdc (r:=sx.r) (k:=k) ht hs1).sz _ (Jdo hn3)
   refine WS.callP rfl rfl J2u (fun u hu=>RdX.lw (J1f (star _) xb ⟨sx.r,k,w3⟩ (St.tailPack (hu)) t3 g hG (Jdc ht hs3) htt3)) (fun _=>rfl) (fun hq u hu=>lpan [0,0] (by have hq_:litT sx.r.ths.l t3=none:=Jpa hq; rw [hL,hki]; simp [Ja3,Jjf,hn3,hq_]) hu rfl rfl rfl) ?_; rintro ⟨w4,a⟩ ⟨ha,hs4_⟩
   obtain ⟨hla,hw4⟩:=Jop ha
   replace hw4:w3.l=w4.l:=hw4
   replace hla:litT sx.r.ths.l t3=some a:=hla
   have hs4:w4.l <:+ Jao 32 t0:=hs4_.trans hs3
   refine Wl 0 zv96 (fun _=>rfl) (fun _=>rfl) fun b10 hb10=>?_
   refine Wv 0 0 ?_
   refine Wd (Qc ?_)
   refine CS.sel [1,0,0,0] rfl ?_
   refine CS.drawnTillC 14 ((fun u=>∃ wz:Sl ByteArray,True∧St w.heap.size w [rdr xb ⟨sx.r,k,wz⟩,blk b10 (cLit.cells a) 96,blk b4 [.bool false] 4,R] u)) (k:=18) mixed rfl rfl ?_
   refine Tr 18 [1,2,3] ?_
   refine Tk 18 4 [] rfl (Jig (v:=sx.r.aus.v) fun wz _=>Jnf rfl rfl tk28) ?_
   refine Tk 18 5 [10] rfl (Jig fun wz _=>Jad (j:=1) rfl rfl tk96) ?_
   refine AT.takeP 0 rfl (by kernel_rfl) rfl (by kernel_rfl) (by kernel_rfl) rfl rfl (Jbg rfl) rfl rfl ?_
   refine AT.one (i:=6) (by kernel_rfl) rfl (fun _ u hu=>⟨w4,trivial,hu⟩) rfl ?_
   refine WS.buildT1 cLit (a:=a) sl29 zv96 rfl (by decide) (fun _=>rfl) ?_; intro v222
   refine Wd (Qt ?_)
   refine AT.one (i:=7) (by kernel_rfl) rfl (fun _ u hu=>⟨w4,trivial,hu.sel [1,1,1,1] rfl⟩) rfl ?_
   refine WS.callP rfl rfl J08 (fun u hu=>RetNF.st hu (Jxz ⟨v222,[a]⟩ u (Jaw hu (j:=0) rfl fun _ _=>trivial) (by simp))) (fun _=>rfl) (fun hq u hu=>fun a_ ha_ hk_=>lpan [3,3] (by have hnt:=Jwb hq; rw [hL,hki]; simp [Ja3,Jjf,hn3,hla,hnt]) hu rfl ha_ ((hk_ 4 (by decide)).trans rfl)) ?_; rintro lp ⟨hlp,up,hlpx⟩
   obtain ⟨hnt,hlp1⟩:=Js3 hlp
   have hll:(1:Int)=lp.l.length:=by rw [hlp1]; rfl
   refine Wd (Qt ?_)
   refine AT.le (fun u=>∃ wz:Sl ByteArray,True∧St w.heap.size w [rdr xb ⟨sx.r,k,wz⟩,roT cPut lp,blk b10 (cLit.cells a) 96,blk b4 [.bool false] 4,R] u) (fun u ⟨wz,_,h⟩=>⟨wz,trivial,h.sel [0,1,1,1] rfl⟩) ?_
   refine Tk 18 8 [] rfl (Jkp (s:=lp) sl71 rfl rfl hlpx rfl (by decide) (by omega)) ?_
   refine Tk 18 9 [] rfl (Jig fun wz _=>Jxh (jj:=1) (s:=lp) rfl rfl rfl ⟨by decide,by omega⟩ rfl tk75) ?_
   refine AT.one (i:=11) (by kernel_rfl) rfl (fun _ u hu=>⟨w4,trivial,hu.sel [2,0,1,1,1] rfl⟩) rfl ?_
   refine WS.callP rfl rfl Jxb (fun u hu=>RdL.lw (Jpl (star _) xb ⟨sx.r,k,w4⟩ (St.tailPack (hu.sel [2,0,0,0,0,0] rfl)) g hG (Jdc ht hs4))) (fun _=>rfl) (fun hq u hu=>fun a_ ha_ hk_=>lpan [3,3] (by rw [hL,hki]; simp [Ja3,Jjf,hn3,hla,hnt,hw4,hq]) hu rfl ha_ ((hk_ 4 (by decide)).trans rfl)) ?_; rintro ⟨w8,c⟩ ⟨hn8,hs8_,uc,hcx⟩
   have hco:=Sl.one hcx
   have hs8:w8.l <:+ Jao 32 t0:=hs8_.trans hs4
   refine Wd (Qt ?_)
   refine Tk 18 12 [] rfl (Jqu J44 zv77 (pcs:=[(1,[.int .i64 (nth lp.l 0).t,.int .i64 (nth lp.l 0).s]),(0,[c.v])]) rfl (CellsOf.agg (CellsOf.oneO hco CellsOf.nil)) rfl) ?_
   refine AT.one (i:=13) (by kernel_rfl) rfl (fun _ u hu=>⟨w8,trivial,hu.sel [0,1,2,2,2] rfl⟩) rfl ?_
   refine WS.buildT1 cAuto (a:=⟨c,(nth lp.l 0).t,(nth lp.l 0).s⟩) sl28 zv77 rfl (by decide) (fun _=>rfl) ?_; intro v229
   refine Wd (Qt ?_)
   refine AT.one (i:=14) (by kernel_rfl) rfl (fun _ u hu=>⟨w8,trivial,hu.sel [1,2,3,3,3] rfl⟩) rfl ?_
   refine WS.sel [1,0,0,0,0,0,0,0] rfl ?_
   refine WS.weak (fun u hu=>St.unpack (L1:=Jam xb ⟨sx.r,k,w8⟩) hu) ?_
   refine WS.appendT1 (C:=cAuto) (a:=⟨c,(nth lp.l 0).t,(nth lp.l 0).s⟩) (j:=6) (jz:=9) sl28 zv77 rfl (by decide) rfl rfl rfl rfl (w:=uc) hcx (by (try simp only); omega) (by (try simp only); omega) (fun _=>rfl) (fun _=>rfl) ?_; intro v230 hv230
   refine Wd (Qt ?_)
   refine To 15 rfl ?_
   refine Wz 1 ?_
   refine Wd (Qt ?_)
   refine To 16 rfl ?_
   refine Wz 1 ?_
   refine Wd (Qt ?_)
   refine To 17 rfl ?_
   first | refine WS.store (j:=0) rfl rfl (by first | decide | omega | (simp; done) | (simp; omega) | exact Nat.le_of_ble_eq_true rfl) rfl (by first | rfl | assumption) tk28 rfl rfl ?_ | refine WS.store (j:=0) rfl rfl (by first | decide | omega | (simp; done) | (simp; omega) | exact Nat.le_of_ble_eq_true rfl) rfl (by first | rfl | assumption) tk28 (Jac _ _ _) rfl ?_ | refine WS.store (j:=1) rfl rfl (by first | decide | omega | (simp; done) | (simp; omega) | exact Nat.le_of_ble_eq_true rfl) rfl (by first | rfl | assumption) tk28 rfl rfl ?_ | refine WS.store (j:=1) rfl rfl (by first | decide | omega | (simp; done) | (simp; omega) | exact Nat.le_of_ble_eq_true rfl) rfl (by first | rfl | assumption) tk28 (Jac _ _ _) rfl ?_ | refine WS.store (j:=2) rfl rfl (by first | decide | omega | (simp; done) | (simp; omega) | exact Nat.le_of_ble_eq_true rfl) rfl (by first | rfl | assumption) tk28 rfl rfl ?_ | refine WS.store (j:=2) rfl rfl (by first | decide | omega | (simp; done) | (simp; omega) | exact Nat.le_of_ble_eq_true rfl) rfl (by first | rfl | assumption) tk28 (Jac _ _ _) rfl ?_ | refine WS.store (j:=3) rfl rfl (by first | decide | omega | (simp; done) | (simp; omega) | exact Nat.le_of_ble_eq_true rfl) rfl (by first | rfl | assumption) tk28 rfl rfl ?_ | refine WS.store (j:=3) rfl rfl (by first | decide | omega | (simp; done) | (simp; omega) | exact Nat.le_of_ble_eq_true rfl) rfl (by first | rfl | assumption) tk28 (Jac _ _ _) rfl ?_ | refine WS.store (j:=4) rfl rfl (by first | decide | omega | (simp; done) | (simp; omega) | exact Nat.le_of_ble_eq_true rfl) rfl (by first | rfl | assumption) tk28 rfl rfl ?_ | refine WS.store (j:=4) rfl rfl (by first | decide | omega | (simp; done) | (simp; omega) | exact Nat.le_of_ble_eq_true rfl) rfl (by first | rfl | assumption) tk28 (Jac _ _ _) rfl ?_ | refine WS.store (j:=5) rfl rfl (by first | decide | omega | (simp; done) | (simp; omega) | exact Nat.le_of_ble_eq_true rfl) rfl (by first | rfl | assumption) tk28 rfl rfl ?_ | refine WS.store (j:=5) rfl rfl (by first | decide | omega | (simp; done) | (simp; omega) | exact Nat.le_of_ble_eq_true rfl) rfl (by first | rfl | assumption) tk28 (Jac _ _ _) rfl ?_ | refine WS.store (j:=6) rfl rfl (by first | decide | omega | (simp; done) | (simp; omega) | exact Nat.le_of_ble_eq_true rfl) rfl (by first | rfl | assumption) tk28 rfl rfl ?_ | refine WS.store (j:=6) rfl rfl (by first | decide | omega | (simp; done) | (simp; omega) | exact Nat.le_of_ble_eq_true rfl) rfl (by first | rfl | assumption) tk28 (Jac _ _ _) rfl ?_ | refine WS.store (j:=7) rfl rfl (by first | decide | omega | (simp; done) | (simp; omega) | exact Nat.le_of_ble_eq_true rfl) rfl (by first | rfl | assumption) tk28 rfl rfl ?_ | refine WS.store (j:=7) rfl rfl (by first | decide | omega | (simp; done) | (simp; omega) | exact Nat.le_of_ble_eq_true rfl) rfl (by first | rfl | assumption) tk28 (Jac _ _ _) rfl ?_ | refine WS.store (j:=8) rfl rfl (by first | decide | omega | (simp; done) | (simp; omega) | exact Nat.le_of_ble_eq_true rfl) rfl (by first | rfl | assumption) tk28 rfl rfl ?_ | refine WS.store (j:=8) rfl rfl (by first | decide | omega | (simp; done) | (simp; omega) | exact Nat.le_of_ble_eq_true rfl) rfl (by first | rfl | assumption) tk28 (Jac _ _ _) rfl ?_ | refine WS.store (j:=9) rfl rfl (by first | decide | omega | (simp; done) | (simp; omega) | exact Nat.le_of_ble_eq_true rfl) rfl (by first | rfl | assumption) tk28 rfl rfl ?_ | refine WS.store (j:=9) rfl rfl (by first | decide | omega | (simp; done) | (simp; omega) | exact Nat.le_of_ble_eq_true rfl) rfl (by first | rfl | assumption) tk28 (Jac _ _ _) rfl ?_ | refine WS.store (j:=10) rfl rfl (by first | decide | omega | (simp; done) | (simp; omega) | exact Nat.le_of_ble_eq_true rfl) rfl (by first | rfl | assumption) tk28 rfl rfl ?_ | refine WS.store (j:=10) rfl rfl (by first | decide | omega | (simp; done) | (simp; omega) | exact Nat.le_of_ble_eq_true rfl) rfl (by first | rfl | assumption) tk28 (Jac _ _ _) rfl ?_ | refine WS.store (j:=11) rfl rfl (by first | decide | omega | (simp; done) | (simp; omega) | exact Nat.le_of_ble_eq_true rfl) rfl (by first | rfl | assumption) tk28 rfl rfl ?_ | refine WS.store (j:=11) rfl rfl (by first | decide | omega | (simp; done) | (simp; omega) | exact Nat.le_of_ble_eq_true rfl) rfl (by first | rfl | assumption) tk28 (Jac _ _ _) rfl ?_
   refine WS.sel [7,9,0,0,0,0,0,0,0,0,0,0,0,0,0,0] rfl ?_
   refine WS.weak (fun u hu=>Jkf (r:=elOk { sx.r with aus:=⟨v230,sx.r.aus.l++[⟨c,(nth lp.l 0).t,(nth lp.l 0).s⟩]⟩ }) (fun u h1 h2=>elOk.aus (x:=⟨c,(nth lp.l 0).t,(nth lp.l 0).s⟩) v230 h1 h2) hu) ?_
   refine WS.sel [1,1,1,1,1,1,1,0,0,4,4] rfl ?_
   refine WS.weak (fun u hu=>St.pack (L1:=Jam xb ⟨{ sx.r with aus:=⟨v230,sx.r.aus.l++[⟨c,(nth lp.l 0).t,(nth lp.l 0).s⟩]⟩ },k,w8⟩) hu) ?_
   refine Wd (Qt ?_)
   refine Te ?_
   exact Qb (QS.head ((⟨{ sx.r with aus:=⟨v230,sx.r.aus.l++[⟨c,(nth lp.l 0).t,(nth lp.l 0).s⟩]⟩ },k,w8⟩,.auto a.t a.s c.l)) rfl rfl ⟨by rw [hki]; simp [Ja3,Jjf,hn3,hla,hnt,hw4,hn8],by simp [Room.e,addL,Sl.e,nls,Pro.e,Way.e,Actn.e,Auto.e,hlp1,nth],rfl⟩)
  have hkn5:k≠5:=Jht hK.1 hk0 hk8 5 rfl hc9
  refine Nz 0 ?_
  refine Wk 1 (Ja2 rfl rfl) ?_
  refine Wd (Qc (CS.cond rfl ?_ ?_))<;>intro hc10<;>try simp only [bq] at hc10
  ·
   have hki:k=6:=Jho hK.1 hk0 hk8 6 rfl hc10
   refine Ny 2 ?_
   refine WS.callP rfl rfl Jlx (fun u hu=>RdX.lw (Jhr (star _) xb ⟨sx.r,k,w1⟩ (St.tailPack (hu)))) (fun _=>rfl) (fun hq u hu=>lpan [0,0] (by have hq_:=Jki (m:=2) hq; rw [hL,hki]; simp [Ja3,Jhz,hq_]) hu rfl rfl rfl) ?_; rintro ⟨w3,t3⟩ ⟨hn3,hs3_⟩
   have hs3:w3.l <:+ Jao 32 t0:=hs3_.trans hs1
   have htt3:t3.size≤65536:=(Jdc (r:=sx.r) (k:=k) ht hs1).sz _ (Jdo hn3)
   refine WS.callP rfl rfl Juj (fun u hu=>RetN.st hu (Jeu t3 u (by omega))) (fun _=>rfl) (fun hq u hu=>lpan [1,1] (by have hm_:numW 2 _=_:=(Jk8 hn3).trans (congrArg _ hq); rw [hL,hki]; simp [Ja3,Jhz,hm_]) hu rfl rfl rfl) ?_; rintro n hm3_
   have hm3:numW 2 _=_:=(Jk8 hn3).trans (congrArg _ hm3_)
   simp only [Option.map_some] at hm3
   refine Wz 2 ?_
   refine WS.weak (fun u hu=>St.unpack (L1:=Jam xb ⟨sx.r,k,w3⟩) hu) ?_
   first | refine WS.store (j:=0) rfl rfl (by first | decide | omega | (simp; done) | (simp; omega) | exact Nat.le_of_ble_eq_true rfl) rfl (by first | rfl | assumption) tk3 rfl rfl ?_ | refine WS.store (j:=0) rfl rfl (by first | decide | omega | (simp; done) | (simp; omega) | exact Nat.le_of_ble_eq_true rfl) rfl (by first | rfl | assumption) tk3 (Jac _ _ _) rfl ?_ | refine WS.store (j:=1) rfl rfl (by first | decide | omega | (simp; done) | (simp; omega) | exact Nat.le_of_ble_eq_true rfl) rfl (by first | rfl | assumption) tk3 rfl rfl ?_ | refine WS.store (j:=1) rfl rfl (by first | decide | omega | (simp; done) | (simp; omega) | exact Nat.le_of_ble_eq_true rfl) rfl (by first | rfl | assumption) tk3 (Jac _ _ _) rfl ?_ | refine WS.store (j:=2) rfl rfl (by first | decide | omega | (simp; done) | (simp; omega) | exact Nat.le_of_ble_eq_true rfl) rfl (by first | rfl | assumption) tk3 rfl rfl ?_ | refine WS.store (j:=2) rfl rfl (by first | decide | omega | (simp; done) | (simp; omega) | exact Nat.le_of_ble_eq_true rfl) rfl (by first | rfl | assumption) tk3 (Jac _ _ _) rfl ?_ | refine WS.store (j:=3) rfl rfl (by first | decide | omega | (simp; done) | (simp; omega) | exact Nat.le_of_ble_eq_true rfl) rfl (by first | rfl | assumption) tk3 rfl rfl ?_ | refine WS.store (j:=3) rfl rfl (by first | decide | omega | (simp; done) | (simp; omega) | exact Nat.le_of_ble_eq_true rfl) rfl (by first | rfl | assumption) tk3 (Jac _ _ _) rfl ?_ | refine WS.store (j:=4) rfl rfl (by first | decide | omega | (simp; done) | (simp; omega) | exact Nat.le_of_ble_eq_true rfl) rfl (by first | rfl | assumption) tk3 rfl rfl ?_ | refine WS.store (j:=4) rfl rfl (by first | decide | omega | (simp; done) | (simp; omega) | exact Nat.le_of_ble_eq_true rfl) rfl (by first | rfl | assumption) tk3 (Jac _ _ _) rfl ?_ | refine WS.store (j:=5) rfl rfl (by first | decide | omega | (simp; done) | (simp; omega) | exact Nat.le_of_ble_eq_true rfl) rfl (by first | rfl | assumption) tk3 rfl rfl ?_ | refine WS.store (j:=5) rfl rfl (by first | decide | omega | (simp; done) | (simp; omega) | exact Nat.le_of_ble_eq_true rfl) rfl (by first | rfl | assumption) tk3 (Jac _ _ _) rfl ?_ | refine WS.store (j:=6) rfl rfl (by first | decide | omega | (simp; done) | (simp; omega) | exact Nat.le_of_ble_eq_true rfl) rfl (by first | rfl | assumption) tk3 rfl rfl ?_ | refine WS.store (j:=6) rfl rfl (by first | decide | omega | (simp; done) | (simp; omega) | exact Nat.le_of_ble_eq_true rfl) rfl (by first | rfl | assumption) tk3 (Jac _ _ _) rfl ?_ | refine WS.store (j:=7) rfl rfl (by first | decide | omega | (simp; done) | (simp; omega) | exact Nat.le_of_ble_eq_true rfl) rfl (by first | rfl | assumption) tk3 rfl rfl ?_ | refine WS.store (j:=7) rfl rfl (by first | decide | omega | (simp; done) | (simp; omega) | exact Nat.le_of_ble_eq_true rfl) rfl (by first | rfl | assumption) tk3 (Jac _ _ _) rfl ?_ | refine WS.store (j:=8) rfl rfl (by first | decide | omega | (simp; done) | (simp; omega) | exact Nat.le_of_ble_eq_true rfl) rfl (by first | rfl | assumption) tk3 rfl rfl ?_ | refine WS.store (j:=8) rfl rfl (by first | decide | omega | (simp; done) | (simp; omega) | exact Nat.le_of_ble_eq_true rfl) rfl (by first | rfl | assumption) tk3 (Jac _ _ _) rfl ?_ | refine WS.store (j:=9) rfl rfl (by first | decide | omega | (simp; done) | (simp; omega) | exact Nat.le_of_ble_eq_true rfl) rfl (by first | rfl | assumption) tk3 rfl rfl ?_ | refine WS.store (j:=9) rfl rfl (by first | decide | omega | (simp; done) | (simp; omega) | exact Nat.le_of_ble_eq_true rfl) rfl (by first | rfl | assumption) tk3 (Jac _ _ _) rfl ?_ | refine WS.store (j:=10) rfl rfl (by first | decide | omega | (simp; done) | (simp; omega) | exact Nat.le_of_ble_eq_true rfl) rfl (by first | rfl | assumption) tk3 rfl rfl ?_ | refine WS.store (j:=10) rfl rfl (by first | decide | omega | (simp; done) | (simp; omega) | exact Nat.le_of_ble_eq_true rfl) rfl (by first | rfl | assumption) tk3 (Jac _ _ _) rfl ?_ | refine WS.store (j:=11) rfl rfl (by first | decide | omega | (simp; done) | (simp; omega) | exact Nat.le_of_ble_eq_true rfl) rfl (by first | rfl | assumption) tk3 rfl rfl ?_ | refine WS.store (j:=11) rfl rfl (by first | decide | omega | (simp; done) | (simp; omega) | exact Nat.le_of_ble_eq_true rfl) rfl (by first | rfl | assumption) tk3 (Jac _ _ _) rfl ?_
   refine WS.sel [0,0,0,0,0,0,0,0,0,0,0] rfl ?_
   refine WS.weak (fun u hu=>St.pack (L1:=Jam xb ⟨{ sx.r with ply:=n },k,w3⟩) hu) ?_
   exact Wd (Qb (QS.head ((⟨{ sx.r with ply:=n },k,w3⟩,.players n)) rfl rfl ⟨by rw [hki]; simp [Ja3,Jhz,hm3],by simp [Room.e,addL,Sl.e,nls,Pro.e,Way.e,Actn.e,Auto.e],rfl⟩))
  have hkn6:k≠6:=Jht hK.1 hk0 hk8 6 rfl hc10
  refine Nz 0 ?_
  refine Wk 1 (Ja2 rfl rfl) ?_
  refine Wd (Qc (CS.cond rfl ?_ ?_))<;>intro hc11<;>try simp only [bq] at hc11
  ·
   have hki:k=7:=Jho hK.1 hk0 hk8 7 rfl hc11
   refine Ny 2 ?_
   refine WS.callP rfl rfl Jzk (fun u hu=>RdL.lw (Jsc (star _) xb ⟨sx.r,k,w1⟩ (St.tailPack (hu)) g hG (Jdc ht hs1))) (fun _=>rfl) (fun hq u hu=>lpan [0,0] (by rw [hL,hki]; simp [Ja3,Jw8,hq]) hu rfl rfl rfl) ?_; rintro ⟨w3,c⟩ ⟨hn3,hs3_,uc,hcx⟩
   have hco:=Sl.one hcx
   have hs3:w3.l <:+ Jao 32 t0:=hs3_.trans hs1
   refine Wz 2 ?_
   refine WS.weak (fun u hu=>St.unpack (L1:=Jam xb ⟨sx.r,k,w3⟩) hu) ?_
   first | refine WS.store (j:=0) rfl rfl (by first | decide | omega | (simp; done) | (simp; omega) | exact Nat.le_of_ble_eq_true rfl) rfl (by first | rfl | assumption) tk30 rfl rfl ?_ | refine WS.store (j:=0) rfl rfl (by first | decide | omega | (simp; done) | (simp; omega) | exact Nat.le_of_ble_eq_true rfl) rfl (by first | rfl | assumption) tk30 (Jac _ _ _) rfl ?_ | refine WS.store (j:=1) rfl rfl (by first | decide | omega | (simp; done) | (simp; omega) | exact Nat.le_of_ble_eq_true rfl) rfl (by first | rfl | assumption) tk30 rfl rfl ?_ | refine WS.store (j:=1) rfl rfl (by first | decide | omega | (simp; done) | (simp; omega) | exact Nat.le_of_ble_eq_true rfl) rfl (by first | rfl | assumption) tk30 (Jac _ _ _) rfl ?_ | refine WS.store (j:=2) rfl rfl (by first | decide | omega | (simp; done) | (simp; omega) | exact Nat.le_of_ble_eq_true rfl) rfl (by first | rfl | assumption) tk30 rfl rfl ?_ | refine WS.store (j:=2) rfl rfl (by first | decide | omega | (simp; done) | (simp; omega) | exact Nat.le_of_ble_eq_true rfl) rfl (by first | rfl | assumption) tk30 (Jac _ _ _) rfl ?_ | refine WS.store (j:=3) rfl rfl (by first | decide | omega | (simp; done) | (simp; omega) | exact Nat.le_of_ble_eq_true rfl) rfl (by first | rfl | assumption) tk30 rfl rfl ?_ | refine WS.store (j:=3) rfl rfl (by first | decide | omega | (simp; done) | (simp; omega) | exact Nat.le_of_ble_eq_true rfl) rfl (by first | rfl | assumption) tk30 (Jac _ _ _) rfl ?_ | refine WS.store (j:=4) rfl rfl (by first | decide | omega | (simp; done) | (simp; omega) | exact Nat.le_of_ble_eq_true rfl) rfl (by first | rfl | assumption) tk30 rfl rfl ?_ | refine WS.store (j:=4) rfl rfl (by first | decide | omega | (simp; done) | (simp; omega) | exact Nat.le_of_ble_eq_true rfl) rfl (by first | rfl | assumption) tk30 (Jac _ _ _) rfl ?_ | refine WS.store (j:=5) rfl rfl (by first | decide | omega | (simp; done) | (simp; omega) | exact Nat.le_of_ble_eq_true rfl) rfl (by first | rfl | assumption) tk30 rfl rfl ?_ | refine WS.store (j:=5) rfl rfl (by first | decide | omega | (simp; done) | (simp; omega) | exact Nat.le_of_ble_eq_true rfl) rfl (by first | rfl | assumption) tk30 (Jac _ _ _) rfl ?_ | refine WS.store (j:=6) rfl rfl (by first | decide | omega | (simp; done) | (simp; omega) | exact Nat.le_of_ble_eq_true rfl) rfl (by first | rfl | assumption) tk30 rfl rfl ?_ | refine WS.store (j:=6) rfl rfl (by first | decide | omega | (simp; done) | (simp; omega) | exact Nat.le_of_ble_eq_true rfl) rfl (by first | rfl | assumption) tk30 (Jac _ _ _) rfl ?_ | refine WS.store (j:=7) rfl rfl (by first | decide | omega | (simp; done) | (simp; omega) | exact Nat.le_of_ble_eq_true rfl) rfl (by first | rfl | assumption) tk30 rfl rfl ?_ | refine WS.store (j:=7) rfl rfl (by first | decide | omega | (simp; done) | (simp; omega) | exact Nat.le_of_ble_eq_true rfl) rfl (by first | rfl | assumption) tk30 (Jac _ _ _) rfl ?_ | refine WS.store (j:=8) rfl rfl (by first | decide | omega | (simp; done) | (simp; omega) | exact Nat.le_of_ble_eq_true rfl) rfl (by first | rfl | assumption) tk30 rfl rfl ?_ | refine WS.store (j:=8) rfl rfl (by first | decide | omega | (simp; done) | (simp; omega) | exact Nat.le_of_ble_eq_true rfl) rfl (by first | rfl | assumption) tk30 (Jac _ _ _) rfl ?_ | refine WS.store (j:=9) rfl rfl (by first | decide | omega | (simp; done) | (simp; omega) | exact Nat.le_of_ble_eq_true rfl) rfl (by first | rfl | assumption) tk30 rfl rfl ?_ | refine WS.store (j:=9) rfl rfl (by first | decide | omega | (simp; done) | (simp; omega) | exact Nat.le_of_ble_eq_true rfl) rfl (by first | rfl | assumption) tk30 (Jac _ _ _) rfl ?_ | refine WS.store (j:=10) rfl rfl (by first | decide | omega | (simp; done) | (simp; omega) | exact Nat.le_of_ble_eq_true rfl) rfl (by first | rfl | assumption) tk30 rfl rfl ?_ | refine WS.store (j:=10) rfl rfl (by first | decide | omega | (simp; done) | (simp; omega) | exact Nat.le_of_ble_eq_true rfl) rfl (by first | rfl | assumption) tk30 (Jac _ _ _) rfl ?_ | refine WS.store (j:=11) rfl rfl (by first | decide | omega | (simp; done) | (simp; omega) | exact Nat.le_of_ble_eq_true rfl) rfl (by first | rfl | assumption) tk30 rfl rfl ?_ | refine WS.store (j:=11) rfl rfl (by first | decide | omega | (simp; done) | (simp; omega) | exact Nat.le_of_ble_eq_true rfl) rfl (by first | rfl | assumption) tk30 (Jac _ _ _) rfl ?_
   refine WS.sel [7,8,0,0,0,0,0,0,0,0,0,0] rfl ?_
   refine WS.weak (fun u hu=>Jkf (r:=elOk { sx.r with gl:=c }) (fun u h1 h2=>h1.gl h2) hu) ?_
   refine WS.sel [1,1,1,1,1,1,1,0,0,0,0] rfl ?_
   refine WS.weak (fun u hu=>St.pack (L1:=Jam xb ⟨{ sx.r with gl:=c },k,w3⟩) hu) ?_
   exact Wd (Qb (QS.head ((⟨{ sx.r with gl:=c },k,w3⟩,.goal c.l)) rfl rfl ⟨by rw [hki]; simp [Ja3,Jw8,hn3],by simp [Room.e,addL,Sl.e,nls,Pro.e,Way.e,Actn.e,Auto.e],rfl⟩))
  exact absurd hk0 (by have:k≠7:=Jht hK.1 hk0 hk8 7 rfl hc11; omega)
 intro x t hs
 obtain ⟨hxb,hxe,hxk⟩:=hs
 refine Cs ?_
 refine CS.weak (fun u hu=>St.unpack (L1:=Jam xb x.1) hu) ?_
 refine CS.roE (j:=8) rfl fun hwx=>?_
 obtain ⟨uz,hwz⟩:=hwx
 refine Ny 3 ?_
 refine Wk 0 (by first | exact Jaa (j:=0) rfl rfl rfl tk23 | exact Jaa (j:=1) rfl rfl rfl tk23 | exact Jaa (j:=2) rfl rfl rfl tk23 | exact Jaa (j:=3) rfl rfl rfl tk23 | exact Jaa (j:=4) rfl rfl rfl tk23 | exact Jaa (j:=5) rfl rfl rfl tk23 | exact Jaa (j:=6) rfl rfl rfl tk23 | exact Jaa (j:=7) rfl rfl rfl tk23 | exact Jaa (j:=8) rfl rfl rfl tk23 | exact Jaa (j:=9) rfl rfl rfl tk23 | exact Jaa (j:=10) rfl rfl rfl tk23 | exact Jaa (j:=11) rfl rfl rfl tk23 | exact Jab rfl (by assumption) rfl tk23) ?_
 refine Wk 1 (Nc (s:=x.1.ws)) ?_
 refine WS.callP rfl rfl Jej (Jcp _) (fun _=>rfl) (fun hq u hu=>lpan [9,9] (by rw [hL,hxb]; simp only [Option.bind_some,finL]; rw [if_neg (fun h=>by simp [h] at hq)]) hu rfl rfl rfl) ?_; rintro ⟨⟩ hm47
 refine Wd (Qc (Nz 0 ?_))
 refine Ws 0 9 ?_
 refine Wd (Qc (Cr ?_))
 exact outD J2d (fun u=>Jqb _ u) (resc rfl (Jng (j:=9) rfl rfl rfl tk4)) (fun u hu=>.inl ⟨x.1,k,x.2,⟨by rw [hL,hxb]; simp only [Option.bind_some,finL]; rw [if_pos (by simpa using hm47)],hxe,hxk⟩,rfl,St.pack (L1:=Jam xb x.1) (hu.sel [0,0,0,0,0,0,0,0,0,1] rfl)⟩)
end Go.Proofs.YtkekjhcmephhjaaGreatDoor
