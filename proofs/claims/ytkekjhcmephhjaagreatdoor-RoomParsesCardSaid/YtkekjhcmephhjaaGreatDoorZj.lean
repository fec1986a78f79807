/- Merged texts of this proof (walks and plain laws), printed by a program of the prover. -/
import Derived.Test.YtkekjhcmephhjaaGreatDoorZi
set_option maxHeartbeats 8000000
namespace Go.Proofs.YtkekjhcmephhjaaGreatDoor
open Go.RowKit Go.Proofs
set_option maxRecDepth 100000
set_option linter.unusedVariables false
set_option linter.unusedSimpArgs false
section
variable {P:Program} {n0:Nat} {w0:World} {L:List SA} {l:List Value} {d:Option Tmp} {ty:TypeId} {ps:String} {af:Array Edge} {g:Option (Nat × Bool)} {α:Type} [Inhabited α] {C:Cel α}
theorem Jqt {T e:TypeId} {z j:Nat} {x:Operand} {v y:Value} {i:Int} {xs:List α} (hj:L[j]? = some (oT C e v xs)) (hx:evo l x=some (.pointer (some (sla v (i.toNat * 1))))) (hk:C.k=1) (h:0≤i∧i < xs.length)
  (hc:(C.cells (nth xs i))[0]? = some y) (hT:tk P T=some (false,z)):Det P (St n0 w0 L) ⟨d,.load T x,ty,ps,af,g⟩ l y :=
 Jgd 1 0 hj (by rw [hx,sla,Nat.add_zero]) hk h (by decide) hc hT
end
structure RlS where
 r:Room
 ws:Sl ByteArray
 bad:Bool
def el4 (r:Room) (u:World):Prop:=(∀ x∈r.prs.l,cPro.ok u x)∧(∀ x∈r.wys.l,cWay.ok u x)∧(∀ x∈r.acs.l,cAct.ok u x)∧(∀ x∈r.aus.l,cAuto.ok u x)
def Jbo (rb:Nat) (r:Room):List SA:=[blk rb (Room.cells r) 32,oT cStr 9 r.pls.v r.pls.l,oT cThing 65 r.ths.v r.ths.l,oT cPro 67 r.prs.v r.prs.l,oT cWay 69 r.wys.v r.wys.l,oT cAct 73 r.acs.v r.acs.l,
 oT cAuto 77 r.aus.v r.aus.l,roS (el4 r),oT cLit 96 r.gl.v r.gl.l]
def Jaj (lb rb:Nat) (s:RlS):List SA:=blk lb [.pointer (some ⟨rb,0,none⟩),s.ws.v,.bool s.bad] 146::roT cStr s.ws::Jbo rb s.r
def rl (lb rb:Nat) (s:RlS):SA:=star (Jaj lb rb s)
structure RlS.ok (s:RlS):Prop where
 sz:∀ y∈s.ws.l,y.size≤65536
 len:s.ws.l.length≤65537
def RlX {γ:Type} (w:World) (R:SA) (lb rb:Nat) (s:RlS) (spec:Option (γ × Wds)) (val:γ→Value) (pv:γ→Prop:=fun _=>True):Ending→World→Prop :=
 RetX (β:=RlS × γ) w R [] (fun x=>x.1.r=s.r∧x.1.ws.l <:+ s.ws.l∧Rel s.bad spec x.2 x.1.ws.l x.1.bad∧pv x.2) False (fun x=>val x.2) (fun x=>rl lb rb x.1)
theorem RlX.lw {γ:Type} {w u:World} {Ls:List SA} {lb rb:Nat} {s:RlS} {spec:Option (γ × Wds)} {val:γ→Value} {pv:γ→Prop} {f:FuncId} {args:Array Value} (h:Calls Tryz.prog f args u (RlX w (star Ls) lb rb s spec val pv)) :
  Calls Tryz.prog f args u (fun e u'=>(∃ x:(Sl ByteArray × Bool) × γ,(Rel s.bad spec x.2 x.1.1.l x.1.2∧x.1.1.l <:+ s.ws.l∧pv x.2)∧e = .returned (val x.2)∧St w.heap.size w (rl lb rb ⟨s.r,x.1.1,x.1.2⟩::Ls) u')∨(False∧e = .panicked []∧St w.heap.size w Ls u')):=by
 refine (RetX.ls h).mono ?_
 rintro e u' (⟨⟨s1,x⟩,⟨h1,h2,h3,h6⟩,h4,h5⟩ | h)
 ·
  refine .inl ⟨((s1.ws,s1.bad),x),⟨h3,h2,h6⟩,h4,?_⟩
  rw [← show s1.r=s.r from h1]; exact h5
 exact .inr h
theorem Jes {γ:Type} {w0 u:World} {R:SA} {lb rb:Nat} {s:RlS} {spec:Option (γ × Wds)} {val:γ→Value} {v:γ} {ws:Sl ByteArray} {b:Bool} (h:Rel s.bad spec v ws.l b) (hs:ws.l <:+ s.ws.l) (hu:St w0.heap.size w0 [rl lb rb ⟨s.r,ws,b⟩,R] u) {pv:γ→Prop} (hv:pv v:=by trivial):RlX w0 R lb rb s spec val pv (.returned (val v)) u :=
 .inl ⟨(⟨s.r,ws,b⟩,v),⟨rfl,hs,h,hv⟩,rfl,hu⟩
theorem Jnt {l:Wds} (h:(l.length:Int)=0):Jbq l=none:=by
 cases l with
 | nil=>rfl
 | cons a l=>simp only [List.length_cons] at h; omega
theorem Jvn {b b1:Bool} {t:ByteArray} {ws w:Wds} (h:Rel b (some (isW t ws,if isW t ws then ws.tail else ws)) true w b1):Rel b (Jix t ws) () w b1:=by
 refine ⟨h.bt,fun h1 h2=>?_,fun h1 h2=>?_⟩
 ·
  have:=Jbj (h.ok h1 h2)
  rw [Jix,this]; rfl
 cases h.no h1 h2
theorem Ju9 {b b1:Bool} {t:ByteArray} {ws w:Wds} (h:Rel b (some (isW t ws,if isW t ws then ws.tail else ws)) false w b1):Rel b (Jix t ws) () w true:=Rel.bad fun h1=>by
 cases h2:b1 with
 | false =>
  have:=Jbj (h.ok h1 h2)
  rw [Jix,this]; rfl
 | true=>cases h.no h1 h2
theorem Jwz {n0:Nat} {w0 u:World} {L:List SA} {lb rb:Nat} {s:RlS} (h:St n0 w0 (Jaj lb rb s++L) u):SlT cStr u s.r.pls:=Jcp h (j:=3) rfl fun _ _=>trivial
theorem Jyc {n0:Nat} {w0 u:World} {L:List SA} {lb rb:Nat} {s:RlS} (h:St n0 w0 (Jaj lb rb s++L) u):SlT cThing u s.r.ths:=Jcp h (j:=4) rfl fun _ _=>trivial
theorem Jwr {n0:Nat} {w0 u:World} {L:List SA} {lb rb:Nat} {s:RlS} (h:St n0 w0 (Jaj lb rb s++L) u):SlT cPro u s.r.prs:=Jcp h (j:=5) rfl ((h.ro (j:=9) rfl:el4 s.r u).1)
theorem Jk3 {w u:World} (R:SA) (lb rb:Nat) (sx:RlS) (hu:St w.heap.size w [rl lb rb sx,R] u) (hz:sx.ok) :
  Calls Tryz.prog 88 #[.pointer (some ⟨lb,0,none⟩)] u (RlX w R lb rb sx (Jbq sx.ws.l) .string (fun y=>y.size≤65536)):=by
 refine Jbf hu Tryz.func88 rfl rfl (Nat.le_of_ble_eq_true rfl) ?_
 refine CS.weak (fun u hu=>St.unpack (L1:=Jaj lb rb sx) hu) ?_
 refine CS.roE (j:=1) rfl fun hwx=>?_
 obtain ⟨uw,hw⟩:=hwx
 refine Nz 1 ?_
 refine Wd (Qc (Cs (Nz 3 ?_)))
 refine Wk 0 (by first | exact Jaa (j:=0) rfl rfl rfl tk23 | exact Jaa (j:=1) rfl rfl rfl tk23 | exact Jaa (j:=2) rfl rfl rfl tk23 | exact Jaa (j:=3) rfl rfl rfl tk23 | exact Jaa (j:=4) rfl rfl rfl tk23 | exact Jaa (j:=5) rfl rfl rfl tk23 | exact Jaa (j:=6) rfl rfl rfl tk23 | exact Jaa (j:=7) rfl rfl rfl tk23 | exact Jaa (j:=8) rfl rfl rfl tk23 | exact Jaa (j:=9) rfl rfl rfl tk23 | exact Jaa (j:=10) rfl rfl rfl tk23 | exact Jaa (j:=11) rfl rfl rfl tk23 | exact Jaa (j:=12) rfl rfl rfl tk23 | exact Jaa (j:=13) rfl rfl rfl tk23 | exact Jah rfl (by assumption) rfl tk23) ?_
 refine Wk 1 (Nc (s:=sx.ws)) ?_
 refine Wd (Qc (CS.cond rfl ?_ ?_))<;>intro hc1<;>try simp only [bq] at hc1
 ·
  refine Nz 3 ?_
  first | refine WS.store (j:=0) rfl rfl (by first | decide | omega | (simp; done) | (simp; omega) | exact Nat.le_of_ble_eq_true rfl) rfl (by first | rfl | assumption) tk4 rfl rfl ?_ | refine WS.store (j:=0) rfl rfl (by first | decide | omega | (simp; done) | (simp; omega) | exact Nat.le_of_ble_eq_true rfl) rfl (by first | rfl | assumption) tk4 (Jab _ _ _) rfl ?_ | refine WS.store (j:=1) rfl rfl (by first | decide | omega | (simp; done) | (simp; omega) | exact Nat.le_of_ble_eq_true rfl) rfl (by first | rfl | assumption) tk4 rfl rfl ?_ | refine WS.store (j:=1) rfl rfl (by first | decide | omega | (simp; done) | (simp; omega) | exact Nat.le_of_ble_eq_true rfl) rfl (by first | rfl | assumption) tk4 (Jab _ _ _) rfl ?_ | refine WS.store (j:=2) rfl rfl (by first | decide | omega | (simp; done) | (simp; omega) | exact Nat.le_of_ble_eq_true rfl) rfl (by first | rfl | assumption) tk4 rfl rfl ?_ | refine WS.store (j:=2) rfl rfl (by first | decide | omega | (simp; done) | (simp; omega) | exact Nat.le_of_ble_eq_true rfl) rfl (by first | rfl | assumption) tk4 (Jab _ _ _) rfl ?_ | refine WS.store (j:=3) rfl rfl (by first | decide | omega | (simp; done) | (simp; omega) | exact Nat.le_of_ble_eq_true rfl) rfl (by first | rfl | assumption) tk4 rfl rfl ?_ | refine WS.store (j:=3) rfl rfl (by first | decide | omega | (simp; done) | (simp; omega) | exact Nat.le_of_ble_eq_true rfl) rfl (by first | rfl | assumption) tk4 (Jab _ _ _) rfl ?_ | refine WS.store (j:=4) rfl rfl (by first | decide | omega | (simp; done) | (simp; omega) | exact Nat.le_of_ble_eq_true rfl) rfl (by first | rfl | assumption) tk4 rfl rfl ?_ | refine WS.store (j:=4) rfl rfl (by first | decide | omega | (simp; done) | (simp; omega) | exact Nat.le_of_ble_eq_true rfl) rfl (by first | rfl | assumption) tk4 (Jab _ _ _) rfl ?_ | refine WS.store (j:=5) rfl rfl (by first | decide | omega | (simp; done) | (simp; omega) | exact Nat.le_of_ble_eq_true rfl) rfl (by first | rfl | assumption) tk4 rfl rfl ?_ | refine WS.store (j:=5) rfl rfl (by first | decide | omega | (simp; done) | (simp; omega) | exact Nat.le_of_ble_eq_true rfl) rfl (by first | rfl | assumption) tk4 (Jab _ _ _) rfl ?_ | refine WS.store (j:=6) rfl rfl (by first | decide | omega | (simp; done) | (simp; omega) | exact Nat.le_of_ble_eq_true rfl) rfl (by first | rfl | assumption) tk4 rfl rfl ?_ | refine WS.store (j:=6) rfl rfl (by first | decide | omega | (simp; done) | (simp; omega) | exact Nat.le_of_ble_eq_true rfl) rfl (by first | rfl | assumption) tk4 (Jab _ _ _) rfl ?_ | refine WS.store (j:=7) rfl rfl (by first | decide | omega | (simp; done) | (simp; omega) | exact Nat.le_of_ble_eq_true rfl) rfl (by first | rfl | assumption) tk4 rfl rfl ?_ | refine WS.store (j:=7) rfl rfl (by first | decide | omega | (simp; done) | (simp; omega) | exact Nat.le_of_ble_eq_true rfl) rfl (by first | rfl | assumption) tk4 (Jab _ _ _) rfl ?_ | refine WS.store (j:=8) rfl rfl (by first | decide | omega | (simp; done) | (simp; omega) | exact Nat.le_of_ble_eq_true rfl) rfl (by first | rfl | assumption) tk4 rfl rfl ?_ | refine WS.store (j:=8) rfl rfl (by first | decide | omega | (simp; done) | (simp; omega) | exact Nat.le_of_ble_eq_true rfl) rfl (by first | rfl | assumption) tk4 (Jab _ _ _) rfl ?_ | refine WS.store (j:=9) rfl rfl (by first | decide | omega | (simp; done) | (simp; omega) | exact Nat.le_of_ble_eq_true rfl) rfl (by first | rfl | assumption) tk4 rfl rfl ?_ | refine WS.store (j:=9) rfl rfl (by first | decide | omega | (simp; done) | (simp; omega) | exact Nat.le_of_ble_eq_true rfl) rfl (by first | rfl | assumption) tk4 (Jab _ _ _) rfl ?_ | refine WS.store (j:=10) rfl rfl (by first | decide | omega | (simp; done) | (simp; omega) | exact Nat.le_of_ble_eq_true rfl) rfl (by first | rfl | assumption) tk4 rfl rfl ?_ | refine WS.store (j:=10) rfl rfl (by first | decide | omega | (simp; done) | (simp; omega) | exact Nat.le_of_ble_eq_true rfl) rfl (by first | rfl | assumption) tk4 (Jab _ _ _) rfl ?_ | refine WS.store (j:=11) rfl rfl (by first | decide | omega | (simp; done) | (simp; omega) | exact Nat.le_of_ble_eq_true rfl) rfl (by first | rfl | assumption) tk4 rfl rfl ?_ | refine WS.store (j:=11) rfl rfl (by first | decide | omega | (simp; done) | (simp; omega) | exact Nat.le_of_ble_eq_true rfl) rfl (by first | rfl | assumption) tk4 (Jab _ _ _) rfl ?_ | refine WS.store (j:=12) rfl rfl (by first | decide | omega | (simp; done) | (simp; omega) | exact Nat.le_of_ble_eq_true rfl) rfl (by first | rfl | assumption) tk4 rfl rfl ?_ | refine WS.store (j:=12) rfl rfl (by first | decide | omega | (simp; done) | (simp; omega) | exact Nat.le_of_ble_eq_true rfl) rfl (by first | rfl | assumption) tk4 (Jab _ _ _) rfl ?_ | refine WS.store (j:=13) rfl rfl (by first | decide | omega | (simp; done) | (simp; omega) | exact Nat.le_of_ble_eq_true rfl) rfl (by first | rfl | assumption) tk4 rfl rfl ?_ | refine WS.store (j:=13) rfl rfl (by first | decide | omega | (simp; done) | (simp; omega) | exact Nat.le_of_ble_eq_true rfl) rfl (by first | rfl | assumption) tk4 (Jab _ _ _) rfl ?_
  refine Wd (Qc (Nz 1 ?_))
  exact Wd (Qc (Cr (Qr (out1 rfl rfl (fun u hu=>Jes (ws:=sx.ws) (Rel.bad fun _=>Jnt hc1) (List.suffix_refl _) (St.pack (L1:=Jaj lb rb ⟨sx.r,sx.ws,true⟩) hu) (by decide))))))
 have hoc:(sub2 1 sx.ws.v 1 sx.ws.l.length).oneCell'=true:=Sl.one (hw.cut (lo:=1) (hi:=sx.ws.l.length) (by omega) (Nat.le_refl _))
 refine Ck (Qc (Nz 3 ?_))
 refine Wk 0 (by first | exact Jaa (j:=0) rfl rfl rfl tk23 | exact Jaa (j:=1) rfl rfl rfl tk23 | exact Jaa (j:=2) rfl rfl rfl tk23 | exact Jaa (j:=3) rfl rfl rfl tk23 | exact Jaa (j:=4) rfl rfl rfl tk23 | exact Jaa (j:=5) rfl rfl rfl tk23 | exact Jaa (j:=6) rfl rfl rfl tk23 | exact Jaa (j:=7) rfl rfl rfl tk23 | exact Jaa (j:=8) rfl rfl rfl tk23 | exact Jaa (j:=9) rfl rfl rfl tk23 | exact Jaa (j:=10) rfl rfl rfl tk23 | exact Jaa (j:=11) rfl rfl rfl tk23 | exact Jaa (j:=12) rfl rfl rfl tk23 | exact Jaa (j:=13) rfl rfl rfl tk23 | exact Jah rfl (by assumption) rfl tk23) ?_
 refine Wk 0 (Xc (s:=sx.ws)) ?_
 refine Wk 1 (Vb 1 rfl (s:=sx.ws)) ?_
 refine Wd (Qc (Nz 4 ?_))
 refine Wk 0 (by first | exact Jaa (j:=0) rfl rfl rfl tk23 | exact Jaa (j:=1) rfl rfl rfl tk23 | exact Jaa (j:=2) rfl rfl rfl tk23 | exact Jaa (j:=3) rfl rfl rfl tk23 | exact Jaa (j:=4) rfl rfl rfl tk23 | exact Jaa (j:=5) rfl rfl rfl tk23 | exact Jaa (j:=6) rfl rfl rfl tk23 | exact Jaa (j:=7) rfl rfl rfl tk23 | exact Jaa (j:=8) rfl rfl rfl tk23 | exact Jaa (j:=9) rfl rfl rfl tk23 | exact Jaa (j:=10) rfl rfl rfl tk23 | exact Jaa (j:=11) rfl rfl rfl tk23 | exact Jaa (j:=12) rfl rfl rfl tk23 | exact Jaa (j:=13) rfl rfl rfl tk23 | exact Jah rfl (by assumption) rfl tk23) ?_
 refine Wk 2 (Jdm sl23 rfl rfl hw.sp (by decide) (by omega)) ?_
 first | refine WS.store (j:=0) rfl rfl (by first | decide | omega | (simp; done) | (simp; omega) | exact Nat.le_of_ble_eq_true rfl) rfl (by first | rfl | assumption) tk23 rfl rfl ?_ | refine WS.store (j:=0) rfl rfl (by first | decide | omega | (simp; done) | (simp; omega) | exact Nat.le_of_ble_eq_true rfl) rfl (by first | rfl | assumption) tk23 (Jab _ _ _) rfl ?_ | refine WS.store (j:=1) rfl rfl (by first | decide | omega | (simp; done) | (simp; omega) | exact Nat.le_of_ble_eq_true rfl) rfl (by first | rfl | assumption) tk23 rfl rfl ?_ | refine WS.store (j:=1) rfl rfl (by first | decide | omega | (simp; done) | (simp; omega) | exact Nat.le_of_ble_eq_true rfl) rfl (by first | rfl | assumption) tk23 (Jab _ _ _) rfl ?_ | refine WS.store (j:=2) rfl rfl (by first | decide | omega | (simp; done) | (simp; omega) | exact Nat.le_of_ble_eq_true rfl) rfl (by first | rfl | assumption) tk23 rfl rfl ?_ | refine WS.store (j:=2) rfl rfl (by first | decide | omega | (simp; done) | (simp; omega) | exact Nat.le_of_ble_eq_true rfl) rfl (by first | rfl | assumption) tk23 (Jab _ _ _) rfl ?_ | refine WS.store (j:=3) rfl rfl (by first | decide | omega | (simp; done) | (simp; omega) | exact Nat.le_of_ble_eq_true rfl) rfl (by first | rfl | assumption) tk23 rfl rfl ?_ | refine WS.store (j:=3) rfl rfl (by first | decide | omega | (simp; done) | (simp; omega) | exact Nat.le_of_ble_eq_true rfl) rfl (by first | rfl | assumption) tk23 (Jab _ _ _) rfl ?_ | refine WS.store (j:=4) rfl rfl (by first | decide | omega | (simp; done) | (simp; omega) | exact Nat.le_of_ble_eq_true rfl) rfl (by first | rfl | assumption) tk23 rfl rfl ?_ | refine WS.store (j:=4) rfl rfl (by first | decide | omega | (simp; done) | (simp; omega) | exact Nat.le_of_ble_eq_true rfl) rfl (by first | rfl | assumption) tk23 (Jab _ _ _) rfl ?_ | refine WS.store (j:=5) rfl rfl (by first | decide | omega | (simp; done) | (simp; omega) | exact Nat.le_of_ble_eq_true rfl) rfl (by first | rfl | assumption) tk23 rfl rfl ?_ | refine WS.store (j:=5) rfl rfl (by first | decide | omega | (simp; done) | (simp; omega) | exact Nat.le_of_ble_eq_true rfl) rfl (by first | rfl | assumption) tk23 (Jab _ _ _) rfl ?_ | refine WS.store (j:=6) rfl rfl (by first | decide | omega | (simp; done) | (simp; omega) | exact Nat.le_of_ble_eq_true rfl) rfl (by first | rfl | assumption) tk23 rfl rfl ?_ | refine WS.store (j:=6) rfl rfl (by first | decide | omega | (simp; done) | (simp; omega) | exact Nat.le_of_ble_eq_true rfl) rfl (by first | rfl | assumption) tk23 (Jab _ _ _) rfl ?_ | refine WS.store (j:=7) rfl rfl (by first | decide | omega | (simp; done) | (simp; omega) | exact Nat.le_of_ble_eq_true rfl) rfl (by first | rfl | assumption) tk23 rfl rfl ?_ | refine WS.store (j:=7) rfl rfl (by first | decide | omega | (simp; done) | (simp; omega) | exact Nat.le_of_ble_eq_true rfl) rfl (by first | rfl | assumption) tk23 (Jab _ _ _) rfl ?_ | refine WS.store (j:=8) rfl rfl (by first | decide | omega | (simp; done) | (simp; omega) | exact Nat.le_of_ble_eq_true rfl) rfl (by first | rfl | assumption) tk23 rfl rfl ?_ | refine WS.store (j:=8) rfl rfl (by first | decide | omega | (simp; done) | (simp; omega) | exact Nat.le_of_ble_eq_true rfl) rfl (by first | rfl | assumption) tk23 (Jab _ _ _) rfl ?_ | refine WS.store (j:=9) rfl rfl (by first | decide | omega | (simp; done) | (simp; omega) | exact Nat.le_of_ble_eq_true rfl) rfl (by first | rfl | assumption) tk23 rfl rfl ?_ | refine WS.store (j:=9) rfl rfl (by first | decide | omega | (simp; done) | (simp; omega) | exact Nat.le_of_ble_eq_true rfl) rfl (by first | rfl | assumption) tk23 (Jab _ _ _) rfl ?_ | refine WS.store (j:=10) rfl rfl (by first | decide | omega | (simp; done) | (simp; omega) | exact Nat.le_of_ble_eq_true rfl) rfl (by first | rfl | assumption) tk23 rfl rfl ?_ | refine WS.store (j:=10) rfl rfl (by first | decide | omega | (simp; done) | (simp; omega) | exact Nat.le_of_ble_eq_true rfl) rfl (by first | rfl | assumption) tk23 (Jab _ _ _) rfl ?_ | refine WS.store (j:=11) rfl rfl (by first | decide | omega | (simp; done) | (simp; omega) | exact Nat.le_of_ble_eq_true rfl) rfl (by first | rfl | assumption) tk23 rfl rfl ?_ | refine WS.store (j:=11) rfl rfl (by first | decide | omega | (simp; done) | (simp; omega) | exact Nat.le_of_ble_eq_true rfl) rfl (by first | rfl | assumption) tk23 (Jab _ _ _) rfl ?_ | refine WS.store (j:=12) rfl rfl (by first | decide | omega | (simp; done) | (simp; omega) | exact Nat.le_of_ble_eq_true rfl) rfl (by first | rfl | assumption) tk23 rfl rfl ?_ | refine WS.store (j:=12) rfl rfl (by first | decide | omega | (simp; done) | (simp; omega) | exact Nat.le_of_ble_eq_true rfl) rfl (by first | rfl | assumption) tk23 (Jab _ _ _) rfl ?_ | refine WS.store (j:=13) rfl rfl (by first | decide | omega | (simp; done) | (simp; omega) | exact Nat.le_of_ble_eq_true rfl) rfl (by first | rfl | assumption) tk23 rfl rfl ?_ | refine WS.store (j:=13) rfl rfl (by first | decide | omega | (simp; done) | (simp; omega) | exact Nat.le_of_ble_eq_true rfl) rfl (by first | rfl | assumption) tk23 (Jab _ _ _) rfl ?_
 refine Wd (Qc (Nz 2 ?_))
 refine Wd (Qc (Cr ?_))
 refine QS.sel [1,0,0,0,0,0,0,0,0,0,0,0] rfl ?_
 refine QS.weak (fun u hu=>St.roCut (lo:=1) (hi:=sx.ws.l.length) hu (by omega) (Nat.le_refl _)) ?_
 refine QS.sel [1,0,0,0,0,0,0,0,0,0,0,0] rfl ?_
 exact out1 rfl rfl (fun u hu=>Jes (ws:=sx.ws.cut 1 1 sx.ws.l.length) (Rel.same (by rw [Jde (by omega)]; exact congrArg _ (congrArg _ (Jey _).symm))) (Jh0 sx.ws) (St.pack (L1:=Jaj lb rb ⟨sx.r,sx.ws.cut 1 1 sx.ws.l.length,sx.bad⟩) hu) (hz.sz _ (Jap (by omega) (by omega))))
theorem Is_c {w u:World} (R:SA) (lb rb:Nat) (sx:RlS) (hu:St w.heap.size w [rl lb rb sx,R] u) (t0:ByteArray) :
  Calls Tryz.prog 93 #[.pointer (some ⟨lb,0,none⟩),.string t0] u (RlX w R lb rb sx (some (isW t0 sx.ws.l,if isW t0 sx.ws.l then sx.ws.l.tail else sx.ws.l)) .bool):=by
 refine Jbf hu Tryz.func93 rfl rfl (Nat.le_of_ble_eq_true rfl) ?_
 refine CS.weak (fun u hu=>St.unpack (L1:=Jaj lb rb sx) hu) ?_
 refine CS.roE (j:=1) rfl fun hwx=>?_
 obtain ⟨uw,hw⟩:=hwx
 refine Nz 1 ?_
 refine Wd (Qc (Cs (Nz 3 ?_)))
 refine Wk 0 (by first | exact Jaa (j:=0) rfl rfl rfl tk23 | exact Jaa (j:=1) rfl rfl rfl tk23 | exact Jaa (j:=2) rfl rfl rfl tk23 | exact Jaa (j:=3) rfl rfl rfl tk23 | exact Jaa (j:=4) rfl rfl rfl tk23 | exact Jaa (j:=5) rfl rfl rfl tk23 | exact Jaa (j:=6) rfl rfl rfl tk23 | exact Jaa (j:=7) rfl rfl rfl tk23 | exact Jaa (j:=8) rfl rfl rfl tk23 | exact Jaa (j:=9) rfl rfl rfl tk23 | exact Jaa (j:=10) rfl rfl rfl tk23 | exact Jaa (j:=11) rfl rfl rfl tk23 | exact Jaa (j:=12) rfl rfl rfl tk23 | exact Jaa (j:=13) rfl rfl rfl tk23 | exact Jah rfl (by assumption) rfl tk23) ?_
 refine Wk 2 (Nc (s:=sx.ws)) ?_
 refine Wf 0 rfl rfl (fun hg=>Fm) ?_
 refine Wf 0 rfl rfl (fun hg=>Fc) ?_
 refine Wf 0 rfl rfl (fun hg=>Ff) ?_
 refine Wf 0 rfl rfl (fun hg=>by first | exact Jaa (j:=0) (eg_ hg rfl) rfl rfl tk23 | exact Jaa (j:=1) (eg_ hg rfl) rfl rfl tk23 | exact Jaa (j:=2) (eg_ hg rfl) rfl rfl tk23 | exact Jaa (j:=3) (eg_ hg rfl) rfl rfl tk23 | exact Jaa (j:=4) (eg_ hg rfl) rfl rfl tk23 | exact Jaa (j:=5) (eg_ hg rfl) rfl rfl tk23 | exact Jaa (j:=6) (eg_ hg rfl) rfl rfl tk23 | exact Jaa (j:=7) (eg_ hg rfl) rfl rfl tk23 | exact Jaa (j:=8) (eg_ hg rfl) rfl rfl tk23 | exact Jaa (j:=9) (eg_ hg rfl) rfl rfl tk23 | exact Jaa (j:=10) (eg_ hg rfl) rfl rfl tk23 | exact Jaa (j:=11) (eg_ hg rfl) rfl rfl tk23 | exact Jaa (j:=12) (eg_ hg rfl) rfl rfl tk23 | exact Jaa (j:=13) (eg_ hg rfl) rfl rfl tk23 | exact Jah (eg_ hg rfl) (by assumption) rfl tk23) ?_
 refine Wf 0 rfl rfl (fun hg=>Xc (s:=sx.ws)) ?_
 refine Wf 0 rfl rfl (fun hg=>Vb 1 rfl (s:=sx.ws)) ?_
 refine Wf 0 rfl rfl (fun hg=>Fm) ?_
 refine Wf 0 rfl rfl (fun hg=>Jbr (eg_ hg rfl) (eg_ hg rfl)) ?_
 refine Wk 0 Po ?_
 refine Wd (Qc (CS.cond rfl ?_ ?_))<;>intro hc1<;>try simp only [bq] at hc1
 ·
  have hno:isW t0 sx.ws.l=false:=by
   rcases Nat.eq_zero_or_pos sx.ws.l.length with h0 | h0
   ·
    exact Jqa h0
   rw [Jic h0]; rcases hc1 with h | h
   ·
    omega
   exact h
  refine Nz 1 ?_
  exact Wd (Qc (Cr (Qr (out1 rfl rfl (fun u hu=>Jes (ws:=sx.ws) (v:=false) (Rel.same (by rw [hno]; rfl)) (List.suffix_refl _) (St.pack (L1:=Jaj lb rb ⟨sx.r,sx.ws,sx.bad⟩) hu))))))
 have hl:0 < sx.ws.l.length:=by omega
 have hyes:isW t0 sx.ws.l=true:=by rw [Jic hl]; exact hc1.2
 have hoc:(sub2 1 sx.ws.v 1 sx.ws.l.length).oneCell'=true:=Sl.one (hw.cut (lo:=1) (hi:=sx.ws.l.length) (by omega) (Nat.le_refl _))
 refine Ck (Qc (Nz 4 ?_))
 refine Wk 0 (by first | exact Jaa (j:=0) rfl rfl rfl tk23 | exact Jaa (j:=1) rfl rfl rfl tk23 | exact Jaa (j:=2) rfl rfl rfl tk23 | exact Jaa (j:=3) rfl rfl rfl tk23 | exact Jaa (j:=4) rfl rfl rfl tk23 | exact Jaa (j:=5) rfl rfl rfl tk23 | exact Jaa (j:=6) rfl rfl rfl tk23 | exact Jaa (j:=7) rfl rfl rfl tk23 | exact Jaa (j:=8) rfl rfl rfl tk23 | exact Jaa (j:=9) rfl rfl rfl tk23 | exact Jaa (j:=10) rfl rfl rfl tk23 | exact Jaa (j:=11) rfl rfl rfl tk23 | exact Jaa (j:=12) rfl rfl rfl tk23 | exact Jaa (j:=13) rfl rfl rfl tk23 | exact Jah rfl (by assumption) rfl tk23) ?_
 refine Wk 2 (Jdm sl23 rfl rfl hw.sp (by decide) (by omega)) ?_
 first | refine WS.store (j:=0) rfl rfl (by first | decide | omega | (simp; done) | (simp; omega) | exact Nat.le_of_ble_eq_true rfl) rfl (by first | rfl | assumption) tk23 rfl rfl ?_ | refine WS.store (j:=0) rfl rfl (by first | decide | omega | (simp; done) | (simp; omega) | exact Nat.le_of_ble_eq_true rfl) rfl (by first | rfl | assumption) tk23 (Jab _ _ _) rfl ?_ | refine WS.store (j:=1) rfl rfl (by first | decide | omega | (simp; done) | (simp; omega) | exact Nat.le_of_ble_eq_true rfl) rfl (by first | rfl | assumption) tk23 rfl rfl ?_ | refine WS.store (j:=1) rfl rfl (by first | decide | omega | (simp; done) | (simp; omega) | exact Nat.le_of_ble_eq_true rfl) rfl (by first | rfl | assumption) tk23 (Jab _ _ _) rfl ?_ | refine WS.store (j:=2) rfl rfl (by first | decide | omega | (simp; done) | (simp; omega) | exact Nat.le_of_ble_eq_true rfl) rfl (by first | rfl | assumption) tk23 rfl rfl ?_ | refine WS.store (j:=2) rfl rfl (by first | decide | omega | (simp; done) | (simp; omega) | exact Nat.le_of_ble_eq_true rfl) rfl (by first | rfl | assumption) tk23 (Jab _ _ _) rfl ?_ | refine WS.store (j:=3) rfl rfl (by first | decide | omega | (simp; done) | (simp; omega) | exact Nat.le_of_ble_eq_true rfl) rfl (by first | rfl | assumption) tk23 rfl rfl ?_ | refine WS.store (j:=3) rfl rfl (by first | decide | omega | (simp; done) | (simp; omega) | exact Nat.le_of_ble_eq_true rfl) rfl (by first | rfl | assumption) tk23 (Jab _ _ _) rfl ?_ | refine WS.store (j:=4) rfl rfl (by first | decide | omega | (simp; done) | (simp; omega) | exact Nat.le_of_ble_eq_true rfl) rfl (by first | rfl | assumption) tk23 rfl rfl ?_ | refine WS.store (j:=4) rfl rfl (by first | decide | omega | (simp; done) | (simp; omega) | exact Nat.le_of_ble_eq_true rfl) rfl (by first | rfl | assumption) tk23 (Jab _ _ _) rfl ?_ | refine WS.store (j:=5) rfl rfl (by first | decide | omega | (simp; done) | (simp; omega) | exact Nat.le_of_ble_eq_true rfl) rfl (by first | rfl | assumption) tk23 rfl rfl ?_ | refine WS.store (j:=5) rfl rfl (by first | decide | omega | (simp; done) | (simp; omega) | exact Nat.le_of_ble_eq_true rfl) rfl (by first | rfl | assumption) tk23 (Jab _ _ _) rfl ?_ | refine WS.store (j:=6) rfl rfl (by first | decide | omega | (simp; done) | (simp; omega) | exact Nat.le_of_ble_eq_true rfl) rfl (by first | rfl | assumption) tk23 rfl rfl ?_ | refine WS.store (j:=6) rfl rfl (by first | decide | omega | (simp; done) | (simp; omega) | exact Nat.le_of_ble_eq_true rfl) rfl (by first | rfl | assumption) tk23 (Jab _ _ _) rfl ?_ | refine WS.store (j:=7) rfl rfl (by first | decide | omega | (simp; done) | (simp; omega) | exact Nat.le_of_ble_eq_true rfl) rfl (by first | rfl | assumption) tk23 rfl rfl ?_ | refine WS.store (j:=7) rfl rfl (by first | decide | omega | (simp; done) | (simp; omega) | exact Nat.le_of_ble_eq_true rfl) rfl (by first | rfl | assumption) tk23 (Jab _ _ _) rfl ?_ | refine WS.store (j:=8) rfl rfl (by first | decide | omega | (simp; done) | (simp; omega) | exact Nat.le_of_ble_eq_true rfl) rfl (by first | rfl | assumption) tk23 rfl rfl ?_ | refine WS.store (j:=8) rfl rfl (by first | decide | omega | (simp; done) | (simp; omega) | exact Nat.le_of_ble_eq_true rfl) rfl (by first | rfl | assumption) tk23 (Jab _ _ _) rfl ?_ | refine WS.store (j:=9) rfl rfl (by first | decide | omega | (simp; done) | (simp; omega) | exact Nat.le_of_ble_eq_true rfl) rfl (by first | rfl | assumption) tk23 rfl rfl ?_ | refine WS.store (j:=9) rfl rfl (by first | decide | omega | (simp; done) | (simp; omega) | exact Nat.le_of_ble_eq_true rfl) rfl (by first | rfl | assumption) tk23 (Jab _ _ _) rfl ?_ | refine WS.store (j:=10) rfl rfl (by first | decide | omega | (simp; done) | (simp; omega) | exact Nat.le_of_ble_eq_true rfl) rfl (by first | rfl | assumption) tk23 rfl rfl ?_ | refine WS.store (j:=10) rfl rfl (by first | decide | omega | (simp; done) | (simp; omega) | exact Nat.le_of_ble_eq_true rfl) rfl (by first | rfl | assumption) tk23 (Jab _ _ _) rfl ?_ | refine WS.store (j:=11) rfl rfl (by first | decide | omega | (simp; done) | (simp; omega) | exact Nat.le_of_ble_eq_true rfl) rfl (by first | rfl | assumption) tk23 rfl rfl ?_ | refine WS.store (j:=11) rfl rfl (by first | decide | omega | (simp; done) | (simp; omega) | exact Nat.le_of_ble_eq_true rfl) rfl (by first | rfl | assumption) tk23 (Jab _ _ _) rfl ?_ | refine WS.store (j:=12) rfl rfl (by first | decide | omega | (simp; done) | (simp; omega) | exact Nat.le_of_ble_eq_true rfl) rfl (by first | rfl | assumption) tk23 rfl rfl ?_ | refine WS.store (j:=12) rfl rfl (by first | decide | omega | (simp; done) | (simp; omega) | exact Nat.le_of_ble_eq_true rfl) rfl (by first | rfl | assumption) tk23 (Jab _ _ _) rfl ?_ | refine WS.store (j:=13) rfl rfl (by first | decide | omega | (simp; done) | (simp; omega) | exact Nat.le_of_ble_eq_true rfl) rfl (by first | rfl | assumption) tk23 rfl rfl ?_ | refine WS.store (j:=13) rfl rfl (by first | decide | omega | (simp; done) | (simp; omega) | exact Nat.le_of_ble_eq_true rfl) rfl (by first | rfl | assumption) tk23 (Jab _ _ _) rfl ?_
 refine Wd (Qc (Nz 1 ?_))
 refine Wd (Qc (Cr ?_))
 refine QS.sel [1,0,0,0,0,0,0,0,0,0,0,0] rfl ?_
 refine QS.weak (fun u hu=>St.roCut (lo:=1) (hi:=sx.ws.l.length) hu (by omega) (Nat.le_refl _)) ?_
 refine QS.sel [1,0,0,0,0,0,0,0,0,0,0,0] rfl ?_
 exact out1 rfl rfl (fun u hu=>Jes (ws:=sx.ws.cut 1 1 sx.ws.l.length) (v:=true) (Rel.same (by rw [hyes]; exact congrArg _ (congrArg _ (Jey _).symm))) (Jh0 sx.ws) (St.pack (L1:=Jaj lb rb ⟨sx.r,sx.ws.cut 1 1 sx.ws.l.length,sx.bad⟩) hu))
theorem Ji8 {w u:World} (R:SA) (lb rb:Nat) (sx:RlS) (hu:St w.heap.size w [rl lb rb sx,R] u) (t0:ByteArray) :
  Calls Tryz.prog 90 #[.pointer (some ⟨lb,0,none⟩),.string t0] u (RlX w R lb rb sx (Jix t0 sx.ws.l) (fun _=>.tuple #[])):=by
 refine Jbf hu Tryz.func90 rfl rfl (Nat.le_of_ble_eq_true rfl) ?_
 refine Nz 2 ?_
 refine WS.callP rfl rfl Jmw (fun u hu=>RlX.lw (Is_c (star _) lb rb sx (St.tailPack hu) t0)) (fun _=>rfl) (fun hq u hu=>hq.elim) ?_; rintro ⟨⟨w1,b1⟩,c⟩ ⟨hr,hs,_⟩
 refine Wz 1 ?_
 refine Wd (Qc (CS.cond rfl ?_ ?_))<;>intro hc1<;>try simp only [bq] at hc1
 ·
  subst hc1
  refine Ny 3 ?_
  refine WS.weak (fun u hu=>St.unpack (L1:=Jaj lb rb ⟨sx.r,w1,b1⟩) hu) ?_
  first | refine WS.store (j:=0) rfl rfl (by first | decide | omega | (simp; done) | (simp; omega) | exact Nat.le_of_ble_eq_true rfl) rfl (by first | rfl | assumption) tk4 rfl rfl ?_ | refine WS.store (j:=0) rfl rfl (by first | decide | omega | (simp; done) | (simp; omega) | exact Nat.le_of_ble_eq_true rfl) rfl (by first | rfl | assumption) tk4 (Jab _ _ _) rfl ?_ | refine WS.store (j:=1) rfl rfl (by first | decide | omega | (simp; done) | (simp; omega) | exact Nat.le_of_ble_eq_true rfl) rfl (by first | rfl | assumption) tk4 rfl rfl ?_ | refine WS.store (j:=1) rfl rfl (by first | decide | omega | (simp; done) | (simp; omega) | exact Nat.le_of_ble_eq_true rfl) rfl (by first | rfl | assumption) tk4 (Jab _ _ _) rfl ?_ | refine WS.store (j:=2) rfl rfl (by first | decide | omega | (simp; done) | (simp; omega) | exact Nat.le_of_ble_eq_true rfl) rfl (by first | rfl | assumption) tk4 rfl rfl ?_ | refine WS.store (j:=2) rfl rfl (by first | decide | omega | (simp; done) | (simp; omega) | exact Nat.le_of_ble_eq_true rfl) rfl (by first | rfl | assumption) tk4 (Jab _ _ _) rfl ?_ | refine WS.store (j:=3) rfl rfl (by first | decide | omega | (simp; done) | (simp; omega) | exact Nat.le_of_ble_eq_true rfl) rfl (by first | rfl | assumption) tk4 rfl rfl ?_ | refine WS.store (j:=3) rfl rfl (by first | decide | omega | (simp; done) | (simp; omega) | exact Nat.le_of_ble_eq_true rfl) rfl (by first | rfl | assumption) tk4 (Jab _ _ _) rfl ?_ | refine WS.store (j:=4) rfl rfl (by first | decide | omega | (simp; done) | (simp; omega) | exact Nat.le_of_ble_eq_true rfl) rfl (by first | rfl | assumption) tk4 rfl rfl ?_ | refine WS.store (j:=4) rfl rfl (by first | decide | omega | (simp; done) | (simp; omega) | exact Nat.le_of_ble_eq_true rfl) rfl (by first | rfl | assumption) tk4 (Jab _ _ _) rfl ?_ | refine WS.store (j:=5) rfl rfl (by first | decide | omega | (simp; done) | (simp; omega) | exact Nat.le_of_ble_eq_true rfl) rfl (by first | rfl | assumption) tk4 rfl rfl ?_ | refine WS.store (j:=5) rfl rfl (by first | decide | omega | (simp; done) | (simp; omega) | exact Nat.le_of_ble_eq_true rfl) rfl (by first | rfl | assumption) tk4 (Jab _ _ _) rfl ?_ | refine WS.store (j:=6) rfl rfl (by first | decide | omega | (simp; done) | (simp; omega) | exact Nat.le_of_ble_eq_true rfl) rfl (by first | rfl | assumption) tk4 rfl rfl ?_ | refine WS.store (j:=6) rfl rfl (by first | decide | omega | (simp; done) | (simp; omega) | exact Nat.le_of_ble_eq_true rfl) rfl (by first | rfl | assumption) tk4 (Jab _ _ _) rfl ?_ | refine WS.store (j:=7) rfl rfl (by first | decide | omega | (simp; done) | (simp; omega) | exact Nat.le_of_ble_eq_true rfl) rfl (by first | rfl | assumption) tk4 rfl rfl ?_ | refine WS.store (j:=7) rfl rfl (by first | decide | omega | (simp; done) | (simp; omega) | exact Nat.le_of_ble_eq_true rfl) rfl (by first | rfl | assumption) tk4 (Jab _ _ _) rfl ?_ | refine WS.store (j:=8) rfl rfl (by first | decide | omega | (simp; done) | (simp; omega) | exact Nat.le_of_ble_eq_true rfl) rfl (by first | rfl | assumption) tk4 rfl rfl ?_ | refine WS.store (j:=8) rfl rfl (by first | decide | omega | (simp; done) | (simp; omega) | exact Nat.le_of_ble_eq_true rfl) rfl (by first | rfl | assumption) tk4 (Jab _ _ _) rfl ?_ | refine WS.store (j:=9) rfl rfl (by first | decide | omega | (simp; done) | (simp; omega) | exact Nat.le_of_ble_eq_true rfl) rfl (by first | rfl | assumption) tk4 rfl rfl ?_ | refine WS.store (j:=9) rfl rfl (by first | decide | omega | (simp; done) | (simp; omega) | exact Nat.le_of_ble_eq_true rfl) rfl (by first | rfl | assumption) tk4 (Jab _ _ _) rfl ?_ | refine WS.store (j:=10) rfl rfl (by first | decide | omega | (simp; done) | (simp; omega) | exact Nat.le_of_ble_eq_true rfl) rfl (by first | rfl | assumption) tk4 rfl rfl ?_ | refine WS.store (j:=10) rfl rfl (by first | decide | omega | (simp; done) | (simp; omega) | exact Nat.le_of_ble_eq_true rfl) rfl (by first | rfl | assumption) tk4 (Jab _ _ _) rfl ?_ | refine WS.store (j:=11) rfl rfl (by first | decide | omega | (simp; done) | (simp; omega) | exact Nat.le_of_ble_eq_true rfl) rfl (by first | rfl | assumption) tk4 rfl rfl ?_ | refine WS.store (j:=11) rfl rfl (by first | decide | omega | (simp; done) | (simp; omega) | exact Nat.le_of_ble_eq_true rfl) rfl (by first | rfl | assumption) tk4 (Jab _ _ _) rfl ?_ | refine WS.store (j:=12) rfl rfl (by first | decide | omega | (simp; done) | (simp; omega) | exact Nat.le_of_ble_eq_true rfl) rfl (by first | rfl | assumption) tk4 rfl rfl ?_ | refine WS.store (j:=12) rfl rfl (by first | decide | omega | (simp; done) | (simp; omega) | exact Nat.le_of_ble_eq_true rfl) rfl (by first | rfl | assumption) tk4 (Jab _ _ _) rfl ?_ | refine WS.store (j:=13) rfl rfl (by first | decide | omega | (simp; done) | (simp; omega) | exact Nat.le_of_ble_eq_true rfl) rfl (by first | rfl | assumption) tk4 rfl rfl ?_ | refine WS.store (j:=13) rfl rfl (by first | decide | omega | (simp; done) | (simp; omega) | exact Nat.le_of_ble_eq_true rfl) rfl (by first | rfl | assumption) tk4 (Jab _ _ _) rfl ?_
  refine WS.weak (fun u hu=>(St.pack (L1:=Jaj lb rb ⟨sx.r,w1,true⟩) hu)) ?_
  exact Wd (out0 (Or.inr rfl) rfl (fun u hu=>Jes (val:=fun _=>.tuple #[]) (v:=()) (Ju9 hr) hs hu))
 subst hc1
 exact Ck (out0 (Or.inr rfl) rfl (fun u hu=>Jes (val:=fun _=>.tuple #[]) (v:=()) (Jvn hr) hs hu))
theorem Jqe {l:List Thing} {t:ByteArray} {ws:Wds} {q:Int} (h0:0≤q) (h1:q < l.length) (hl:Jas t=true) (hn:∀ j:Int,0≤j→j < q→seq (nth l j).nm t=false) (h:seq (nth l q).nm t=true) :
  (if Jas t=true∧0≤idxN Thing.nm l t then some (idxN Thing.nm l t,ws) else none)=some (q,ws):=by
 have e:idxN Thing.nm l t=q:=by unfold idxN; exact Ja4 (p:=fun x:Thing=>seq x.nm t) (xs:=l) h0 h1 hn h
 rw [e,if_pos ⟨hl,h0⟩]
theorem Jmq {l:List Thing} {t:ByteArray} {ws:Wds} (hn:Jas t=true→∀ j:Int,0≤j→j < l.length→seq (nth l j).nm t=false) :
  (if Jas t=true∧0≤idxN Thing.nm l t then some (idxN Thing.nm l t,ws) else none)=none:=by
 rw [if_neg]
 rintro ⟨h1,h2⟩
 have e:idxN Thing.nm l t = -1:=by unfold idxN; exact Jba (p:=fun x:Thing=>seq x.nm t) (xs:=l) (hn h1)
 omega
theorem Jvl {b b1:Bool} {nm:ByteArray} {ws w:Wds} (h:Rel b (Jbq ws) nm w b1) (hl:Jas nm=false):Rel b (Jcy ws) nm w true:=h.fail (p:=fun x=>Jas x.1=true) (by simp [hl])
theorem Jvz {b b1:Bool} {nm:ByteArray} {ws w:Wds} (h:Rel b (Jbq ws) nm w b1) (hl:Jas nm=true):Rel b (Jcy ws) nm w b1:=h.ask (p:=fun x=>Jas x.1=true) hl
theorem Jyb {b b1:Bool} {tx:ByteArray} {ws w:Wds} {m n:Int} (h:Rel b (Jbq ws) tx w b1) (hl:numB m tx=none):Rel b (numW m ws) n w true:=by
 refine Rel.bad fun hb=>?_
 cases h2:b1 with
 | false=>rw [Jgx (h.ok hb h2),hl]; rfl
 | true=>rw [numW,h.no hb h2]; rfl
theorem Jwo {b b1:Bool} {tx:ByteArray} {ws w:Wds} {m n:Int} (h:Rel b (Jbq ws) tx w b1) (hl:numB m tx=some n):Rel b (numW m ws) n w b1:=by
 refine ⟨h.bt,fun hb h2=>?_,fun hb h2=>?_⟩
 ·
  rw [Jgx (h.ok hb h2),hl]; rfl
 rw [numW,h.no hb h2]; rfl
theorem Jlu {α:Type} {f:α→ByteArray} {l:List α} {b b1:Bool} {nm:ByteArray} {ws w:Wds} {i:Int} (h:Rel b (Jcy ws) nm w b1) (hi:idxN f l nm=i) (h0:0≤i):Rel b (Jbc f l ws) i w b1:=by
 subst hi
 exact h.bind (f:=fun x=>if 0≤idxN f l x.1 then some (idxN f l x.1,x.2) else none) (Rel.same (if_pos h0))
theorem Jk6 {α:Type} {f:α→ByteArray} {l:List α} {b b1:Bool} {nm:ByteArray} {ws w:Wds} {i:Int} (h:Rel b (Jcy ws) nm w b1) (hi:idxN f l nm = -1):Rel b (Jbc f l ws) i w true :=
 h.bind (f:=fun x=>if 0≤idxN f l x.1 then some (idxN f l x.1,x.2) else none) (Rel.bad fun _=>if_neg (by simp only; omega))
theorem Jg3 {w u:World} (R:SA) (lb rb:Nat) (sx:RlS) (hu:St w.heap.size w [rl lb rb sx,R] u) (hz:sx.ok) :
  Calls Tryz.prog 89 #[.pointer (some ⟨lb,0,none⟩)] u (RlX w R lb rb sx (Jcy sx.ws.l) .string (fun y=>y.size≤65536)):=by
 refine Jbf hu Tryz.func89 rfl rfl (Nat.le_of_ble_eq_true rfl) ?_
 refine Nz 1 ?_
 refine Wd (Qc (Nz 1 ?_))
 refine WS.callP rfl rfl Jsa (fun u hu=>RlX.lw (Jk3 (star _) lb rb sx (St.tailPack hu) hz)) (fun _=>rfl) (fun hq u hu=>hq.elim) ?_; rintro ⟨⟨w1,b1⟩,nm⟩ ⟨hr1,hx1,hm1⟩
 have hm2:nm.size≤65536:=hm1
 refine Wz 1 ?_
 refine Wd (Qc ?_)
 refine CS.cut (σ:=Bool) [6,7,8,9,10,11] (fun s=>[]) (fun s=>[rl lb rb ⟨sx.r,w1,s⟩,R]) (fun s=>Rel sx.bad (Jcy sx.ws.l) nm w1.l s) (fun _ _=>rfl) ?_ ?_
 ·
  refine Nz 1 ?_
  refine Wk 1 (Cb rfl rfl Jmb (fun u hu=>Jeu nm u (by omega))) ?_
  refine Wd (Qc (CS.cond rfl ?_ ?_))<;>intro hc1<;>try simp only [bq] at hc1
  ·
   refine Ny 3 ?_
   refine WS.weak (fun u hu=>St.unpack (L1:=Jaj lb rb ⟨sx.r,w1,b1⟩) hu) ?_
   first | refine WS.store (j:=0) rfl rfl (by first | decide | omega | (simp; done) | (simp; omega) | exact Nat.le_of_ble_eq_true rfl) rfl (by first | rfl | assumption) tk4 rfl rfl ?_ | refine WS.store (j:=0) rfl rfl (by first | decide | omega | (simp; done) | (simp; omega) | exact Nat.le_of_ble_eq_true rfl) rfl (by first | rfl | assumption) tk4 (Jab _ _ _) rfl ?_ | refine WS.store (j:=1) rfl rfl (by first | decide | omega | (simp; done) | (simp; omega) | exact Nat.le_of_ble_eq_true rfl) rfl (by first | rfl | assumption) tk4 rfl rfl ?_ | refine WS.store (j:=1) rfl rfl (by first | decide | omega | (simp; done) | (simp; omega) | exact Nat.le_of_ble_eq_true rfl) rfl (by first | rfl | assumption) tk4 (Jab _ _ _) rfl ?_ | refine WS.store (j:=2) rfl rfl (by first | decide | omega | (simp; done) | (simp; omega) | exact Nat.le_of_ble_eq_true rfl) rfl (by first | rfl | assumption) tk4 rfl rfl ?_ | refine WS.store (j:=2) rfl rfl (by first | decide | omega | (simp; done) | (simp; omega) | exact Nat.le_of_ble_eq_true rfl) rfl (by first | rfl | assumption) tk4 (Jab _ _ _) rfl ?_ | refine WS.store (j:=3) rfl rfl (by first | decide | omega | (simp; done) | (simp; omega) | exact Nat.le_of_ble_eq_true rfl) rfl (by first | rfl | assumption) tk4 rfl rfl ?_ | refine WS.store (j:=3) rfl rfl (by first | decide | omega | (simp; done) | (simp; omega) | exact Nat.le_of_ble_eq_true rfl) rfl (by first | rfl | assumption) tk4 (Jab _ _ _) rfl ?_ | refine WS.store (j:=4) rfl rfl (by first | decide | omega | (simp; done) | (simp; omega) | exact Nat.le_of_ble_eq_true rfl) rfl (by first | rfl | assumption) tk4 rfl rfl ?_ | refine WS.store (j:=4) rfl rfl (by first | decide | omega | (simp; done) | (simp; omega) | exact Nat.le_of_ble_eq_true rfl) rfl (by first | rfl | assumption) tk4 (Jab _ _ _) rfl ?_ | refine WS.store (j:=5) rfl rfl (by first | decide | omega | (simp; done) | (simp; omega) | exact Nat.le_of_ble_eq_true rfl) rfl (by first | rfl | assumption) tk4 rfl rfl ?_ | refine WS.store (j:=5) rfl rfl (by first | decide | omega | (simp; done) | (simp; omega) | exact Nat.le_of_ble_eq_true rfl) rfl (by first | rfl | assumption) tk4 (Jab _ _ _) rfl ?_ | refine WS.store (j:=6) rfl rfl (by first | decide | omega | (simp; done) | (simp; omega) | exact Nat.le_of_ble_eq_true rfl) rfl (by first | rfl | assumption) tk4 rfl rfl ?_ | refine WS.store (j:=6) rfl rfl (by first | decide | omega | (simp; done) | (simp; omega) | exact Nat.le_of_ble_eq_true rfl) rfl (by first | rfl | assumption) tk4 (Jab _ _ _) rfl ?_ | refine WS.store (j:=7) rfl rfl (by first | decide | omega | (simp; done) | (simp; omega) | exact Nat.le_of_ble_eq_true rfl) rfl (by first | rfl | assumption) tk4 rfl rfl ?_ | refine WS.store (j:=7) rfl rfl (by first | decide | omega | (simp; done) | (simp; omega) | exact Nat.le_of_ble_eq_true rfl) rfl (by first | rfl | assumption) tk4 (Jab _ _ _) rfl ?_ | refine WS.store (j:=8) rfl rfl (by first | decide | omega | (simp; done) | (simp; omega) | exact Nat.le_of_ble_eq_true rfl) rfl (by first | rfl | assumption) tk4 rfl rfl ?_ | refine WS.store (j:=8) rfl rfl (by first | decide | omega | (simp; done) | (simp; omega) | exact Nat.le_of_ble_eq_true rfl) rfl (by first | rfl | assumption) tk4 (Jab _ _ _) rfl ?_ | refine WS.store (j:=9) rfl rfl (by first | decide | omega | (simp; done) | (simp; omega) | exact Nat.le_of_ble_eq_true rfl) rfl (by first | rfl | assumption) tk4 rfl rfl ?_ | refine WS.store (j:=9) rfl rfl (by first | decide | omega | (simp; done) | (simp; omega) | exact Nat.le_of_ble_eq_true rfl) rfl (by first | rfl | assumption) tk4 (Jab _ _ _) rfl ?_ | refine WS.store (j:=10) rfl rfl (by first | decide | omega | (simp; done) | (simp; omega) | exact Nat.le_of_ble_eq_true rfl) rfl (by first | rfl | assumption) tk4 rfl rfl ?_ | refine WS.store (j:=10) rfl rfl (by first | decide | omega | (simp; done) | (simp; omega) | exact Nat.le_of_ble_eq_true rfl) rfl (by first | rfl | assumption) tk4 (Jab _ _ _) rfl ?_ | refine WS.store (j:=11) rfl rfl (by first | decide | omega | (simp; done) | (simp; omega) | exact Nat.le_of_ble_eq_true rfl) rfl (by first | rfl | assumption) tk4 rfl rfl ?_ | refine WS.store (j:=11) rfl rfl (by first | decide | omega | (simp; done) | (simp; omega) | exact Nat.le_of_ble_eq_true rfl) rfl (by first | rfl | assumption) tk4 (Jab _ _ _) rfl ?_ | refine WS.store (j:=12) rfl rfl (by first | decide | omega | (simp; done) | (simp; omega) | exact Nat.le_of_ble_eq_true rfl) rfl (by first | rfl | assumption) tk4 rfl rfl ?_ | refine WS.store (j:=12) rfl rfl (by first | decide | omega | (simp; done) | (simp; omega) | exact Nat.le_of_ble_eq_true rfl) rfl (by first | rfl | assumption) tk4 (Jab _ _ _) rfl ?_ | refine WS.store (j:=13) rfl rfl (by first | decide | omega | (simp; done) | (simp; omega) | exact Nat.le_of_ble_eq_true rfl) rfl (by first | rfl | assumption) tk4 rfl rfl ?_ | refine WS.store (j:=13) rfl rfl (by first | decide | omega | (simp; done) | (simp; omega) | exact Nat.le_of_ble_eq_true rfl) rfl (by first | rfl | assumption) tk4 (Jab _ _ _) rfl ?_
   refine WS.weak (fun u hu=>(St.pack (L1:=Jaj lb rb ⟨sx.r,w1,true⟩) hu)) ?_
   exact Wd (QS.head (true) rfl rfl (Jvl hr1 hc1))
  exact Ck (QS.head (b1) rfl rfl (Jvz hr1 hc1))
 intro z t hs
 have hz9:=hs
 refine Nz 2 ?_
 exact Wd (Qc (Cr (out1 rfl rfl (fun u hu=>Jes hz9 hx1 hu hm1))))
theorem Jmf {w u:World} (R:SA) (lb rb:Nat) (sx:RlS) (hu:St w.heap.size w [rl lb rb sx,R] u) (hz:sx.ok) (most:Int) (hmo:most≤3) :
  Calls Tryz.prog 92 #[.pointer (some ⟨lb,0,none⟩),.int .i64 most] u (RlX w R lb rb sx (numW most sx.ws.l) (.int .i64)):=by
 refine Jbf hu Tryz.func92 rfl rfl (Nat.le_of_ble_eq_true rfl) ?_
 refine Nz 1 ?_
 refine Wd (Qc (Nz 1 ?_))
 refine WS.callP rfl rfl Jsa (fun u hu=>RlX.lw (Jk3 (star _) lb rb sx (St.tailPack hu) hz)) (fun _=>rfl) (fun hq u hu=>hq.elim) ?_; rintro ⟨⟨w1,b1⟩,nm⟩ ⟨hr1,hx1,hm1⟩
 have hm2:nm.size≤65536:=hm1
 refine Wz 1 ?_
 refine Wk 5 (Cb rfl rfl Jtj (fun u hu=>Jtl nm most u (by omega) hmo)) ?_
 refine Wd (Qc ?_)
 refine CS.cut (σ:=Bool) [14,15,16,17,18] (fun s=>[]) (fun s=>[rl lb rb ⟨sx.r,w1,s⟩,R]) (fun s=>Rel sx.bad (numW most sx.ws.l) ((numB most nm).getD 0) w1.l s) (fun _ _=>rfl) ?_ ?_
 ·
  refine Nz 2 ?_
  refine Wd (Qc (CS.cond rfl ?_ ?_))<;>intro hc1<;>try simp only [bq] at hc1
  ·
   have hno:numB most nm=none:=by cases h:numB most nm <;> simp_all
   refine Ny 3 ?_
   refine WS.weak (fun u hu=>St.unpack (L1:=Jaj lb rb ⟨sx.r,w1,b1⟩) hu) ?_
   first | refine WS.store (j:=0) rfl rfl (by first | decide | omega | (simp; done) | (simp; omega) | exact Nat.le_of_ble_eq_true rfl) rfl (by first | rfl | assumption) tk4 rfl rfl ?_ | refine WS.store (j:=0) rfl rfl (by first | decide | omega | (simp; done) | (simp; omega) | exact Nat.le_of_ble_eq_true rfl) rfl (by first | rfl | assumption) tk4 (Jab _ _ _) rfl ?_ | refine WS.store (j:=1) rfl rfl (by first | decide | omega | (simp; done) | (simp; omega) | exact Nat.le_of_ble_eq_true rfl) rfl (by first | rfl | assumption) tk4 rfl rfl ?_ | refine WS.store (j:=1) rfl rfl (by first | decide | omega | (simp; done) | (simp; omega) | exact Nat.le_of_ble_eq_true rfl) rfl (by first | rfl | assumption) tk4 (Jab _ _ _) rfl ?_ | refine WS.store (j:=2) rfl rfl (by first | decide | omega | (simp; done) | (simp; omega) | exact Nat.le_of_ble_eq_true rfl) rfl (by first | rfl | assumption) tk4 rfl rfl ?_ | refine WS.store (j:=2) rfl rfl (by first | decide | omega | (simp; done) | (simp; omega) | exact Nat.le_of_ble_eq_true rfl) rfl (by first | rfl | assumption) tk4 (Jab _ _ _) rfl ?_ | refine WS.store (j:=3) rfl rfl (by first | decide | omega | (simp; done) | (simp; omega) | exact Nat.le_of_ble_eq_true rfl) rfl (by first | rfl | assumption) tk4 rfl rfl ?_ | refine WS.store (j:=3) rfl rfl (by first | decide | omega | (simp; done) | (simp; omega) | exact Nat.le_of_ble_eq_true rfl) rfl (by first | rfl | assumption) tk4 (Jab _ _ _) rfl ?_ | refine WS.store (j:=4) rfl rfl (by first | decide | omega | (simp; done) | (simp; omega) | exact Nat.le_of_ble_eq_true rfl) rfl (by first | rfl | assumption) tk4 rfl rfl ?_ | refine WS.store (j:=4) rfl rfl (by first | decide | omega | (simp; done) | (simp; omega) | exact Nat.le_of_ble_eq_true rfl) rfl (by first | rfl | assumption) tk4 (Jab _ _ _) rfl ?_ | refine WS.store (j:=5) rfl rfl (by first | decide | omega | (simp; done) | (simp; omega) | exact Nat.le_of_ble_eq_true rfl) rfl (by first | rfl | assumption) tk4 rfl rfl ?_ | refine WS.store (j:=5) rfl rfl (by first | decide | omega | (simp; done) | (simp; omega) | exact Nat.le_of_ble_eq_true rfl) rfl (by first | rfl | assumption) tk4 (Jab _ _ _) rfl ?_ | refine WS.store (j:=6) rfl rfl (by first | decide | omega | (simp; done) | (simp; omega) | exact Nat.le_of_ble_eq_true rfl) rfl (by first | rfl | assumption) tk4 rfl rfl ?_ | refine WS.store (j:=6) rfl rfl (by first | decide | omega | (simp; done) | (simp; omega) | exact Nat.le_of_ble_eq_true rfl) rfl (by first | rfl | assumption) tk4 (Jab _ _ _) rfl ?_ | refine WS.store (j:=7) rfl rfl (by first | decide | omega | (simp; done) | (simp; omega) | exact Nat.le_of_ble_eq_true rfl) rfl (by first | rfl | assumption) tk4 rfl rfl ?_ | refine WS.store (j:=7) rfl rfl (by first | decide | omega | (simp; done) | (simp; omega) | exact Nat.le_of_ble_eq_true rfl) rfl (by first | rfl | assumption) tk4 (Jab _ _ _) rfl ?_ | refine WS.store (j:=8) rfl rfl (by first | decide | omega | (simp; done) | (simp; omega) | exact Nat.le_of_ble_eq_true rfl) rfl (by first | rfl | assumption) tk4 rfl rfl ?_ | refine WS.store (j:=8) rfl rfl (by first | decide | omega | (simp; done) | (simp; omega) | exact Nat.le_of_ble_eq_true rfl) rfl (by first | rfl | assumption) tk4 (Jab _ _ _) rfl ?_ | refine WS.store (j:=9) rfl rfl (by first | decide | omega | (simp; done) | (simp; omega) | exact Nat.le_of_ble_eq_true rfl) rfl (by first | rfl | assumption) tk4 rfl rfl ?_ | refine WS.store (j:=9) rfl rfl (by first | decide | omega | (simp; done) | (simp; omega) | exact Nat.le_of_ble_eq_true rfl) rfl (by first | rfl | assumption) tk4 (Jab _ _ _) rfl ?_ | refine WS.store (j:=10) rfl rfl (by first | decide | omega | (simp; done) | (simp; omega) | exact Nat.le_of_ble_eq_true rfl) rfl (by first | rfl | assumption) tk4 rfl rfl ?_ | refine WS.store (j:=10) rfl rfl (by first | decide | omega | (simp; done) | (simp; omega) | exact Nat.le_of_ble_eq_true rfl) rfl (by first | rfl | assumption) tk4 (Jab _ _ _) rfl ?_ | refine WS.store (j:=11) rfl rfl (by first | decide | omega | (simp; done) | (simp; omega) | exact Nat.le_of_ble_eq_true rfl) rfl (by first | rfl | assumption) tk4 rfl rfl ?_ | refine WS.store (j:=11) rfl rfl (by first | decide | omega | (simp; done) | (simp; omega) | exact Nat.le_of_ble_eq_true rfl) rfl (by first | rfl | assumption) tk4 (Jab _ _ _) rfl ?_ | refine WS.store (j:=12) rfl rfl (by first | decide | omega | (simp; done) | (simp; omega) | exact Nat.le_of_ble_eq_true rfl) rfl (by first | rfl | assumption) tk4 rfl rfl ?_ | refine WS.store (j:=12) rfl rfl (by first | decide | omega | (simp; done) | (simp; omega) | exact Nat.le_of_ble_eq_true rfl) rfl (by first | rfl | assumption) tk4 (Jab _ _ _) rfl ?_ | refine WS.store (j:=13) rfl rfl (by first | decide | omega | (simp; done) | (simp; omega) | exact Nat.le_of_ble_eq_true rfl) rfl (by first | rfl | assumption) tk4 rfl rfl ?_ | refine WS.store (j:=13) rfl rfl (by first | decide | omega | (simp; done) | (simp; omega) | exact Nat.le_of_ble_eq_true rfl) rfl (by first | rfl | assumption) tk4 (Jab _ _ _) rfl ?_
   refine WS.weak (fun u hu=>(St.pack (L1:=Jaj lb rb ⟨sx.r,w1,true⟩) hu)) ?_
   exact Wd (QS.head (true) rfl rfl (Jyb hr1 hno))
  obtain ⟨n,hyes⟩:∃ n,numB most nm=some n:=by cases h:numB most nm <;> simp_all
  exact Ck (QS.head (b1) rfl rfl (by rw [hyes]; exact Jwo hr1 hyes))
 intro z t hs
 have hz9:=hs
 refine Nz 2 ?_
 exact Wd (Qc (Cr (out1 rfl rfl (fun u hu=>Jes hz9 hx1 hu))))
theorem Jd8 {w u:World} (R:SA) (lb rb:Nat) (sx:RlS) (hu:St w.heap.size w [rl lb rb sx,R] u) (hz:sx.ok) :
  Calls Tryz.prog 91 #[.pointer (some ⟨lb,0,none⟩)] u (RlX w R lb rb sx (Jbc id sx.r.pls.l sx.ws.l) (.int .i64)):=by
 refine Jbf hu Tryz.func91 rfl rfl (Nat.le_of_ble_eq_true rfl) ?_
 refine Nz 1 ?_
 refine Wd (Qc (Nz 1 ?_))
 refine WS.callP rfl rfl Jne (fun u hu=>RlX.lw (Jg3 (star _) lb rb sx (St.tailPack hu) hz)) (fun _=>rfl) (fun hq u hu=>hq.elim) ?_; rintro ⟨⟨w1,b1⟩,nm⟩ ⟨hr1,hx1,hm1⟩
 have hm2:nm.size≤65536:=hm1
 refine Wz 1 ?_
 refine Wd (Qc (Cs (Cs ?_)))
 refine CS.weak (fun u hu=>St.unpack (L1:=Jaj lb rb ⟨sx.r,w1,b1⟩) hu) ?_
 refine CS.stE fun hst=>?_
 obtain ⟨up,hup⟩:=hst
 have hpl:SlT cStr up sx.r.pls:=Jwz (lb:=lb) (rb:=rb) (s:=⟨sx.r,w1,b1⟩) hup
 have hlp:sx.r.pls.l.length≤9223372036854775807:=hpl.le
 refine Ny 1 ?_
 refine Wd (Qc (Ce ?_))
 refine CS.loopM (σ:=Int) [2,7,8,9,10,11,12,13,14,15,16,17,18,19,20,21,22,23,24,25,26,27,28,29,30,31] (fun s=>[(4,.int .i64 s)]) (fun _=>_) (fun s=>0≤s∧s≤sx.r.pls.l.length∧∀ j:Int,0≤j→j < s→seq (nth sx.r.pls.l j) nm=false) (fun s=>(sx.r.pls.l.length - s).toNat) 0 (fun _ _=>rfl) rfl rfl ⟨by omega,by omega,fun j _ _=>by omega⟩ ?_
 intro q t hs
 obtain ⟨hq1,hq2,hq3⟩:=hs
 refine Cs (Nz 4 ?_)
 refine Wk 2 (by first | exact Jaa (j:=0) rfl rfl rfl tk61 | exact Jaa (j:=1) rfl rfl rfl tk61 | exact Jaa (j:=2) rfl rfl rfl tk61 | exact Jaa (j:=3) rfl rfl rfl tk61 | exact Jaa (j:=4) rfl rfl rfl tk61 | exact Jaa (j:=5) rfl rfl rfl tk61 | exact Jaa (j:=6) rfl rfl rfl tk61 | exact Jaa (j:=7) rfl rfl rfl tk61 | exact Jaa (j:=8) rfl rfl rfl tk61 | exact Jaa (j:=9) rfl rfl rfl tk61 | exact Jaa (j:=10) rfl rfl rfl tk61 | exact Jaa (j:=11) rfl rfl rfl tk61 | exact Jaa (j:=12) rfl rfl rfl tk61 | exact Jaa (j:=13) rfl rfl rfl tk61 | exact Jah rfl (by assumption) rfl tk61) ?_
 refine Wk 0 (by first | exact Jaa (j:=0) rfl rfl rfl tk23 | exact Jaa (j:=1) rfl rfl rfl tk23 | exact Jaa (j:=2) rfl rfl rfl tk23 | exact Jaa (j:=3) rfl rfl rfl tk23 | exact Jaa (j:=4) rfl rfl rfl tk23 | exact Jaa (j:=5) rfl rfl rfl tk23 | exact Jaa (j:=6) rfl rfl rfl tk23 | exact Jaa (j:=7) rfl rfl rfl tk23 | exact Jaa (j:=8) rfl rfl rfl tk23 | exact Jaa (j:=9) rfl rfl rfl tk23 | exact Jaa (j:=10) rfl rfl rfl tk23 | exact Jaa (j:=11) rfl rfl rfl tk23 | exact Jaa (j:=12) rfl rfl rfl tk23 | exact Jaa (j:=13) rfl rfl rfl tk23 | exact Jah rfl (by assumption) rfl tk23) ?_
 refine Wk 1 (Jci (j:=3) sl23 rfl rfl) ?_
 refine Wd (Qc (CS.cond rfl ?_ ?_))<;>intro hc1<;>try simp only [bq] at hc1
 ·
  refine Ck (Qc (Cs (Ce (Nz 3 ?_))))
  refine Wk 2 (by first | exact Jaa (j:=0) rfl rfl rfl tk61 | exact Jaa (j:=1) rfl rfl rfl tk61 | exact Jaa (j:=2) rfl rfl rfl tk61 | exact Jaa (j:=3) rfl rfl rfl tk61 | exact Jaa (j:=4) rfl rfl rfl tk61 | exact Jaa (j:=5) rfl rfl rfl tk61 | exact Jaa (j:=6) rfl rfl rfl tk61 | exact Jaa (j:=7) rfl rfl rfl tk61 | exact Jaa (j:=8) rfl rfl rfl tk61 | exact Jaa (j:=9) rfl rfl rfl tk61 | exact Jaa (j:=10) rfl rfl rfl tk61 | exact Jaa (j:=11) rfl rfl rfl tk61 | exact Jaa (j:=12) rfl rfl rfl tk61 | exact Jaa (j:=13) rfl rfl rfl tk61 | exact Jah rfl (by assumption) rfl tk61) ?_
  refine Wk 1 (by first | exact Jaa (j:=2) rfl rfl rfl tk23 | exact Jah rfl (by assumption) rfl tk23) ?_
  refine Wk 0 (Jdn (s:=sx.r.pls) sl23 rfl rfl hpl rfl (by omega) (by omega)) ?_
  refine Wk 1 (Jqt (j:=3) rfl rfl rfl ⟨by omega,by omega⟩ rfl tk9) ?_
  refine Wk 0 (Jav rfl rfl) ?_
  refine Wd (Qc (CS.cond rfl ?_ ?_))<;>intro hc2<;>try simp only [bq] at hc2
  ·
   refine Nz 2 ?_
   exact Wd (Qc (Cr (Qs (Qr (Qr (Qs (Qr (out1 rfl rfl (fun u hu=>Jes (Jlu hr1 (Ja4 (p:=fun x=>seq (id x) nm) hq1 (by omega) hq3 hc2) hq1) hx1 (St.pack (L1:=Jaj lb rb ⟨sx.r,w1,b1⟩) hu))))))))))
  refine Ck (Qb (Qc (Ny 1 ?_)))
  refine Wk 1 Za ?_
  refine Wd ?_
  exact QS.head (q+1) rfl rfl ⟨⟨by omega,by omega,fun j h0 h1=>by
     rcases (show j < q∨j=q by omega) with h | h
     ·
      exact hq3 j h0 h
     rw [h]; exact hc2⟩,by omega⟩
 refine Cv (Qe (Qe (Qx (Qc (Nz 3 ?_)))))
 first | refine WS.store (j:=0) rfl rfl (by first | decide | omega | (simp; done) | (simp; omega) | exact Nat.le_of_ble_eq_true rfl) rfl (by first | rfl | assumption) tk4 rfl rfl ?_ | refine WS.store (j:=0) rfl rfl (by first | decide | omega | (simp; done) | (simp; omega) | exact Nat.le_of_ble_eq_true rfl) rfl (by first | rfl | assumption) tk4 (Jab _ _ _) rfl ?_ | refine WS.store (j:=1) rfl rfl (by first | decide | omega | (simp; done) | (simp; omega) | exact Nat.le_of_ble_eq_true rfl) rfl (by first | rfl | assumption) tk4 rfl rfl ?_ | refine WS.store (j:=1) rfl rfl (by first | decide | omega | (simp; done) | (simp; omega) | exact Nat.le_of_ble_eq_true rfl) rfl (by first | rfl | assumption) tk4 (Jab _ _ _) rfl ?_ | refine WS.store (j:=2) rfl rfl (by first | decide | omega | (simp; done) | (simp; omega) | exact Nat.le_of_ble_eq_true rfl) rfl (by first | rfl | assumption) tk4 rfl rfl ?_ | refine WS.store (j:=2) rfl rfl (by first | decide | omega | (simp; done) | (simp; omega) | exact Nat.le_of_ble_eq_true rfl) rfl (by first | rfl | assumption) tk4 (Jab _ _ _) rfl ?_ | refine WS.store (j:=3) rfl rfl (by first | decide | omega | (simp; done) | (simp; omega) | exact Nat.le_of_ble_eq_true rfl) rfl (by first | rfl | assumption) tk4 rfl rfl ?_ | refine WS.store (j:=3) rfl rfl (by first | decide | omega | (simp; done) | (simp; omega) | exact Nat.le_of_ble_eq_true rfl) rfl (by first | rfl | assumption) tk4 (Jab _ _ _) rfl ?_ | refine WS.store (j:=4) rfl rfl (by first | decide | omega | (simp; done) | (simp; omega) | exact Nat.le_of_ble_eq_true rfl) rfl (by first | rfl | assumption) tk4 rfl rfl ?_ | refine WS.store (j:=4) rfl rfl (by first | decide | omega | (simp; done) | (simp; omega) | exact Nat.le_of_ble_eq_true rfl) rfl (by first | rfl | assumption) tk4 (Jab _ _ _) rfl ?_ | refine WS.store (j:=5) rfl rfl (by first | decide | omega | (simp; done) | (simp; omega) | exact Nat.le_of_ble_eq_true rfl) rfl (by first | rfl | assumption) tk4 rfl rfl ?_ | refine WS.store (j:=5) rfl rfl (by first | decide | omega | (simp; done) | (simp; omega) | exact Nat.le_of_ble_eq_true rfl) rfl (by first | rfl | assumption) tk4 (Jab _ _ _) rfl ?_ | refine WS.store (j:=6) rfl rfl (by first | decide | omega | (simp; done) | (simp; omega) | exact Nat.le_of_ble_eq_true rfl) rfl (by first | rfl | assumption) tk4 rfl rfl ?_ | refine WS.store (j:=6) rfl rfl (by first | decide | omega | (simp; done) | (simp; omega) | exact Nat.le_of_ble_eq_true rfl) rfl (by first | rfl | assumption) tk4 (Jab _ _ _) rfl ?_ | refine WS.store (j:=7) rfl rfl (by first | decide | omega | (simp; done) | (simp; omega) | exact Nat.le_of_ble_eq_true rfl) rfl (by first | rfl | assumption) tk4 rfl rfl ?_ | refine WS.store (j:=7) rfl rfl (by first | decide | omega | (simp; done) | (simp; omega) | exact Nat.le_of_ble_eq_true rfl) rfl (by first | rfl | assumption) tk4 (Jab _ _ _) rfl ?_ | refine WS.store (j:=8) rfl rfl (by first | decide | omega | (simp; done) | (simp; omega) | exact Nat.le_of_ble_eq_true rfl) rfl (by first | rfl | assumption) tk4 rfl rfl ?_ | refine WS.store (j:=8) rfl rfl (by first | decide | omega | (simp; done) | (simp; omega) | exact Nat.le_of_ble_eq_true rfl) rfl (by first | rfl | assumption) tk4 (Jab _ _ _) rfl ?_ | refine WS.store (j:=9) rfl rfl (by first | decide | omega | (simp; done) | (simp; omega) | exact Nat.le_of_ble_eq_true rfl) rfl (by first | rfl | assumption) tk4 rfl rfl ?_ | refine WS.store (j:=9) rfl rfl (by first | decide | omega | (simp; done) | (simp; omega) | exact Nat.le_of_ble_eq_true rfl) rfl (by first | rfl | assumption) tk4 (Jab _ _ _) rfl ?_ | refine WS.store (j:=10) rfl rfl (by first | decide | omega | (simp; done) | (simp; omega) | exact Nat.le_of_ble_eq_true rfl) rfl (by first | rfl | assumption) tk4 rfl rfl ?_ | refine WS.store (j:=10) rfl rfl (by first | decide | omega | (simp; done) | (simp; omega) | exact Nat.le_of_ble_eq_true rfl) rfl (by first | rfl | assumption) tk4 (Jab _ _ _) rfl ?_ | refine WS.store (j:=11) rfl rfl (by first | decide | omega | (simp; done) | (simp; omega) | exact Nat.le_of_ble_eq_true rfl) rfl (by first | rfl | assumption) tk4 rfl rfl ?_ | refine WS.store (j:=11) rfl rfl (by first | decide | omega | (simp; done) | (simp; omega) | exact Nat.le_of_ble_eq_true rfl) rfl (by first | rfl | assumption) tk4 (Jab _ _ _) rfl ?_ | refine WS.store (j:=12) rfl rfl (by first | decide | omega | (simp; done) | (simp; omega) | exact Nat.le_of_ble_eq_true rfl) rfl (by first | rfl | assumption) tk4 rfl rfl ?_ | refine WS.store (j:=12) rfl rfl (by first | decide | omega | (simp; done) | (simp; omega) | exact Nat.le_of_ble_eq_true rfl) rfl (by first | rfl | assumption) tk4 (Jab _ _ _) rfl ?_ | refine WS.store (j:=13) rfl rfl (by first | decide | omega | (simp; done) | (simp; omega) | exact Nat.le_of_ble_eq_true rfl) rfl (by first | rfl | assumption) tk4 rfl rfl ?_ | refine WS.store (j:=13) rfl rfl (by first | decide | omega | (simp; done) | (simp; omega) | exact Nat.le_of_ble_eq_true rfl) rfl (by first | rfl | assumption) tk4 (Jab _ _ _) rfl ?_
 refine Wd (Qc (Nz 1 ?_))
 exact Wd (Qc (Cr (out1 rfl rfl (fun u hu=>Jes (Jk6 hr1 (Jba (p:=fun x=>seq (id x) nm) fun j h0 h1=>hq3 j h0 (by omega))) hx1 (St.pack (L1:=Jaj lb rb ⟨sx.r,w1,true⟩) hu)))))
theorem Jsm {w u:World} (R:SA) (lb rb:Nat) (sx:RlS) (hu:St w.heap.size w [rl lb rb sx,R] u) (t0:ByteArray) (ht:t0.size≤65536) :
  Calls Tryz.prog 145 #[.pointer (some ⟨lb,0,none⟩),.string t0] u (RlX w R lb rb sx (if Jas t0=true∧0≤idxN Thing.nm sx.r.ths.l t0 then some (idxN Thing.nm sx.r.ths.l t0,sx.ws.l) else none) (.int .i64)):=by
 refine Jbf hu Tryz.func145 rfl rfl (Nat.le_of_ble_eq_true rfl) ?_
 refine CS.weak (fun u hu=>St.unpack (L1:=Jaj lb rb sx) hu) ?_
 refine CS.stE fun hst=>?_
 obtain ⟨up,hup⟩:=hst
 have hth:SlT cThing up sx.r.ths:=Jyc (lb:=lb) (rb:=rb) (s:=sx) hup
 have hlp:sx.r.ths.l.length≤9223372036854775807:=hth.le
 refine Nz 1 ?_
 refine Wd (Qc (Cs (Nz 1 ?_)))
 refine Wd (Qc (Ce ?_))
 refine CS.loopM (σ:=Int) [4,6,7,8,9,10,11,12,13,14,15,16,17,18,19,20,21,22,23,24,25,26,27,28,29,30,31,32,33,34,35] (fun s=>[(5,.int .i64 s)]) (fun _=>_) (fun s=>0≤s∧s≤sx.r.ths.l.length∧∀ j:Int,0≤j→j < s→seq (nth sx.r.ths.l j).nm t0=false∨Jas t0=false) (fun s=>(sx.r.ths.l.length - s).toNat) 0 (fun _ _=>rfl) rfl rfl ⟨by omega,by omega,fun j _ _=>by omega⟩ ?_
 intro q t hs
 obtain ⟨hq1,hq2,hq3⟩:=hs
 refine Cs (Nz 4 ?_)
 refine Wk 2 (by first | exact Jaa (j:=0) rfl rfl rfl tk61 | exact Jaa (j:=1) rfl rfl rfl tk61 | exact Jaa (j:=2) rfl rfl rfl tk61 | exact Jaa (j:=3) rfl rfl rfl tk61 | exact Jaa (j:=4) rfl rfl rfl tk61 | exact Jaa (j:=5) rfl rfl rfl tk61 | exact Jaa (j:=6) rfl rfl rfl tk61 | exact Jaa (j:=7) rfl rfl rfl tk61 | exact Jaa (j:=8) rfl rfl rfl tk61 | exact Jaa (j:=9) rfl rfl rfl tk61 | exact Jaa (j:=10) rfl rfl rfl tk61 | exact Jaa (j:=11) rfl rfl rfl tk61 | exact Jaa (j:=12) rfl rfl rfl tk61 | exact Jaa (j:=13) rfl rfl rfl tk61 | exact Jah rfl (by assumption) rfl tk61) ?_
 refine Wk 0 (by first | exact Jaa (j:=0) rfl rfl rfl tk24 | exact Jaa (j:=1) rfl rfl rfl tk24 | exact Jaa (j:=2) rfl rfl rfl tk24 | exact Jaa (j:=3) rfl rfl rfl tk24 | exact Jaa (j:=4) rfl rfl rfl tk24 | exact Jaa (j:=5) rfl rfl rfl tk24 | exact Jaa (j:=6) rfl rfl rfl tk24 | exact Jaa (j:=7) rfl rfl rfl tk24 | exact Jaa (j:=8) rfl rfl rfl tk24 | exact Jaa (j:=9) rfl rfl rfl tk24 | exact Jaa (j:=10) rfl rfl rfl tk24 | exact Jaa (j:=11) rfl rfl rfl tk24 | exact Jaa (j:=12) rfl rfl rfl tk24 | exact Jaa (j:=13) rfl rfl rfl tk24 | exact Jah rfl (by assumption) rfl tk24) ?_
 refine Wk 1 (Jci (j:=4) sl24 rfl rfl) ?_
 refine Wd (Qc (CS.cond rfl ?_ ?_))<;>intro hc1<;>try simp only [bq] at hc1
 ·
  refine Ck (Qc (Cs (Ce (Nz 3 ?_))))
  refine Wk 2 (by first | exact Jaa (j:=0) rfl rfl rfl tk61 | exact Jaa (j:=1) rfl rfl rfl tk61 | exact Jaa (j:=2) rfl rfl rfl tk61 | exact Jaa (j:=3) rfl rfl rfl tk61 | exact Jaa (j:=4) rfl rfl rfl tk61 | exact Jaa (j:=5) rfl rfl rfl tk61 | exact Jaa (j:=6) rfl rfl rfl tk61 | exact Jaa (j:=7) rfl rfl rfl tk61 | exact Jaa (j:=8) rfl rfl rfl tk61 | exact Jaa (j:=9) rfl rfl rfl tk61 | exact Jaa (j:=10) rfl rfl rfl tk61 | exact Jaa (j:=11) rfl rfl rfl tk61 | exact Jaa (j:=12) rfl rfl rfl tk61 | exact Jaa (j:=13) rfl rfl rfl tk61 | exact Jah rfl (by assumption) rfl tk61) ?_
  refine Wk 1 (by first | exact Jaa (j:=0) rfl rfl rfl tk24 | exact Jaa (j:=1) rfl rfl rfl tk24 | exact Jaa (j:=2) rfl rfl rfl tk24 | exact Jaa (j:=3) rfl rfl rfl tk24 | exact Jaa (j:=4) rfl rfl rfl tk24 | exact Jaa (j:=5) rfl rfl rfl tk24 | exact Jaa (j:=6) rfl rfl rfl tk24 | exact Jaa (j:=7) rfl rfl rfl tk24 | exact Jaa (j:=8) rfl rfl rfl tk24 | exact Jaa (j:=9) rfl rfl rfl tk24 | exact Jaa (j:=10) rfl rfl rfl tk24 | exact Jaa (j:=11) rfl rfl rfl tk24 | exact Jaa (j:=12) rfl rfl rfl tk24 | exact Jaa (j:=13) rfl rfl rfl tk24 | exact Jah rfl (by assumption) rfl tk24) ?_
  refine Wk 1 (Jdn (s:=sx.r.ths) sl24 rfl rfl hth rfl (by omega) (by omega)) ?_
  refine Wk 1 (Jgd 4 0 (j:=4) rfl rfl rfl ⟨by omega,by omega⟩ (by decide) rfl tk9) ?_
  refine Wk 1 (Jav rfl rfl) ?_
  refine Wt 0 rfl rfl (fun hg=>Fm) ?_
  refine Wt 0 rfl rfl (fun hg=>Cb rfl (ec_ (eg_ hg rfl) en_) Jmb (fun u hu=>Jeu t0 u (by omega))) ?_
  refine Wk 0 Pa ?_
  refine Wd (Qc (CS.cond rfl ?_ ?_))<;>intro hc2<;>try simp only [bq] at hc2
  ·
   refine Nz 2 ?_
   exact Wd (Qc (Cr (Qs (Qr (Qr (Qs (Qr (out1 rfl rfl (fun u hu=>Jes (Rel.same (Jqe hq1 (by omega) hc2.2 (fun j h0 h1=>(hq3 j h0 h1).resolve_right (by rw [hc2.2]; decide)) hc2.1)) (List.suffix_refl _) (St.pack (L1:=Jaj lb rb sx) hu))))))))))
  refine Ck (Qb (Qc (Ny 1 ?_)))
  refine Wk 1 Za ?_
  refine Wd ?_
  exact QS.head (q+1) rfl rfl ⟨⟨by omega,by omega,fun j h0 h1=>by
     rcases (show j < q∨j=q by omega) with h | h
     ·
      exact hq3 j h0 h
     rw [h]; exact hc2⟩,by omega⟩
 refine Cv (Qe (Qe (Qx (Qc (Nz 3 ?_)))))
 first | refine WS.store (j:=0) rfl rfl (by first | decide | omega | (simp; done) | (simp; omega) | exact Nat.le_of_ble_eq_true rfl) rfl (by first | rfl | assumption) tk4 rfl rfl ?_ | refine WS.store (j:=0) rfl rfl (by first | decide | omega | (simp; done) | (simp; omega) | exact Nat.le_of_ble_eq_true rfl) rfl (by first | rfl | assumption) tk4 (Jab _ _ _) rfl ?_ | refine WS.store (j:=1) rfl rfl (by first | decide | omega | (simp; done) | (simp; omega) | exact Nat.le_of_ble_eq_true rfl) rfl (by first | rfl | assumption) tk4 rfl rfl ?_ | refine WS.store (j:=1) rfl rfl (by first | decide | omega | (simp; done) | (simp; omega) | exact Nat.le_of_ble_eq_true rfl) rfl (by first | rfl | assumption) tk4 (Jab _ _ _) rfl ?_ | refine WS.store (j:=2) rfl rfl (by first | decide | omega | (simp; done) | (simp; omega) | exact Nat.le_of_ble_eq_true rfl) rfl (by first | rfl | assumption) tk4 rfl rfl ?_ | refine WS.store (j:=2) rfl rfl (by first | decide | omega | (simp; done) | (simp; omega) | exact Nat.le_of_ble_eq_true rfl) rfl (by first | rfl | assumption) tk4 (Jab _ _ _) rfl ?_ | refine WS.store (j:=3) rfl rfl (by first | decide | omega | (simp; done) | (simp; omega) | exact Nat.le_of_ble_eq_true rfl) rfl (by first | rfl | assumption) tk4 rfl rfl ?_ | refine WS.store (j:=3) rfl rfl (by first | decide | omega | (simp; done) | (simp; omega) | exact Nat.le_of_ble_eq_true rfl) rfl (by first | rfl | assumption) tk4 (Jab _ _ _) rfl ?_ | refine WS.store (j:=4) rfl rfl (by first | decide | omega | (simp; done) | (simp; omega) | exact Nat.le_of_ble_eq_true rfl) rfl (by first | rfl | assumption) tk4 rfl rfl ?_ | refine WS.store (j:=4) rfl rfl (by first | decide | omega | (simp; done) | (simp; omega) | exact Nat.le_of_ble_eq_true rfl) rfl (by first | rfl | assumption) tk4 (Jab _ _ _) rfl ?_ | refine WS.store (j:=5) rfl rfl (by first | decide | omega | (simp; done) | (simp; omega) | exact Nat.le_of_ble_eq_true rfl) rfl (by first | rfl | assumption) tk4 rfl rfl ?_ | refine WS.store (j:=5) rfl rfl (by first | decide | omega | (simp; done) | (simp; omega) | exact Nat.le_of_ble_eq_true rfl) rfl (by first | rfl | assumption) tk4 (Jab _ _ _) rfl ?_ | refine WS.store (j:=6) rfl rfl (by first | decide | omega | (simp; done) | (simp; omega) | exact Nat.le_of_ble_eq_true rfl) rfl (by first | rfl | assumption) tk4 rfl rfl ?_ | refine WS.store (j:=6) rfl rfl (by first | decide | omega | (simp; done) | (simp; omega) | exact Nat.le_of_ble_eq_true rfl) rfl (by first | rfl | assumption) tk4 (Jab _ _ _) rfl ?_ | refine WS.store (j:=7) rfl rfl (by first | decide | omega | (simp; done) | (simp; omega) | exact Nat.le_of_ble_eq_true rfl) rfl (by first | rfl | assumption) tk4 rfl rfl ?_ | refine WS.store (j:=7) rfl rfl (by first | decide | omega | (simp; done) | (simp; omega) | exact Nat.le_of_ble_eq_true rfl) rfl (by first | rfl | assumption) tk4 (Jab _ _ _) rfl ?_ | refine WS.store (j:=8) rfl rfl (by first | decide | omega | (simp; done) | (simp; omega) | exact Nat.le_of_ble_eq_true rfl) rfl (by first | rfl | assumption) tk4 rfl rfl ?_ | refine WS.store (j:=8) rfl rfl (by first | decide | omega | (simp; done) | (simp; omega) | exact Nat.le_of_ble_eq_true rfl) rfl (by first | rfl | assumption) tk4 (Jab _ _ _) rfl ?_ | refine WS.store (j:=9) rfl rfl (by first | decide | omega | (simp; done) | (simp; omega) | exact Nat.le_of_ble_eq_true rfl) rfl (by first | rfl | assumption) tk4 rfl rfl ?_ | refine WS.store (j:=9) rfl rfl (by first | decide | omega | (simp; done) | (simp; omega) | exact Nat.le_of_ble_eq_true rfl) rfl (by first | rfl | assumption) tk4 (Jab _ _ _) rfl ?_ | refine WS.store (j:=10) rfl rfl (by first | decide | omega | (simp; done) | (simp; omega) | exact Nat.le_of_ble_eq_true rfl) rfl (by first | rfl | assumption) tk4 rfl rfl ?_ | refine WS.store (j:=10) rfl rfl (by first | decide | omega | (simp; done) | (simp; omega) | exact Nat.le_of_ble_eq_true rfl) rfl (by first | rfl | assumption) tk4 (Jab _ _ _) rfl ?_ | refine WS.store (j:=11) rfl rfl (by first | decide | omega | (simp; done) | (simp; omega) | exact Nat.le_of_ble_eq_true rfl) rfl (by first | rfl | assumption) tk4 rfl rfl ?_ | refine WS.store (j:=11) rfl rfl (by first | decide | omega | (simp; done) | (simp; omega) | exact Nat.le_of_ble_eq_true rfl) rfl (by first | rfl | assumption) tk4 (Jab _ _ _) rfl ?_ | refine WS.store (j:=12) rfl rfl (by first | decide | omega | (simp; done) | (simp; omega) | exact Nat.le_of_ble_eq_true rfl) rfl (by first | rfl | assumption) tk4 rfl rfl ?_ | refine WS.store (j:=12) rfl rfl (by first | decide | omega | (simp; done) | (simp; omega) | exact Nat.le_of_ble_eq_true rfl) rfl (by first | rfl | assumption) tk4 (Jab _ _ _) rfl ?_ | refine WS.store (j:=13) rfl rfl (by first | decide | omega | (simp; done) | (simp; omega) | exact Nat.le_of_ble_eq_true rfl) rfl (by first | rfl | assumption) tk4 rfl rfl ?_ | refine WS.store (j:=13) rfl rfl (by first | decide | omega | (simp; done) | (simp; omega) | exact Nat.le_of_ble_eq_true rfl) rfl (by first | rfl | assumption) tk4 (Jab _ _ _) rfl ?_
 refine Wd (Qc (Nz 1 ?_))
 exact Wd (Qc (Cr (out1 rfl rfl (fun u hu=>Jes (ws:=sx.ws) (b:=true) (Rel.bad fun _=>Jmq fun hl j h0 h1=>(hq3 j h0 (by omega)).resolve_right (by rw [hl]; decide)) (List.suffix_refl _) (St.pack (L1:=Jaj lb rb ⟨sx.r,sx.ws,true⟩) hu)))))
theorem Jlp {w u:World} (R:SA) (lb rb:Nat) (sx:RlS) (hu:St w.heap.size w [rl lb rb sx,R] u) (hz:sx.ok) :
  Calls Tryz.prog 96 #[.pointer (some ⟨lb,0,none⟩)] u (RetX w R [] (fun _:Unit=>True) False (fun _=>.bool (Jhy sx.bad sx.ws.l)) (fun _=>rl lb rb sx)):=by
 refine Jbf hu Tryz.func96 rfl rfl (Nat.le_of_ble_eq_true rfl) ?_
 refine CS.weak (fun u hu=>St.unpack (L1:=Jaj lb rb sx) hu) ?_
 refine CS.roE (j:=1) rfl fun hwx=>?_
 obtain ⟨uw,hw⟩:=hwx
 refine Nz 1 ?_
 refine Wd (Qc (Nz 3 ?_))
 refine Wk 2 (by first | exact Jaa (j:=0) rfl rfl rfl tk4 | exact Jaa (j:=1) rfl rfl rfl tk4 | exact Jaa (j:=2) rfl rfl rfl tk4 | exact Jaa (j:=3) rfl rfl rfl tk4 | exact Jaa (j:=4) rfl rfl rfl tk4 | exact Jaa (j:=5) rfl rfl rfl tk4 | exact Jaa (j:=6) rfl rfl rfl tk4 | exact Jaa (j:=7) rfl rfl rfl tk4 | exact Jaa (j:=8) rfl rfl rfl tk4 | exact Jaa (j:=9) rfl rfl rfl tk4 | exact Jaa (j:=10) rfl rfl rfl tk4 | exact Jaa (j:=11) rfl rfl rfl tk4 | exact Jaa (j:=12) rfl rfl rfl tk4 | exact Jaa (j:=13) rfl rfl rfl tk4 | exact Jah rfl (by assumption) rfl tk4) ?_
 refine Wt 0 rfl rfl (fun hg=>Fm) ?_
 refine Wt 0 rfl rfl (fun hg=>Fc) ?_
 refine Wt 0 rfl rfl (fun hg=>Ff) ?_
 refine Wt 0 rfl rfl (fun hg=>by first | exact Jaa (j:=0) (eg_ hg rfl) rfl rfl tk23 | exact Jaa (j:=1) (eg_ hg rfl) rfl rfl tk23 | exact Jaa (j:=2) (eg_ hg rfl) rfl rfl tk23 | exact Jaa (j:=3) (eg_ hg rfl) rfl rfl tk23 | exact Jaa (j:=4) (eg_ hg rfl) rfl rfl tk23 | exact Jaa (j:=5) (eg_ hg rfl) rfl rfl tk23 | exact Jaa (j:=6) (eg_ hg rfl) rfl rfl tk23 | exact Jaa (j:=7) (eg_ hg rfl) rfl rfl tk23 | exact Jaa (j:=8) (eg_ hg rfl) rfl rfl tk23 | exact Jaa (j:=9) (eg_ hg rfl) rfl rfl tk23 | exact Jaa (j:=10) (eg_ hg rfl) rfl rfl tk23 | exact Jaa (j:=11) (eg_ hg rfl) rfl rfl tk23 | exact Jaa (j:=12) (eg_ hg rfl) rfl rfl tk23 | exact Jaa (j:=13) (eg_ hg rfl) rfl rfl tk23 | exact Jah (eg_ hg rfl) (by assumption) rfl tk23) ?_
 refine Wt 0 rfl rfl (fun hg=>Nc (s:=sx.ws)) ?_
 refine Wt 0 rfl rfl (fun hg=>Fg) ?_
 refine Wk 1 Pa ?_
 refine Wt 0 rfl rfl (fun hg=>Fm) ?_
 refine Wt 0 rfl rfl (fun hg=>Fc) ?_
 refine Wt 0 rfl rfl (fun hg=>Ff) ?_
 refine Wt 0 rfl rfl (fun hg=>by first | exact Jaa (j:=0) (eg_ hg rfl) rfl rfl tk23 | exact Jaa (j:=1) (eg_ hg rfl) rfl rfl tk23 | exact Jaa (j:=2) (eg_ hg rfl) rfl rfl tk23 | exact Jaa (j:=3) (eg_ hg rfl) rfl rfl tk23 | exact Jaa (j:=4) (eg_ hg rfl) rfl rfl tk23 | exact Jaa (j:=5) (eg_ hg rfl) rfl rfl tk23 | exact Jaa (j:=6) (eg_ hg rfl) rfl rfl tk23 | exact Jaa (j:=7) (eg_ hg rfl) rfl rfl tk23 | exact Jaa (j:=8) (eg_ hg rfl) rfl rfl tk23 | exact Jaa (j:=9) (eg_ hg rfl) rfl rfl tk23 | exact Jaa (j:=10) (eg_ hg rfl) rfl rfl tk23 | exact Jaa (j:=11) (eg_ hg rfl) rfl rfl tk23 | exact Jaa (j:=12) (eg_ hg rfl) rfl rfl tk23 | exact Jaa (j:=13) (eg_ hg rfl) rfl rfl tk23 | exact Jah (eg_ hg rfl) (by assumption) rfl tk23) ?_
 refine Wt 0 rfl rfl (fun hg=>Xc (s:=sx.ws) (h1:=by (try simp only [bq] at hg); omega)) ?_
 refine Wt 0 rfl rfl (fun hg=>Vb 1 rfl (s:=sx.ws) (h:=⟨by decide,by (try simp only [bq] at hg); omega⟩)) ?_
 refine Wt 0 rfl rfl (fun hg=>Cb rfl (ec_ (eg_ hg rfl) en_) Jxu (fun u hu=>Jud _ u (by have:=hz.sz _ (Jap (xs:=sx.ws.l) (i:=0) (by decide) (by (try simp only [bq] at hg); omega)); omega))) ?_
 refine Wt 0 rfl rfl (fun hg=>Fn) ?_
 refine Wk 1 Pa ?_
 exact Wd (Qc (Cr (out1 rfl rfl (fun u hu=>.inl ⟨(),trivial,by simp only [Jhy]; rw [Bool.and_assoc],(St.pack (L1:=Jaj lb rb sx) hu)⟩))))
theorem Jvr {t:ByteArray} {q:Int} (h0:0≤q) (h1:q≤t.size) (hn:∀ j:Int,0≤j→j < q→byt t j≠61∧byt t j≠33) (h:q=t.size∨byt t q=61∨byt t q=33):(Jax t:Int)=q:=by
 obtain ⟨n,rfl⟩:∃ n:Nat,q=n:=⟨q.toNat,by omega⟩
 have hno:∀ (j:Nat) c,j < n→(bl t)[j]? = some c→¬ sgn c:=fun j c hj hc hs=>by
  have hlt:=Jn0 hc
  have e:=Jdu hlt
  have hc2:(bl t)[j]'(by rw [Jbw]; exact hlt)=c:=(List.getElem?_eq_some_iff.1 hc).2
  rw [hc2] at e
  have:=hn j (by omega) (by omega)
  rcases hs with rfl | rfl
  ·
   exact this.1 (by rw [e]; rfl)
  exact this.2 (by rw [e]; rfl)
 rcases h with h | h
 ·
  have:Jax t=(bl t).length:=Je1 fun j c hc=>hno j c (by have:=Jn0 hc; omega) hc
  rw [Jbw] at this; omega
 by_cases hl:n < t.size
 ·
  have e:=Jdu hl
  have:Jax t=n:=Jgu (b:=(bl t)[n]'(by rw [Jbw]; exact hl)) hno (List.getElem?_eq_getElem _) (by
   rw [e] at h
   rcases h with h | h
   ·
    exact .inl (UInt8.toNat_inj.1 (by show _=61; omega))
   exact .inr (UInt8.toNat_inj.1 (by show _=33; omega)))
  omega
 have:Jax t=(bl t).length:=Je1 fun j c hc=>hno j c (by have:=Jn0 hc; omega) hc
 rw [Jbw] at this; omega
theorem Juj {ths:List Thing} {nt:Bool} {nm:ByteArray} {ws w1 w3:Wds} {b b1 b2 b3:Bool} {idx:Int} (h1:Rel b (Jbq ws) nm w1 b1) (hs:Jax nm < nm.size) (hn:¬ (byt nm (Jax nm)=33∧nt=false))
  (h2:b2=if (numB 2 (nm.extract (Jax nm+1) nm.size)).isSome then b1 else true)
  (h3:Rel b2 (if Jas (nm.extract 0 (Jax nm))=true∧0≤idxN Thing.nm ths (nm.extract 0 (Jax nm)) then some (idxN Thing.nm ths (nm.extract 0 (Jax nm)),w1) else none) idx w3 b3) :
  Rel b (litW ths nt ws) ⟨idx,(numB 2 (nm.extract (Jax nm+1) nm.size)).getD 0,decide (byt nm (Jax nm)=33)⟩ w3 b3:=by
 refine h1.bind ?_
 have hb2:b1=true→b2=true:=fun h=>by rw [h2,h]; split <;> rfl
 refine ⟨fun h=>h3.bt (hb2 h),fun h h'=>?_,fun h h'=>?_⟩
 ·
  have hbf:b2=false:=by
   cases hb:b2 with
   | false=>rfl
   | true=>have:=h3.bt hb; rw [h'] at this; cases this
  have h4:=h3.ok hbf h'
  split at h4
  ·
   rename_i hl
   simp only [Option.some.injEq,Prod.mk.injEq] at h4
   obtain ⟨rfl,rfl⟩:=h4
   cases hm:numB 2 (nm.extract (Jax nm+1) nm.size) with
   | none=>rw [hm] at h2; simp [hbf] at h2
   | some n =>
    simp only [litT,hs,hl.1,hl.2,and_self,if_true,hm,Option.map_some,Option.bind_some,Option.getD_some]
    rw [if_neg]
    intro h5
    simp only [Bool.and_eq_true,decide_eq_true_eq,Bool.not_eq_true'] at h5
    exact hn h5
  cases h4
 have hln:litT ths nm=none:=by
  cases hm:numB 2 (nm.extract (Jax nm+1) nm.size) with
  | none=>unfold litT; split <;> simp [hm]
  | some n =>
   rw [hm] at h2
   have h5:=h3.no (by rw [h2]; exact h) h'
   split at h5
   ·
    cases h5
   rename_i hl; unfold litT; rw [if_neg fun h6=>hl h6.2]
 simp only [hln]; rfl
theorem Ju0 {ths:List Thing} {nt:Bool} {nm:ByteArray} {ws w1 w3:Wds} {b b1:Bool} {a:Lit} (h1:Rel b (Jbq ws) nm w1 b1) (h:(Jax nm:Int)=nm.size∨(byt nm (Jax nm)=33∧nt=false)):Rel b (litW ths nt ws) a w3 true:=by
 refine h1.bind (Rel.bad fun _=>?_)
 rcases h with h | h
 ·
  have:litT ths nm=none:=by unfold litT; rw [if_neg fun h6=>by have:=h6.1; omega]
  simp only [this]; rfl
 cases hl:litT ths nm with
 | none=>rfl
 | some a =>
  have:a.nt=true:=by
   unfold litT at hl
   split at hl
   ·
    obtain ⟨n,_,e⟩:=Option.map_eq_some_iff.1 hl
    rw [← e]; simpa using h.1
   cases hl
  simp [this,h.2]
theorem Jet {w u:World} (R:SA) (lb rb:Nat) (sx:RlS) (hu:St w.heap.size w [rl lb rb sx,R] u) (hz:sx.ok) (nt:Bool) :
  Calls Tryz.prog 97 #[.pointer (some ⟨lb,0,none⟩),.bool nt] u (RlX w R lb rb sx (litW sx.r.ths.l nt sx.ws.l) (fun a=>.agg (cLit.cells a).toArray)):=by
 refine Jbf hu Tryz.func97 rfl rfl (Nat.le_of_ble_eq_true rfl) ?_
 refine Nz 0 ?_
 refine Wl 0 zv96 (fun _=>rfl) (fun _=>rfl) fun b4 hb4=>?_
 refine Wd (Qc (Nz 1 ?_))
 refine WS.callP rfl rfl Jsa (fun u hu=>RlX.lw (Jk3 (star _) lb rb sx (St.tailPack (hu.sel [1,0,0] rfl)) hz)) (fun _=>rfl) (fun hq u hu=>hq.elim) ?_; rintro ⟨⟨w1,b1⟩,nm⟩ ⟨hr1,hx1,hm1⟩
 have hm2:nm.size≤65536:=hm1
 have hm3:(nm.size:Int)≤65536:=by omega
 refine Wz 1 ?_
 refine Wd (Qc (Nz 1 ?_))
 refine Wd (Qc (Cs (Ce ?_)))
 refine CS.loopM (σ:=Int) [11,12,13,14,15,16,17,18,19,20,21,22,23,24,25,26,27,28] (fun s=>[(6,.int .i64 s)]) (fun _=>_) (fun s=>0≤s∧s≤nm.size∧∀ j:Int,0≤j→j < s→byt nm j≠61∧byt nm j≠33) (fun s=>(nm.size - s).toNat) 0 (fun _ _=>rfl) rfl rfl ⟨by omega,by omega,fun j _ _=>by omega⟩ ?_
 intro q t hs
 obtain ⟨hq1,hq2,hq3⟩:=hs
 refine Cs (Nz 2 ?_)
 refine Wk 2 (Jau Tryz.underlying9 rfl) ?_
 refine Wt 0 rfl rfl (fun hg=>Fm) ?_
 refine Wt 0 rfl rfl (fun hg=>Fm) ?_
 refine Wt 0 rfl rfl (fun hg=>Jar Tryz.underlying9 (eg_ hg rfl) (eg_ hg rfl) (by omega) (by (try simp only [bq] at hg); show q < (nm.size:Int); replace hg:=hg; omega)) ?_
 refine Wt 0 rfl rfl (fun hg=>Fr) ?_
 refine Wk 1 Pa ?_
 refine Wt 0 rfl rfl (fun hg=>Fm) ?_
 refine Wt 0 rfl rfl (fun hg=>Fm) ?_
 refine Wt 0 rfl rfl (fun hg=>Jar Tryz.underlying9 (eg_ hg rfl) (eg_ hg rfl) (by omega) (by (try simp only [bq] at hg); show q < (nm.size:Int); replace hg:=hg; omega)) ?_
 refine Wt 0 rfl rfl (fun hg=>Fr) ?_
 refine Wk 0 Pa ?_
 refine Wd (Qc (CS.cond rfl ?_ ?_))<;>intro hc1<;>try simp only [bq] at hc1
 ·
  refine Ck (Qc (Ce (Ny 1 ?_)))
  refine Wk 1 Za ?_
  refine Wd (Qb ?_)
  exact QS.head (q+1) rfl rfl ⟨⟨by omega,by omega,fun j h0 h1=>by
     rcases (show j < q∨j=q by omega) with h | h
     ·
      exact hq3 j h0 h
     rw [h]; omega⟩,by omega⟩
 have hsg:(Jax nm:Int)=q:=Jvr hq1 hq2 hq3 (by omega)
 refine Cv (Qe (Qe (Qx (Qc (Cs (Nz 2 ?_))))))
 refine Wk 2 (Jau Tryz.underlying9 rfl) ?_
 refine Wf 0 rfl rfl (fun hg=>Fm) ?_
 refine Wf 0 rfl rfl (fun hg=>Fm) ?_
 refine Wf 0 rfl rfl (fun hg=>Jar Tryz.underlying9 (eg_ hg rfl) (eg_ hg rfl) (by omega) (by (try simp only [bq] at hg); show q < (nm.size:Int); replace hg:=hg; omega)) ?_
 refine Wf 0 rfl rfl (fun hg=>Fq) ?_
 refine Wf 0 rfl rfl (fun hg=>Fm (eg_ hg rfl)) ?_
 refine Wn 0 rfl rfl rfl (fun hg=>Fm) ?_
 refine Wn 0 rfl rfl rfl (fun hg=>Fn) ?_
 refine Wf 0 rfl rfl (fun hg=>Jbb (eg_ hg rfl) (Jco hg rfl) rfl) ?_
 refine Wk 0 Po ?_
 refine Wd (Qc (CS.cond rfl ?_ ?_))<;>intro hc2<;>try simp only [bq] at hc2
 ·
  have hnn:(Jax nm:Int)=nm.size∨(byt nm (Jax nm)=33∧nt=false):=by
   rw [hsg]; exact hc2
  refine Nz 3 ?_
  refine WS.weak (fun u hu=>St.unpack (L1:=Jaj lb rb ⟨sx.r,w1,b1⟩) hu) ?_
  first | refine WS.store (j:=0) rfl rfl (by first | decide | omega | (simp; done) | (simp; omega) | exact Nat.le_of_ble_eq_true rfl) rfl (by first | rfl | assumption) tk4 rfl rfl ?_ | refine WS.store (j:=0) rfl rfl (by first | decide | omega | (simp; done) | (simp; omega) | exact Nat.le_of_ble_eq_true rfl) rfl (by first | rfl | assumption) tk4 (Jab _ _ _) rfl ?_ | refine WS.store (j:=1) rfl rfl (by first | decide | omega | (simp; done) | (simp; omega) | exact Nat.le_of_ble_eq_true rfl) rfl (by first | rfl | assumption) tk4 rfl rfl ?_ | refine WS.store (j:=1) rfl rfl (by first | decide | omega | (simp; done) | (simp; omega) | exact Nat.le_of_ble_eq_true rfl) rfl (by first | rfl | assumption) tk4 (Jab _ _ _) rfl ?_ | refine WS.store (j:=2) rfl rfl (by first | decide | omega | (simp; done) | (simp; omega) | exact Nat.le_of_ble_eq_true rfl) rfl (by first | rfl | assumption) tk4 rfl rfl ?_ | refine WS.store (j:=2) rfl rfl (by first | decide | omega | (simp; done) | (simp; omega) | exact Nat.le_of_ble_eq_true rfl) rfl (by first | rfl | assumption) tk4 (Jab _ _ _) rfl ?_ | refine WS.store (j:=3) rfl rfl (by first | decide | omega | (simp; done) | (simp; omega) | exact Nat.le_of_ble_eq_true rfl) rfl (by first | rfl | assumption) tk4 rfl rfl ?_ | refine WS.store (j:=3) rfl rfl (by first | decide | omega | (simp; done) | (simp; omega) | exact Nat.le_of_ble_eq_true rfl) rfl (by first | rfl | assumption) tk4 (Jab _ _ _) rfl ?_ | refine WS.store (j:=4) rfl rfl (by first | decide | omega | (simp; done) | (simp; omega) | exact Nat.le_of_ble_eq_true rfl) rfl (by first | rfl | assumption) tk4 rfl rfl ?_ | refine WS.store (j:=4) rfl rfl (by first | decide | omega | (simp; done) | (simp; omega) | exact Nat.le_of_ble_eq_true rfl) rfl (by first | rfl | assumption) tk4 (Jab _ _ _) rfl ?_ | refine WS.store (j:=5) rfl rfl (by first | decide | omega | (simp; done) | (simp; omega) | exact Nat.le_of_ble_eq_true rfl) rfl (by first | rfl | assumption) tk4 rfl rfl ?_ | refine WS.store (j:=5) rfl rfl (by first | decide | omega | (simp; done) | (simp; omega) | exact Nat.le_of_ble_eq_true rfl) rfl (by first | rfl | assumption) tk4 (Jab _ _ _) rfl ?_ | refine WS.store (j:=6) rfl rfl (by first | decide | omega | (simp; done) | (simp; omega) | exact Nat.le_of_ble_eq_true rfl) rfl (by first | rfl | assumption) tk4 rfl rfl ?_ | refine WS.store (j:=6) rfl rfl (by first | decide | omega | (simp; done) | (simp; omega) | exact Nat.le_of_ble_eq_true rfl) rfl (by first | rfl | assumption) tk4 (Jab _ _ _) rfl ?_ | refine WS.store (j:=7) rfl rfl (by first | decide | omega | (simp; done) | (simp; omega) | exact Nat.le_of_ble_eq_true rfl) rfl (by first | rfl | assumption) tk4 rfl rfl ?_ | refine WS.store (j:=7) rfl rfl (by first | decide | omega | (simp; done) | (simp; omega) | exact Nat.le_of_ble_eq_true rfl) rfl (by first | rfl | assumption) tk4 (Jab _ _ _) rfl ?_ | refine WS.store (j:=8) rfl rfl (by first | decide | omega | (simp; done) | (simp; omega) | exact Nat.le_of_ble_eq_true rfl) rfl (by first | rfl | assumption) tk4 rfl rfl ?_ | refine WS.store (j:=8) rfl rfl (by first | decide | omega | (simp; done) | (simp; omega) | exact Nat.le_of_ble_eq_true rfl) rfl (by first | rfl | assumption) tk4 (Jab _ _ _) rfl ?_ | refine WS.store (j:=9) rfl rfl (by first | decide | omega | (simp; done) | (simp; omega) | exact Nat.le_of_ble_eq_true rfl) rfl (by first | rfl | assumption) tk4 rfl rfl ?_ | refine WS.store (j:=9) rfl rfl (by first | decide | omega | (simp; done) | (simp; omega) | exact Nat.le_of_ble_eq_true rfl) rfl (by first | rfl | assumption) tk4 (Jab _ _ _) rfl ?_ | refine WS.store (j:=10) rfl rfl (by first | decide | omega | (simp; done) | (simp; omega) | exact Nat.le_of_ble_eq_true rfl) rfl (by first | rfl | assumption) tk4 rfl rfl ?_ | refine WS.store (j:=10) rfl rfl (by first | decide | omega | (simp; done) | (simp; omega) | exact Nat.le_of_ble_eq_true rfl) rfl (by first | rfl | assumption) tk4 (Jab _ _ _) rfl ?_ | refine WS.store (j:=11) rfl rfl (by first | decide | omega | (simp; done) | (simp; omega) | exact Nat.le_of_ble_eq_true rfl) rfl (by first | rfl | assumption) tk4 rfl rfl ?_ | refine WS.store (j:=11) rfl rfl (by first | decide | omega | (simp; done) | (simp; omega) | exact Nat.le_of_ble_eq_true rfl) rfl (by first | rfl | assumption) tk4 (Jab _ _ _) rfl ?_ | refine WS.store (j:=12) rfl rfl (by first | decide | omega | (simp; done) | (simp; omega) | exact Nat.le_of_ble_eq_true rfl) rfl (by first | rfl | assumption) tk4 rfl rfl ?_ | refine WS.store (j:=12) rfl rfl (by first | decide | omega | (simp; done) | (simp; omega) | exact Nat.le_of_ble_eq_true rfl) rfl (by first | rfl | assumption) tk4 (Jab _ _ _) rfl ?_ | refine WS.store (j:=13) rfl rfl (by first | decide | omega | (simp; done) | (simp; omega) | exact Nat.le_of_ble_eq_true rfl) rfl (by first | rfl | assumption) tk4 rfl rfl ?_ | refine WS.store (j:=13) rfl rfl (by first | decide | omega | (simp; done) | (simp; omega) | exact Nat.le_of_ble_eq_true rfl) rfl (by first | rfl | assumption) tk4 (Jab _ _ _) rfl ?_
  refine WS.weak (fun u hu=>(St.pack (L1:=Jaj lb rb ⟨sx.r,w1,true⟩) hu)) ?_
  refine Wd (Qc (Nz 0 ?_))
  refine Wk 0 (Db Jpm zv96) ?_
  refine Wv 0 1 ?_
  exact Wd (Qc (Cr (Qr (outR (resc rfl (Jaz (j:=1) rfl rfl tk96)) (fun u hu=>Jes (val:=fun a=>.agg (cLit.cells a).toArray) (v:=⟨0,0,false⟩) (Ju0 hr1 hnn) hx1 (hu.sel [0,1] rfl))))))
 have hlt:q < nm.size:=by omega
 have hgo:¬ (byt nm (Jax nm)=33∧nt=false):=by
  rw [hsg]; rintro ⟨h1,h2⟩; rcases hc2.2 with h | h
  ·
   exact h h1
  rw [h2] at h; cases h
 refine Ck (Qc (Nz 2 ?_))
 refine Wk 0 Za ?_
 refine Wk 0 (Jg2 Tryz.underlying9 rfl rfl (show 0≤q+1∧q+1≤(nm.size:Int) by omega)) ?_
 refine Wk 5 (Cb rfl rfl Jtj (fun u hu=>Jtl (nm.extract (q+1).toNat nm.size) 2 u (by have:=Jfz nm (q+1).toNat nm.size; omega) (by decide))) ?_
 refine Wd (Qc ?_)
 refine CS.cut (σ:=Bool) [55,56,57,58,59] (fun s=>[]) (fun s=>[rl lb rb ⟨sx.r,w1,s⟩,blk b4 [.int .i64 0,.int .i64 0,.bool false] 96,R]) (fun s=>s=if (numB 2 (nm.extract (q+1).toNat nm.size)).isSome then b1 else true) (fun _ _=>rfl) ?_ ?_
 ·
  refine Nz 2 ?_
  refine Wd (Qc (CS.cond rfl ?_ ?_))<;>intro hc3<;>try simp only [bq] at hc3
  ·
   refine Ny 3 ?_
   refine WS.weak (fun u hu=>St.unpack (L1:=Jaj lb rb ⟨sx.r,w1,b1⟩) hu) ?_
   first | refine WS.store (j:=0) rfl rfl (by first | decide | omega | (simp; done) | (simp; omega) | exact Nat.le_of_ble_eq_true rfl) rfl (by first | rfl | assumption) tk4 rfl rfl ?_ | refine WS.store (j:=0) rfl rfl (by first | decide | omega | (simp; done) | (simp; omega) | exact Nat.le_of_ble_eq_true rfl) rfl (by first | rfl | assumption) tk4 (Jab _ _ _) rfl ?_ | refine WS.store (j:=1) rfl rfl (by first | decide | omega | (simp; done) | (simp; omega) | exact Nat.le_of_ble_eq_true rfl) rfl (by first | rfl | assumption) tk4 rfl rfl ?_ | refine WS.store (j:=1) rfl rfl (by first | decide | omega | (simp; done) | (simp; omega) | exact Nat.le_of_ble_eq_true rfl) rfl (by first | rfl | assumption) tk4 (Jab _ _ _) rfl ?_ | refine WS.store (j:=2) rfl rfl (by first | decide | omega | (simp; done) | (simp; omega) | exact Nat.le_of_ble_eq_true rfl) rfl (by first | rfl | assumption) tk4 rfl rfl ?_ | refine WS.store (j:=2) rfl rfl (by first | decide | omega | (simp; done) | (simp; omega) | exact Nat.le_of_ble_eq_true rfl) rfl (by first | rfl | assumption) tk4 (Jab _ _ _) rfl ?_ | refine WS.store (j:=3) rfl rfl (by first | decide | omega | (simp; done) | (simp; omega) | exact Nat.le_of_ble_eq_true rfl) rfl (by first | rfl | assumption) tk4 rfl rfl ?_ | refine WS.store (j:=3) rfl rfl (by first | decide | omega | (simp; done) | (simp; omega) | exact Nat.le_of_ble_eq_true rfl) rfl (by first | rfl | assumption) tk4 (Jab _ _ _) rfl ?_ | refine WS.store (j:=4) rfl rfl (by first | decide | omega | (simp; done) | (simp; omega) | exact Nat.le_of_ble_eq_true rfl) rfl (by first | rfl | assumption) tk4 rfl rfl ?_ | refine WS.store (j:=4) rfl rfl (by first | decide | omega | (simp; done) | (simp; omega) | exact Nat.le_of_ble_eq_true rfl) rfl (by first | rfl | assumption) tk4 (Jab _ _ _) rfl ?_ | refine WS.store (j:=5) rfl rfl (by first | decide | omega | (simp; done) | (simp; omega) | exact Nat.le_of_ble_eq_true rfl) rfl (by first | rfl | assumption) tk4 rfl rfl ?_ | refine WS.store (j:=5) rfl rfl (by first | decide | omega | (simp; done) | (simp; omega) | exact Nat.le_of_ble_eq_true rfl) rfl (by first | rfl | assumption) tk4 (Jab _ _ _) rfl ?_ | refine WS.store (j:=6) rfl rfl (by first | decide | omega | (simp; done) | (simp; omega) | exact Nat.le_of_ble_eq_true rfl) rfl (by first | rfl | assumption) tk4 rfl rfl ?_ | refine WS.store (j:=6) rfl rfl (by first | decide | omega | (simp; done) | (simp; omega) | exact Nat.le_of_ble_eq_true rfl) rfl (by first | rfl | assumption) tk4 (Jab _ _ _) rfl ?_ | refine WS.store (j:=7) rfl rfl (by first | decide | omega | (simp; done) | (simp; omega) | exact Nat.le_of_ble_eq_true rfl) rfl (by first | rfl | assumption) tk4 rfl rfl ?_ | refine WS.store (j:=7) rfl rfl (by first | decide | omega | (simp; done) | (simp; omega) | exact Nat.le_of_ble_eq_true rfl) rfl (by first | rfl | assumption) tk4 (Jab _ _ _) rfl ?_ | refine WS.store (j:=8) rfl rfl (by first | decide | omega | (simp; done) | (simp; omega) | exact Nat.le_of_ble_eq_true rfl) rfl (by first | rfl | assumption) tk4 rfl rfl ?_ | refine WS.store (j:=8) rfl rfl (by first | decide | omega | (simp; done) | (simp; omega) | exact Nat.le_of_ble_eq_true rfl) rfl (by first | rfl | assumption) tk4 (Jab _ _ _) rfl ?_ | refine WS.store (j:=9) rfl rfl (by first | decide | omega | (simp; done) | (simp; omega) | exact Nat.le_of_ble_eq_true rfl) rfl (by first | rfl | assumption) tk4 rfl rfl ?_ | refine WS.store (j:=9) rfl rfl (by first | decide | omega | (simp; done) | (simp; omega) | exact Nat.le_of_ble_eq_true rfl) rfl (by first | rfl | assumption) tk4 (Jab _ _ _) rfl ?_ | refine WS.store (j:=10) rfl rfl (by first | decide | omega | (simp; done) | (simp; omega) | exact Nat.le_of_ble_eq_true rfl) rfl (by first | rfl | assumption) tk4 rfl rfl ?_ | refine WS.store (j:=10) rfl rfl (by first | decide | omega | (simp; done) | (simp; omega) | exact Nat.le_of_ble_eq_true rfl) rfl (by first | rfl | assumption) tk4 (Jab _ _ _) rfl ?_ | refine WS.store (j:=11) rfl rfl (by first | decide | omega | (simp; done) | (simp; omega) | exact Nat.le_of_ble_eq_true rfl) rfl (by first | rfl | assumption) tk4 rfl rfl ?_ | refine WS.store (j:=11) rfl rfl (by first | decide | omega | (simp; done) | (simp; omega) | exact Nat.le_of_ble_eq_true rfl) rfl (by first | rfl | assumption) tk4 (Jab _ _ _) rfl ?_ | refine WS.store (j:=12) rfl rfl (by first | decide | omega | (simp; done) | (simp; omega) | exact Nat.le_of_ble_eq_true rfl) rfl (by first | rfl | assumption) tk4 rfl rfl ?_ | refine WS.store (j:=12) rfl rfl (by first | decide | omega | (simp; done) | (simp; omega) | exact Nat.le_of_ble_eq_true rfl) rfl (by first | rfl | assumption) tk4 (Jab _ _ _) rfl ?_ | refine WS.store (j:=13) rfl rfl (by first | decide | omega | (simp; done) | (simp; omega) | exact Nat.le_of_ble_eq_true rfl) rfl (by first | rfl | assumption) tk4 rfl rfl ?_ | refine WS.store (j:=13) rfl rfl (by first | decide | omega | (simp; done) | (simp; omega) | exact Nat.le_of_ble_eq_true rfl) rfl (by first | rfl | assumption) tk4 (Jab _ _ _) rfl ?_
   refine WS.weak (fun u hu=>(St.pack (L1:=Jaj lb rb ⟨sx.r,w1,true⟩) hu)) ?_
   exact Wd (QS.head (true) rfl rfl (by rw [hc3]; rfl))
  exact Ck (QS.head (b1) rfl rfl (by rw [hc3]; rfl))
 intro b2 t hs
 have hb2:=hs
 refine Cs ?_
 refine CS.drawnTillC 11 ((fun u=>Below w.heap.size w u)) (k:=12) mixed rfl rfl ?_
 refine Tr 12 [0,1,2] ?_
 refine Tk 12 3 [5,6,7] rfl (Je8 Tryz.underlying9 rfl rfl (show 0≤q∧q≤(nm.size:Int) by omega)) ?_
 refine Tk 12 8 [9] rfl (Jar Tryz.underlying9 rfl rfl (by omega) (show q < (nm.size:Int) by omega)) ?_
 refine AT.one (i:=4) (by kernel_rfl) rfl (fun _ u hu=>hu.below) rfl ?_
 refine WS.callP rfl rfl Jw1 (fun u hu=>RlX.lw (Jsm (star _) lb rb ⟨sx.r,w1,b2⟩ (St.tailPack hu) (nm.extract 0 q.toNat) (by have:=Jfz nm 0 q.toNat; omega))) (fun _=>rfl) (fun hq u hu=>hq.elim) ?_; rintro ⟨⟨w3,b3⟩,idx⟩ ⟨hr3,hx3,_⟩
 refine Wd (Qt ?_)
 refine Tk 12 10 [] rfl (Db Jpm zv96) ?_
 refine AT.one (i:=11) (by kernel_rfl) rfl (fun _ u hu=>hu.below) rfl ?_
 refine Wv 0 1 ?_
 refine Wd (Qt ?_)
 refine Te ?_
 refine Qc (Cr ?_)
 exact outR (resc rfl (Jaz (j:=1) rfl rfl tk96)) (fun u hu=>Jes (val:=fun a=>.agg (cLit.cells a).toArray) (v:=⟨idx,(numB 2 (nm.extract (q+1).toNat nm.size)).getD 0,decide (byt nm q=33)⟩) (by
  subst hsg
  have e1:((Jax nm:Int)+1).toNat=Jax nm+1:=by omega
  have e2:(Jax nm:Int).toNat=Jax nm:=by omega
  rw [e1] at hb2 ⊢
  rw [e2] at hr3
  exact Juj hr1 (by omega) hgo hb2 hr3) (hx3.trans hx1) (hu.sel [0,1] rfl))
end Go.Proofs.YtkekjhcmephhjaaGreatDoor
