/- Contracts of functions, printed by a program of the prover (gen.py). -/
import Derived.Test.YtbboikncaihafaaGreatDoorXi
import Derived.Test.YtbboikncaihafaaGreatDoorXe
import Derived.Test.YtbboikncaihafaaGreatDoorY1
set_option maxHeartbeats 8000000
namespace Go.Proofs.YtbboikncaihafaaGreatDoor
open Go.RowKit Go.Proofs
set_option maxRecDepth 100000
set_option linter.unusedVariables false
set_option linter.unusedSimpArgs false
theorem J07 {n:Int} {p:Int→Bool} {x:Int} (h:x∈filI n p):0≤x∧x < n∧p x=true:=by
 unfold filI Jeo at h
 rw [List.mem_filter,List.mem_map] at h
 obtain ⟨⟨k,hk,rfl⟩,hp⟩:=h
 rw [List.mem_range] at hk
 exact ⟨by omega,by omega,hp⟩
theorem J10 {G:Game} {L:List (List Entr)} {pen i:Int} (h0:1≤i) (h1:i < (Jbb G.p L pen).2.length) :
  (0≤nth (Jbb G.p L pen).2 (i - 1)∧nth (Jbb G.p L pen).2 (i - 1) < L.length)∧(0≤nth (Jbb G.p L pen).2 i∧nth (Jbb G.p L pen).2 i < L.length)∧(Jbw G.p (nth L (nth (Jbb G.p L pen).2 (i - 1))) pen).1=0∧(Jbw G.p (nth L (nth (Jbb G.p L pen).2 i)) pen).1=0 ∧
  (Jbw G.p (nth L (nth (Jbb G.p L pen).2 (i - 1))) pen).2≤(Jbw G.p (nth L (nth (Jbb G.p L pen).2 i)) pen).2:=by
 by_cases hB:(Jag G.p).1=0
 ·
  by_cases hL:64 < (L.length:Int)
  ·
   rw [Jz7 hB hL] at h1; simp at h1; omega
  by_cases hA:errL G.p L=0
  ·
   by_cases hp:0≤pen∧pen≤10000
   ·
    rw [Jy3 hB hL hA hp] at h1 ⊢
    have h1:i < ((Jhj (scF G.p L pen L.length) (filI L.length (finR G.p L))).length:Int):=h1
    show (0≤nth (Jhj (scF G.p L pen L.length) (filI L.length (finR G.p L))) (i - 1)∧_)∧_
    obtain ⟨O,hO⟩:∃ O,O=Jhj (scF G.p L pen L.length) (filI L.length (finR G.p L)):=⟨_,rfl⟩
    obtain ⟨hs,he⟩:=Jhn (key:=scF G.p L pen L.length) (filI L.length (finR G.p L))
    rw [← hO] at h1 hs he ⊢
    have one:∀ j:Int,0≤j→j < O.length→(0≤nth O j∧nth O j < L.length)∧(Jbw G.p (nth L (nth O j)) pen).1=0∧(Jbw G.p (nth L (nth O j)) pen).2=scF G.p L pen L.length (nth O j):=fun j j0 j1=>by
     obtain ⟨m0,m1,m2⟩:=J07 (he.mem.1 (Jai j0 j1))
     have hE:=Jhs.1 hA _ m0 m1
     have hb:=Jmg (G:=G) hE
     obtain ⟨a1,a2⟩:=Jn8 (pen:=pen) (n:=L.length) hE hp m0 m1 hb.1 hb.2
     exact ⟨⟨m0,m1⟩,a1.2 m2,a2 (a1.2 m2)⟩
    obtain ⟨a1,a2,a3⟩:=one (i - 1) (by omega) (by omega)
    obtain ⟨b1,b2,b3⟩:=one i (by omega) (by omega)
    refine ⟨a1,b1,a2,b2,?_⟩
    show (Jbw G.p (nth L (nth O (i - 1))) pen).2≤(Jbw G.p (nth L (nth O i)) pen).2
    rw [a3,b3]
    exact Jem hs (by omega) (by omega) (by omega)
   rw [Jyw hB hL hA hp] at h1; simp at h1; omega
  rw [Jv9 hB hL hA] at h1; simp at h1; omega
 rw [Jxv hB] at h1; simp at h1; omega
theorem Jm7 (G:Game) (w:World) (hG:GameOk w G) (g:Sl ByteArray) (hW:GOk w g) (x:Sl (Sl Entr)) (hx:SlT (cSl cEntry) w x) (pen:Int) :
  Calls Tryz.prog 5 #[.agg #[G.rm.pls.v,G.rm.ths.v,G.rm.prs.v,G.rm.wys.v,G.rm.acs.v,G.rm.aus.v,.int .i64 G.rm.ply,G.rm.gl.v,G.lks.v,G.cds.v,G.nts.v,.int .i64 G.tr],x.v,.int .i64 pen] w (RetB w (.bool true)):=by
 have lx:=hx.le
 have hml:((x.l.map Sl.l).length:Int)=x.l.length:=by rw [List.length_map]
 refine enter Tryz.func5 rfl rfl (Nat.le_of_ble_eq_true rfl) ?_
 refine Nz 0 ?_
 refine Wb 1 rfl rfl (fun _=>rfl) (fun _=>rfl) fun b3 hb3=>?_
 refine Wd (Qc (Cs (Nz 0 ?_)))
 refine Wk 0 (by first | exact Jb7 (j:=0) rfl rfl tk36 | exact Jb1 (j:=0) rfl rfl (by rfl) tk36 | exact Jcb rfl (by assumption) (by rfl) tk36 | exact Jb8 (n:=12) (j:=0) rfl rfl rfl rfl tk36) ?_
 refine Wk 1 (Cb rfl rfl ent7 (fun u hu=>J4e G u (hG.st hu))) ?_
 refine Wf 0 rfl rfl (fun hg=>Fm) ?_
 refine Wf 0 rfl rfl (fun hg=>Nc (eg_ hg rfl)) ?_
 refine Wf 0 rfl rfl (fun hg=>Fg) ?_
 refine Wk 0 Po ?_
 refine Wd (Qc (CS.cond rfl ?_ ?_))<;>intro hc1<;>try simp only [bq] at hc1
 ·
  refine Nz 0 ?_
  refine Wk 1 (Cb rfl rfl Jhz (fun u hu=>Jcn u g (hW.st hu))) ?_
  exact Wd (Qc (Cr (Qr (out1 rfl rfl retB))))
 have hn:NearG G:=Jkd.1 hc1.1
 refine Ck (Qc (Cs (Nz 1 ?_)))
 refine Wd (Qc (Ce ?_))
 refine CS.loopM (σ:=Int) [6,25,26,27,28,29,30,31,32,33,34,35,36,37] (fun s=>[(7,.int .i64 s)]) (fun _=>_) (fun s=>0≤s∧s≤x.l.length∧∀ j:Int,0≤j→j < s→(nth x.l j).l.length≤40) (fun s=>(x.l.length - s).toNat) 0 (fun _ _=>rfl) rfl rfl ⟨by omega,by omega,fun j j0 j1=>by omega⟩ ?_
 intro s t hs
 obtain ⟨hs1,hs2,hs3⟩:=hs
 refine Cs (Nz 2 ?_)
 refine Wk 1 Nc ?_
 refine Wd (Qc (CS.cond rfl ?_ ?_))<;>intro hc2<;>try simp only [bq] at hc2
 ·
  have hxs:SlT cEntry w (nth x.l s):=hx.at hs1 (by omega)
  refine Ck (Qc (Cs (Ce (Nz 2 ?_))))
  refine Wk 0 Xc ?_
  refine Wk 0 Ub ?_
  refine Wk 1 Nc ?_
  refine Wd (Qc (CS.cond rfl ?_ ?_))<;>intro hc3<;>try simp only [bq] at hc3
  ·
   refine Nz 0 ?_
   refine Wk 1 (Cb rfl rfl Jhz (fun u hu=>Jcn u g (hW.st hu))) ?_
   exact Wd (Qc (Cr (Qs (Qr (Qr (Qs (Qr (out1 rfl rfl (Jab rfl)))))))))
  refine Ck (Qb (Qc (Ny 1 ?_)))
  refine Wk 1 Za ?_
  refine Wd ?_
  exact QS.head (s+1) rfl rfl ⟨⟨by omega,by omega,fun j j0 j1=>by
     rcases (show j < s∨j=s by omega) with h | h
     ·
      exact hs3 j j0 h
     rw [h]; omega⟩,by omega⟩
 have hall:∀ j:Int,0≤j→j < x.l.length→(nth x.l j).l.length≤40:=fun j j0 j1=>hs3 j j0 (by omega)
 have hx70:x.l.length≤70:=by first | omega | (simp at hc1; omega)
 refine Cv (Qe (Qe (Qx (Qc (Nz 0 ?_)))))
 refine Wk 0 (by first | exact Jb7 (j:=0) rfl rfl tk36 | exact Jb1 (j:=0) rfl rfl (by rfl) tk36 | exact Jcb rfl (by assumption) (by rfl) tk36 | exact Jb8 (n:=12) (j:=0) rfl rfl rfl rfl tk36) ?_
 refine Wc rfl rfl J0e (fun u hu=>Jm1 G u (hG.st hu) hn) (fun _=>rfl) ?_; rintro c ⟨hcp,uc,hcok⟩
 have hnc:=Jpn hcp hn
 have o1:=Sl.one hcok.rm.pls
 have o2:=Sl.one hcok.rm.ths
 have o3:=Sl.one hcok.rm.prs
 have o4:=Sl.one hcok.rm.wys
 have o5:=Sl.one hcok.rm.acs
 have o6:=Sl.one hcok.rm.aus
 have o7:=Sl.one hcok.rm.gl
 have o8:=Sl.one hcok.lks
 have o9:=Sl.one hcok.cds
 have o10:=Sl.one hcok.nts
 refine Wz 1 ?_
 refine Wc rfl rfl Kcs (fun u hu=>J6l x u (hx.st hu) (by omega) (fun j j0 j1 ↦ by have h9:=hall j j0 j1; omega)) (fun _=>rfl) ?_; rintro y ⟨hyl,uy,hyok⟩
 have hyn:y.l.length=x.l.length:=by have h9:=congrArg List.length hyl; simpa using h9
 refine Wz 1 ?_
 refine Wc rfl rfl Kcu (fun u hu=>(by have q:=J5z c u (hu.ro (j:=1) rfl) hnc g (hW.st hu) y (hu.ro (j:=0) rfl) (fun j j0 j1 ↦ by have h9:=hall j j0 (by omega); have h8:=Jcl y.l j; rw [hyl,Jcl] at h8; rw [← h8]; omega) pen; rw [hcp,hyl] at q; exact q)) (fun _=>rfl) ?_; rintro v44 ⟨u44,h44⟩
 have hrl:((Jbb G.p (x.l.map Sl.l) pen).2).length≤9223372036854775807:=h44.le
 refine Wz 5 ?_
 refine Wd (Qc (Nz 0 ?_))
 refine Wk 2 (by first | exact Jb7 (j:=3) rfl rfl tk36 | exact Jb1 (j:=3) rfl rfl (by rfl) tk36 | exact Jcb rfl (by assumption) (by rfl) tk36 | exact Jb8 (n:=12) (j:=3) rfl rfl rfl rfl tk36) ?_
 refine Wc rfl rfl Kc0 (fun u hu=>J6n G u (hG.st hu) hn x (hx.st hu) pen) (fun _=>rfl) ?_; rintro v51 ⟨u51,h51⟩
 refine Wz 5 ?_
 refine Wd (Qc (Cs (Nz 2 ?_)))
 refine Wk 2 (Cb rfl rfl Kb0 (fun u hu=>Jli _ _ _ _ u (SlT.ints (hu.ro (j:=1) rfl)) (SlT.ints (hu.ro (j:=0) rfl)))) ?_
 refine Wf 0 rfl rfl (fun hg=>Fm) ?_
 refine Wf 0 rfl rfl (fun hg=>Fm) ?_
 refine Wf 0 rfl rfl (fun hg=>Fr) ?_
 refine Wk 0 Po ?_
 refine Wd (Qc (CS.cond rfl ?_ ?_))<;>intro hc4<;>try simp only [bq] at hc4
 ·
  exact absurd hc4 (by simp)
 refine Ck (Qc (Cs (Nz 1 ?_)))
 refine Wd (Qc (Ce ?_))
 refine CS.loopM (σ:=Int) [6,13,14,15,16,63,64,65,66,67,68,69,70,71,72,73,74,75,76,77,78,79,80,81,82,83,84,85,86,87,88,89,90,91,92,93,94,95,96,97,98,99,100,101,102,103,104,105,106,107,108,109,110] (fun s=>[(12,.int .i64 s)]) (fun _=>_) (fun s=>1≤s∧(s≤(Jbb G.p (x.l.map Sl.l) pen).2.length∨s=1)) (fun s=>((Jbb G.p (x.l.map Sl.l) pen).2.length - s).toNat) 1 (fun _ _=>rfl) rfl rfl ⟨by omega,.inr rfl⟩ ?_
 intro q t hs
 obtain ⟨hq1,hq2⟩:=hs
 refine Cs (Nz 2 ?_)
 refine Wk 1 (show Det _ _ _ _ (.int .i64 ((Jbb G.p (x.l.map Sl.l) pen).2.length:Int)) from Nc (s:=⟨v44,(Jbb G.p (x.l.map Sl.l) pen).2⟩)) ?_
 refine Wd (Qc (CS.cond rfl ?_ ?_))<;>intro hc5<;>try simp only [bq] at hc5
 ·
  obtain ⟨k1,k2,k3,k4,k5⟩:=J10 (G:=G) (L:=(x.l.map Sl.l)) (pen:=pen) (i:=q) hq1 hc5
  rw [hml] at k1 k2
  rw [Jcl] at k3 k4 k5
  rw [Jcl] at k5
  refine Ck (Qc (Cs (Ce (Cs ?_))))
  refine CS.drawnAll (k:=18) Jah rfl rfl ?_
  refine Ak 0 [2,3,4] rfl (by first | exact Jb7 (j:=4) rfl rfl tk36 | exact Jb1 (j:=4) rfl rfl (by rfl) tk36 | exact Jcb rfl (by assumption) (by rfl) tk36 | exact Jb8 (n:=12) (j:=4) rfl rfl rfl rfl tk36) ?_
  refine Ak 5 [] rfl Zb ?_
  refine Ak 6 [] rfl (Jd6 (s:=⟨v44,(Jbb G.p (x.l.map Sl.l) pen).2⟩) (i:=(q - 1)) sl42 rfl rfl h44 rfl (by omega) (by show (q - 1) < ((Jbb G.p (x.l.map Sl.l) pen).2.length:Int); omega)) ?_
  refine Ak 7 [] rfl (show Det _ _ _ _ (.int .i64 (nth (Jbb G.p (x.l.map Sl.l) pen).2 (q - 1))) from Jhv (jj:=1) (s:=⟨v44,(Jbb G.p (x.l.map Sl.l) pen).2⟩) (i:=(q - 1)) rfl rfl rfl rfl ⟨by omega,by show (q - 1) < ((Jbb G.p (x.l.map Sl.l) pen).2.length:Int); omega⟩ rfl tk3) ?_
  refine Ak 8 [] rfl (Jd6 (s:=x) (i:=(nth (Jbb G.p (x.l.map Sl.l) pen).2 (q - 1))) sl73 rfl rfl hx rfl (by omega) (by omega)) ?_
  refine Ak 9 [11] rfl (Jjj (s:=x) (i:=(nth (Jbb G.p (x.l.map Sl.l) pen).2 (q - 1))) rfl hx rfl ⟨by omega,by omega⟩ rfl tk67) ?_
  refine Ao 1 rfl ?_
  refine Wc rfl rfl J0e (fun u hu=>Jm1 G u (hG.st hu) hn) (fun _=>rfl) ?_; rintro c ⟨hcp,uc,hcok⟩
  have hnc:=Jpn hcp hn
  have o1:=Sl.one hcok.rm.pls
  have o2:=Sl.one hcok.rm.ths
  have o3:=Sl.one hcok.rm.prs
  have o4:=Sl.one hcok.rm.wys
  have o5:=Sl.one hcok.rm.acs
  have o6:=Sl.one hcok.rm.aus
  have o7:=Sl.one hcok.rm.gl
  have o8:=Sl.one hcok.lks
  have o9:=Sl.one hcok.cds
  have o10:=Sl.one hcok.nts
  refine Wd (Qa ?_)
  refine Ao 10 rfl ?_
  refine Wc rfl rfl Jhr (fun u hu=>Jb4 (nth x.l (nth (Jbb G.p (x.l.map Sl.l) pen).2 (q - 1))) u ((hx.at (i:=(nth (Jbb G.p (x.l.map Sl.l) pen).2 (q - 1))) (by omega) (by omega):SlT cEntry w _).st hu) (by have h9:=hall (nth (Jbb G.p (x.l.map Sl.l) pen).2 (q - 1)) (by omega) (by omega); omega)) (fun _=>rfl) ?_; rintro v80 ⟨u80,h80⟩
  refine Wd (Qa ?_)
  refine Ao 12 rfl ?_
  refine Wk 0 (Cb rfl rfl J9c (fun u hu=>(by have q:=Jjt c u (hu.ro (j:=1) rfl) hnc g (hW.st hu) ⟨v80,(nth x.l (nth (Jbb G.p (x.l.map Sl.l) pen).2 (q - 1))).l⟩ (hu.ro (j:=0) rfl) pen; rw [hcp] at q; exact q))) ?_
  refine Wd (Qa ?_)
  refine Ar [13,14,15,16,17] ?_
  refine Ae ?_
  refine Qc (Cs ?_)
  refine CS.drawnAll (k:=17) Jah rfl rfl ?_
  refine Ak 0 [2,3,4] rfl (by first | exact Jb7 (j:=6) rfl rfl tk36 | exact Jb1 (j:=6) rfl rfl (by rfl) tk36 | exact Jcb rfl (by assumption) (by rfl) tk36 | exact Jb8 (n:=12) (j:=6) rfl rfl rfl rfl tk36) ?_
  refine Ak 5 [] rfl (Jd6 (s:=⟨v44,(Jbb G.p (x.l.map Sl.l) pen).2⟩) (i:=q) sl42 rfl rfl h44 rfl (by omega) (by show q < ((Jbb G.p (x.l.map Sl.l) pen).2.length:Int); omega)) ?_
  refine Ak 6 [] rfl (show Det _ _ _ _ (.int .i64 (nth (Jbb G.p (x.l.map Sl.l) pen).2 q)) from Jhv (jj:=3) (s:=⟨v44,(Jbb G.p (x.l.map Sl.l) pen).2⟩) (i:=q) rfl rfl rfl rfl ⟨by omega,by show q < ((Jbb G.p (x.l.map Sl.l) pen).2.length:Int); omega⟩ rfl tk3) ?_
  refine Ak 7 [] rfl (Jd6 (s:=x) (i:=(nth (Jbb G.p (x.l.map Sl.l) pen).2 q)) sl73 rfl rfl hx rfl (by omega) (by omega)) ?_
  refine Ak 8 [10] rfl (Jjj (s:=x) (i:=(nth (Jbb G.p (x.l.map Sl.l) pen).2 q)) rfl hx rfl ⟨by omega,by omega⟩ rfl tk67) ?_
  refine Ao 1 rfl ?_
  refine Wc rfl rfl J0e (fun u hu=>Jm1 G u (hG.st hu) hn) (fun _=>rfl) ?_; rintro c ⟨hcp,uc,hcok⟩
  have hnc:=Jpn hcp hn
  have o1:=Sl.one hcok.rm.pls
  have o2:=Sl.one hcok.rm.ths
  have o3:=Sl.one hcok.rm.prs
  have o4:=Sl.one hcok.rm.wys
  have o5:=Sl.one hcok.rm.acs
  have o6:=Sl.one hcok.rm.aus
  have o7:=Sl.one hcok.rm.gl
  have o8:=Sl.one hcok.lks
  have o9:=Sl.one hcok.cds
  have o10:=Sl.one hcok.nts
  refine Wd (Qa ?_)
  refine Ao 9 rfl ?_
  refine Wc rfl rfl Jhr (fun u hu=>Jb4 (nth x.l (nth (Jbb G.p (x.l.map Sl.l) pen).2 q)) u ((hx.at (i:=(nth (Jbb G.p (x.l.map Sl.l) pen).2 q)) (by omega) (by omega):SlT cEntry w _).st hu) (by have h9:=hall (nth (Jbb G.p (x.l.map Sl.l) pen).2 q) (by omega) (by omega); omega)) (fun _=>rfl) ?_; rintro v95 ⟨u95,h95⟩
  refine Wd (Qa ?_)
  refine Ao 11 rfl ?_
  refine Wk 0 (Cb rfl rfl J9c (fun u hu=>(by have q:=Jjt c u (hu.ro (j:=1) rfl) hnc g (hW.st hu) ⟨v95,(nth x.l (nth (Jbb G.p (x.l.map Sl.l) pen).2 q)).l⟩ (hu.ro (j:=0) rfl) pen; rw [hcp] at q; exact q))) ?_
  refine Wd (Qa ?_)
  refine Ar [12,13,14,15,16] ?_
  refine Ae ?_
  refine Qc (Nz 3 ?_)
  refine Wf 0 rfl rfl (fun hg=>Fm) ?_
  refine Wf 0 rfl rfl (fun hg=>Fr) ?_
  refine Wk 1 Po ?_
  refine Wf 0 rfl rfl (fun hg=>Fm) ?_
  refine Wf 0 rfl rfl (fun hg=>Fm) ?_
  refine Wf 0 rfl rfl (fun hg=>Fg) ?_
  refine Wk 0 Po ?_
  refine Wd (Qc (CS.cond rfl ?_ ?_))<;>intro hc6<;>try simp only [bq] at hc6
  ·
   exfalso
   rcases hc6 with (h | h) | h <;> first | exact h k3 | exact h k4 | omega
  refine Ck (Qb (Qc (Ny 1 ?_)))
  refine Wk 1 Za ?_
  refine Wd ?_
  refine QS.sel [4,4,4,4,4] rfl ?_
  exact QS.head (q+1) rfl rfl ⟨⟨by omega,by omega⟩,by omega⟩
 refine Cv (Qe (Qe (Qx (Qc (Nz 0 ?_)))))
 refine Wk 1 (Cb rfl rfl Jhz (fun u hu=>Jcn u g (hW.st hu))) ?_
 exact Wd (Qc (Cr (out1 rfl rfl (Jab rfl))))
end Go.Proofs.YtbboikncaihafaaGreatDoor
