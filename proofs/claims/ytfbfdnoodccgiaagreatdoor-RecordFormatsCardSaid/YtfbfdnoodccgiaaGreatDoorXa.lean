/- Merged texts of this proof (walks and plain laws), printed by a program of the prover. -/
import Derived.Test.YtfbfdnoodccgiaaGreatDoorZz
import Derived.Test.YtfbfdnoodccgiaaGreatDoorZb
set_option maxHeartbeats 8000000
namespace Go.Proofs.YtfbfdnoodccgiaaGreatDoor
open Go.RowKit Go.Proofs
set_option maxRecDepth 100000
set_option linter.unusedVariables false
set_option linter.unusedSimpArgs false
structure FilmOk (G:Game) (f:Film) (last n:Int):Prop where
 pos:posG G.p f.x=0
 pa0:0≤f.pa
 pa1:f.pa≤last
 si:f.st=true→f.pa≤f.si∧f.si≤last
 en:f.en = -1∨(0≤f.en∧f.en≤last)
 hi:0≤f.hi∧f.hi≤n
theorem Jz6 {last:Int} {e:Entr} (h:Jzs last e=true):last≤e.t∧e.t≤1000000:=by
 unfold Jzs at h
 simpa using h
theorem FilmOk.next {G:Game} {f f':Film} {e:Entr} {last n:Int} (h:FilmOk G f last n) (ht:Jzs last e=true) (hs:J0e G.p f e=some f'):FilmOk G f' e.t (n+1):=by
 obtain ⟨t1,t2⟩:=Jz6 ht
 obtain ⟨h1,h2,h3,h4,h5,h6,h7⟩:=h
 have hen:f.en = -1∨(0≤f.en∧f.en≤e.t):=by omega
 have hsi:f.st=true→f.pa≤f.si∧f.si≤e.t:=fun q=>by have:=h4 q; omega
 obtain ⟨_,h | h | h | h | h⟩:=Jll hs
 ·
  obtain ⟨k,c1,c2,rfl⟩:=h
  refine ⟨(Jj6 (p:=Jry f.x) c2).2.2,h2,by show f.pa≤e.t; omega,fun q=>absurd (c1.symm.trans q) (by decide),?_,by show 0≤f.hi∧f.hi≤n+1; omega⟩
  show (if _ then e.t - f.pa else f.en) = -1∨(0≤(if _ then e.t - f.pa else f.en)∧(if _ then e.t - f.pa else f.en)≤e.t)
  by_cases hc:f.en < 0∧Jke G.p (Jam G.p f.x e.m).2=true
  ·
   rw [if_pos hc]; omega
  rw [if_neg hc]; exact hen
 ·
  obtain ⟨k,c1,c2,rfl⟩:=h
  refine ⟨h1,h2,by show f.pa≤e.t; omega,hsi,hen,?_⟩
  show 0≤(if f.en < 0 then f.hi+1 else f.hi)∧(if f.en < 0 then f.hi+1 else f.hi)≤n+1
  by_cases hc:f.en < 0
  ·
   rw [if_pos hc]; omega
  rw [if_neg hc]; omega
 ·
  obtain ⟨k,c1,rfl⟩:=h
  exact ⟨h1,h2,by show f.pa≤e.t; omega,fun _=>⟨by show f.pa≤e.t; omega,Int.le_refl _⟩,hen,by show 0≤f.hi∧f.hi≤n+1; omega⟩
 ·
  obtain ⟨k,c1,rfl⟩:=h
  obtain ⟨s1,s2⟩:=hsi c1
  exact ⟨h1,by show 0≤f.pa+(e.t - f.si); omega,by show f.pa+(e.t - f.si)≤e.t; omega,(fun q=>by cases q),hen,by show 0≤f.hi∧f.hi≤n+1; omega⟩
 obtain ⟨k,c1,rfl⟩:=h
 exact ⟨h1,h2,by omega,hsi,hen,by omega⟩
theorem Jil {G:Game} {x:PX} (h:posG G.p x=0):x.1.1.length=G.rm.ths.l.length:=(Jeu (p:=Jry x) h).inn.lt
end Go.Proofs.YtfbfdnoodccgiaaGreatDoor
