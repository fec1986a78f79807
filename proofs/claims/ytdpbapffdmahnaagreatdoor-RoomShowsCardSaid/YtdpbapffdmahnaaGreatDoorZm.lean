/- Merged texts of this proof (walks and plain laws), printed by a program of the prover. -/
import Derived.Test.YtdpbapffdmahnaaGreatDoorZk
import Derived.Test.YtdpbapffdmahnaaGreatDoorZj
import Derived.Test.YtdpbapffdmahnaaGreatDoorZg
import Derived.Test.YtdpbapffdmahnaaGreatDoorZb
import Derived.Test.YtdpbapffdmahnaaGreatDoorZh
import Derived.Test.YtdpbapffdmahnaaGreatDoorZc
set_option maxHeartbeats 8000000
namespace Go.Proofs.YtdpbapffdmahnaaGreatDoor
open Go.RowKit Go.Proofs
set_option maxRecDepth 100000
set_option linter.unusedVariables false
set_option linter.unusedSimpArgs false
theorem Jpn (r:Room) (w:World) (hr:RoomOk w r) :
  Calls Tryz.prog 6 #[.agg #[r.pls.v,r.ths.v,r.prs.v,r.wys.v,r.acs.v,r.aus.v,.int .i64 r.ply,r.gl.v]] w (RetB w (.bool (!clB (Near r)))):=by
 have kpl:=hr.pls
 have lpl:=hr.pls.le
 have kth:=hr.ths
 have lth:=hr.ths.le
 have kpr:=hr.prs
 have lpr:=hr.prs.le
 have kwy:=hr.wys
 have lwy:=hr.wys.le
 have kac:=hr.acs
 have lac:=hr.acs.le
 have kau:=hr.aus
 have lau:=hr.aus.le
 have kgl:=hr.gl
 have lgl:=hr.gl.le
 refine enter Tryz.func6 rfl rfl (Nat.le_of_ble_eq_true rfl) ?_
 refine Nz 0 ?_
 refine Wb 1 rfl rfl (fun _=>rfl) (fun _=>rfl) fun b1 hb1=>?_
 refine Wd (Qc (Cs (Nz 1 ?_)))
 refine Wk 0 (Ba 0) ?_
 refine Wk 2 Nc ?_
 refine Wf 0 rfl rfl (fun hg=>Ff) ?_
 refine Wf 0 rfl rfl (fun hg=>Ba 0) ?_
 refine Wf 0 rfl rfl (fun hg=>Nc (eg_ hg rfl)) ?_
 refine Wf 0 rfl rfl (fun hg=>Fg) ?_
 refine Wk 1 Po ?_
 refine Wf 0 rfl rfl (fun hg=>Ff) ?_
 refine Wf 0 rfl rfl (fun hg=>Ba 0) ?_
 refine Wf 0 rfl rfl (fun hg=>Nc (eg_ hg rfl)) ?_
 refine Wf 0 rfl rfl (fun hg=>Fg) ?_
 refine Wk 1 Po ?_
 refine Wf 0 rfl rfl (fun hg=>Ff) ?_
 refine Wf 0 rfl rfl (fun hg=>Ba 0) ?_
 refine Wf 0 rfl rfl (fun hg=>Nc (eg_ hg rfl)) ?_
 refine Wf 0 rfl rfl (fun hg=>Fg) ?_
 refine Wk 1 Po ?_
 refine Wf 0 rfl rfl (fun hg=>Ff) ?_
 refine Wf 0 rfl rfl (fun hg=>Ba 0) ?_
 refine Wf 0 rfl rfl (fun hg=>Nc (eg_ hg rfl)) ?_
 refine Wf 0 rfl rfl (fun hg=>Fg) ?_
 refine Wk 1 Po ?_
 refine Wf 0 rfl rfl (fun hg=>Ff) ?_
 refine Wf 0 rfl rfl (fun hg=>Ba 0) ?_
 refine Wf 0 rfl rfl (fun hg=>Nc (eg_ hg rfl)) ?_
 refine Wf 0 rfl rfl (fun hg=>Fg) ?_
 refine Wk 1 Po ?_
 refine Wf 0 rfl rfl (fun hg=>Ff) ?_
 refine Wf 0 rfl rfl (fun hg=>Ba 0) ?_
 refine Wf 0 rfl rfl (fun hg=>Nc (eg_ hg rfl)) ?_
 refine Wf 0 rfl rfl (fun hg=>Fg) ?_
 refine Wk 0 Po ?_
 refine Wd (Qc (CS.cond rfl ?_ ?_))<;>intro hc1<;>try simp only [bq] at hc1
 ·
  refine Nz 1 ?_
  exact Wd (Qc (Cr (Qr (out1 rfl rfl (Jaa (by rw [Jf4 (fun h=>by have:=h.pls; have:=h.ths; have:=h.prs; have:=h.wys; have:=h.acs; have:=h.aus; have:=h.gl; omega)]; rfl))))))
 refine Ck (Qc (Cs (Nz 1 ?_)))
 refine Wd (Qc (Ce ?_))
 refine CS.loopM (σ:=Int) [2,50,51,52,53,54,55,56,57,58,59,60,61,62,63] (fun s=>[(3,.int .i64 s)]) (fun _=>_) (fun s=>0≤s∧s≤r.pls.l.length∧∀ j:Int,0≤j→j < s→(nth r.pls.l j).size≤100) (fun s=>(r.pls.l.length - s).toNat) 0 (fun _ _=>rfl) rfl rfl ⟨by omega,by omega,fun j _ _=>by omega⟩ ?_
 intro a t hs
 obtain ⟨ha1,ha2,ha3⟩:=hs
 refine Cs (Nz 2 ?_)
 refine Wk 0 (Ba 0) ?_
 refine Wk 1 Nc ?_
 refine Wd (Qc (CS.cond rfl ?_ ?_))<;>intro hc2<;>try simp only [bq] at hc2
 ·
  refine Ck (Qc (Cs (Ce (Nz 1 ?_))))
  refine Wk 1 (Ba 0) ?_
  refine Wk 0 Xc ?_
  refine Wk 0 Ub ?_
  refine Wk 1 (Ja0 Tryz.underlying9 rfl) ?_
  refine Wd (Qc (CS.cond rfl ?_ ?_))<;>intro hc3<;>try simp only [bq] at hc3
  ·
   refine Nz 1 ?_
   exact Wd (Qc (Cr (Qs (Qr (Qr (Qs (Qr (out1 rfl rfl (Jaa (by rw [Jf4 (fun h=>by have:=h.pl _ (Jad ha1 (by omega)); omega)]; rfl))))))))))
  refine Ck (Qb (Qc (Ny 1 ?_)))
  refine Wk 1 Za ?_
  refine Wd ?_
  exact QS.head (a+1) rfl rfl ⟨⟨by omega,by omega,fun j h0 h1=>by
     rcases (show j < a∨j=a by omega) with h | h
     ·
      exact ha3 j h0 h
     rw [h]; omega⟩,by omega⟩
 refine Cv (Qe (Qe (Qx (Qc (Cs (Nz 1 ?_))))))
 refine Wd (Qc (Ce ?_))
 refine CS.loopM (σ:=Int) [2,64,65,66,67,68,69,70,71,72,73,74,75,76,77,78] (fun s=>[(4,.int .i64 s)]) (fun _=>_) (fun s=>0≤s∧s≤r.ths.l.length∧∀ j:Int,0≤j→j < s→(nth r.ths.l j).nm.size≤100) (fun s=>(r.ths.l.length - s).toNat) 0 (fun _ _=>rfl) rfl rfl ⟨by omega,by omega,fun j _ _=>by omega⟩ ?_
 intro b t hs
 obtain ⟨hb1,hb2,hb3⟩:=hs
 refine Cs (Nz 2 ?_)
 refine Wk 0 (Ba 0) ?_
 refine Wk 1 Nc ?_
 refine Wd (Qc (CS.cond rfl ?_ ?_))<;>intro hc4<;>try simp only [bq] at hc4
 ·
  refine Ck (Qc (Cs (Ce (Nz 1 ?_))))
  refine Wk 1 (Ba 0) ?_
  refine Wk 1 Xc ?_
  refine Wk 0 (Uc 4 0) ?_
  refine Wk 1 (Ja0 Tryz.underlying9 rfl) ?_
  refine Wd (Qc (CS.cond rfl ?_ ?_))<;>intro hc5<;>try simp only [bq] at hc5
  ·
   refine Nz 1 ?_
   exact Wd (Qc (Cr (Qs (Qr (Qr (Qs (Qr (out1 rfl rfl (Jaa (by rw [Jf4 (fun h=>by have:=h.th _ (Jad hb1 (by omega)); omega)]; rfl))))))))))
  refine Ck (Qb (Qc (Ny 1 ?_)))
  refine Wk 1 Za ?_
  refine Wd ?_
  exact QS.head (b+1) rfl rfl ⟨⟨by omega,by omega,fun j h0 h1=>by
     rcases (show j < b∨j=b by omega) with h | h
     ·
      exact hb3 j h0 h
     rw [h]; omega⟩,by omega⟩
 refine Cv (Qe (Qe (Qx (Qc (Cs (Nz 1 ?_))))))
 refine Wd (Qc (Ce ?_))
 refine CS.loopM (σ:=Int) [2,79,80,81,82,83,84,85,86,87,88,89,90,91,92,93,94,95,96,97,98,99,100,101,102,103] (fun s=>[(5,.int .i64 s)]) (fun _=>_) (fun s=>0≤s∧s≤r.prs.l.length∧∀ j:Int,0≤j→j < s→((nth r.prs.l j).nm.size≤100∧(nth r.prs.l j).wh.l.length≤20)) (fun s=>(r.prs.l.length - s).toNat) 0 (fun _ _=>rfl) rfl rfl ⟨by omega,by omega,fun j _ _=>by omega⟩ ?_
 intro d t hs
 obtain ⟨hd1,hd2,hd3⟩:=hs
 refine Cs (Nz 2 ?_)
 refine Wk 0 (Ba 0) ?_
 refine Wk 1 Nc ?_
 refine Wd (Qc (CS.cond rfl ?_ ?_))<;>intro hc6<;>try simp only [bq] at hc6
 ·
  have hwh:SlT cLit w (nth r.prs.l d).wh:=hr.prs.at hd1 (by omega)
  refine Ck (Qc (Cs (Ce (Nz 1 ?_))))
  refine Wk 1 (Ba 0) ?_
  refine Wk 1 Xc ?_
  refine Wk 0 (Uc 3 0) ?_
  refine Wk 2 (Ja0 Tryz.underlying9 rfl) ?_
  refine Wf 0 rfl rfl (fun hg=>Ff) ?_
  refine Wf 0 rfl rfl (fun hg=>Ba 0) ?_
  refine Wf 0 rfl rfl (fun hg=>Fm) ?_
  refine Wf 0 rfl rfl (fun hg=>Xc (eg_ hg rfl)) ?_
  refine Wf 0 rfl rfl (fun hg=>Ff) ?_
  refine Wf 0 rfl rfl (fun hg=>Uc 3 2) ?_
  refine Wf 0 rfl rfl (fun hg=>Nc (eg_ hg rfl)) ?_
  refine Wf 0 rfl rfl (fun hg=>Fg) ?_
  refine Wk 0 Po ?_
  refine Wd (Qc (CS.cond rfl ?_ ?_))<;>intro hc7<;>try simp only [bq] at hc7
  ·
   refine Nz 1 ?_
   exact Wd (Qc (Cr (Qs (Qr (Qr (Qs (Qr (out1 rfl rfl (Jaa (by rw [Jf4 (fun h=>by have:=h.pr _ (Jad hd1 (by omega)); omega)]; rfl))))))))))
  refine Ck (Qb (Qc (Ny 1 ?_)))
  refine Wk 1 Za ?_
  refine Wd ?_
  exact QS.head (d+1) rfl rfl ⟨⟨by omega,by omega,fun j h0 h1=>by
     rcases (show j < d∨j=d by omega) with h | h
     ·
      exact hd3 j h0 h
     rw [h]; omega⟩,by omega⟩
 refine Cv (Qe (Qe (Qx (Qc (Cs (Nz 1 ?_))))))
 refine Wd (Qc (Ce ?_))
 refine CS.loopM (σ:=Int) [2,104,105,106,107,108,109,110,111,112,113,114,115,116,117,118] (fun s=>[(6,.int .i64 s)]) (fun _=>_) (fun s=>0≤s∧s≤r.wys.l.length∧∀ j:Int,0≤j→j < s→(nth r.wys.l j).wh.l.length≤20) (fun s=>(r.wys.l.length - s).toNat) 0 (fun _ _=>rfl) rfl rfl ⟨by omega,by omega,fun j _ _=>by omega⟩ ?_
 intro e t hs
 obtain ⟨he1,he2,he3⟩:=hs
 refine Cs (Nz 2 ?_)
 refine Wk 0 (Ba 0) ?_
 refine Wk 1 Nc ?_
 refine Wd (Qc (CS.cond rfl ?_ ?_))<;>intro hc8<;>try simp only [bq] at hc8
 ·
  have hwh:SlT cLit w (nth r.wys.l e).wh:=hr.wys.at he1 (by omega)
  refine Ck (Qc (Cs (Ce (Nz 1 ?_))))
  refine Wk 1 (Ba 0) ?_
  refine Wk 1 Xc ?_
  refine Wk 0 (Uc 3 2) ?_
  refine Wk 1 Nc ?_
  refine Wd (Qc (CS.cond rfl ?_ ?_))<;>intro hc9<;>try simp only [bq] at hc9
  ·
   refine Nz 1 ?_
   exact Wd (Qc (Cr (Qs (Qr (Qr (Qs (Qr (out1 rfl rfl (Jaa (by rw [Jf4 (fun h=>by have:=h.wy _ (Jad he1 (by omega)); omega)]; rfl))))))))))
  refine Ck (Qb (Qc (Ny 1 ?_)))
  refine Wk 1 Za ?_
  refine Wd ?_
  exact QS.head (e+1) rfl rfl ⟨⟨by omega,by omega,fun j h0 h1=>by
     rcases (show j < e∨j=e by omega) with h | h
     ·
      exact he3 j h0 h
     rw [h]; omega⟩,by omega⟩
 refine Cv (Qe (Qe (Qx (Qc (Cs (Nz 1 ?_))))))
 refine Wd (Qc (Ce ?_))
 refine CS.loopM (σ:=Int) [2,8,119,120,121,122,123,124,125,126,127,128,129,130,131,132,133,134,135,136,137,138,139,140,141,142,143,144,145,146,147,148,149,150,151,152,153,154,155,156,157,158,159,160,161,162,163,164] (fun s=>[(7,.int .i64 s)]) (fun _=>_) (fun s=>0≤s∧s≤r.acs.l.length∧∀ j:Int,0≤j→j < s→((nth r.acs.l j).nm.size≤100∧(nth r.acs.l j).wh.l.length≤20∧(nth r.acs.l j).us.l.length≤20∧(nth r.acs.l j).se.l.length≤20∧(nth r.acs.l j).sp.l.length≤20∧(nth r.acs.l j).br.l.length≤20)) (fun s=>(r.acs.l.length - s).toNat) 0 (fun _ _=>rfl) rfl rfl ⟨by omega,by omega,fun j _ _=>by omega⟩ ?_
 intro f t hs
 obtain ⟨hf1,hf2,hf3⟩:=hs
 refine Cs (Nz 2 ?_)
 refine Wk 0 (Ba 0) ?_
 refine Wk 1 Nc ?_
 refine Wd (Qc (CS.cond rfl ?_ ?_))<;>intro hc10<;>try simp only [bq] at hc10
 ·
  have hak:ActOk w (nth r.acs.l f):=hr.acs.at hf1 (by omega)
  have a1:=hak.us.ints
  have a2:=hak.wh
  have a3:=hak.se
  have a4:=hak.sp.ints
  have a5:=hak.br.ints
  refine Ck (Qc (Cs (Ce (Nz 1 ?_))))
  refine Wk 1 (Ba 0) ?_
  refine Wk 0 Xc ?_
  refine Wk 0 Ua ?_
  refine Wl 0 zv62 (fun _=>rfl) (fun _=>rfl) fun b8 hb8=>?_
  refine Wv 0 0 ?_
  refine Wd (Qc (Nz 1 ?_))
  refine Wk 0 (Ba 0) ?_
  refine Wk 2 (Ja0 Tryz.underlying9 rfl) ?_
  refine Wf 0 rfl rfl (fun hg=>Ff) ?_
  refine Wf 0 rfl rfl (fun hg=>Ba 0) ?_
  refine Wf 0 rfl rfl (fun hg=>Nc (eg_ hg rfl)) ?_
  refine Wf 0 rfl rfl (fun hg=>Fg) ?_
  refine Wk 1 Po ?_
  refine Wf 0 rfl rfl (fun hg=>Ff) ?_
  refine Wf 0 rfl rfl (fun hg=>Ba 0) ?_
  refine Wf 0 rfl rfl (fun hg=>Na (eg_ hg rfl)) ?_
  refine Wf 0 rfl rfl (fun hg=>Fg) ?_
  refine Wk 1 Po ?_
  refine Wf 0 rfl rfl (fun hg=>Ff) ?_
  refine Wf 0 rfl rfl (fun hg=>Ba 0) ?_
  refine Wf 0 rfl rfl (fun hg=>Nc (eg_ hg rfl)) ?_
  refine Wf 0 rfl rfl (fun hg=>Fg) ?_
  refine Wk 1 Po ?_
  refine Wf 0 rfl rfl (fun hg=>Ff) ?_
  refine Wf 0 rfl rfl (fun hg=>Ba 0) ?_
  refine Wf 0 rfl rfl (fun hg=>Na (eg_ hg rfl)) ?_
  refine Wf 0 rfl rfl (fun hg=>Fg) ?_
  refine Wk 1 Po ?_
  refine Wf 0 rfl rfl (fun hg=>Ff) ?_
  refine Wf 0 rfl rfl (fun hg=>Ba 0) ?_
  refine Wf 0 rfl rfl (fun hg=>Na (eg_ hg rfl)) ?_
  refine Wf 0 rfl rfl (fun hg=>Fg) ?_
  refine Wk 0 Po ?_
  refine Wd (Qc (CS.cond rfl ?_ ?_))<;>intro hc11<;>try simp only [bq] at hc11
  ·
   refine Nz 1 ?_
   exact Wd (Qc (Cr (Qs (Qr (Qr (Qs (Qr (out1 rfl rfl (Jaa (by rw [Jf4 (fun h=>by have:=h.ac _ (Jad hf1 (by omega)); omega)]; rfl))))))))))
  refine Ck (Qb (Qc (Ny 1 ?_)))
  refine Wk 1 Za ?_
  refine Wd ?_
  refine QS.sel [1] rfl ?_
  exact QS.head (f+1) rfl rfl ⟨⟨by omega,by omega,fun j h0 h1=>by
     rcases (show j < f∨j=f by omega) with h | h
     ·
      exact hf3 j h0 h
     rw [h]; omega⟩,by omega⟩
 refine Cv (Qe (Qe (Qx (Qc (Cs (Nz 1 ?_))))))
 refine Wd (Qc (Ce ?_))
 refine CS.loopM (σ:=Int) [2,165,166,167,168,169,170,171,172,173,174,175,176,177,178,179] (fun s=>[(9,.int .i64 s)]) (fun _=>_) (fun s=>0≤s∧s≤r.aus.l.length∧∀ j:Int,0≤j→j < s→(nth r.aus.l j).wh.l.length≤20) (fun s=>(r.aus.l.length - s).toNat) 0 (fun _ _=>rfl) rfl rfl ⟨by omega,by omega,fun j _ _=>by omega⟩ ?_
 intro k t hs
 obtain ⟨hk1,hk2,hk3⟩:=hs
 refine Cs (Nz 2 ?_)
 refine Wk 0 (Ba 0) ?_
 refine Wk 1 Nc ?_
 refine Wd (Qc (CS.cond rfl ?_ ?_))<;>intro hc12<;>try simp only [bq] at hc12
 ·
  have hwh:SlT cLit w (nth r.aus.l k).wh:=hr.aus.at hk1 (by omega)
  refine Ck (Qc (Cs (Ce (Nz 1 ?_))))
  refine Wk 1 (Ba 0) ?_
  refine Wk 1 Xc ?_
  refine Wk 0 (Uc 3 0) ?_
  refine Wk 1 Nc ?_
  refine Wd (Qc (CS.cond rfl ?_ ?_))<;>intro hc13<;>try simp only [bq] at hc13
  ·
   refine Nz 1 ?_
   exact Wd (Qc (Cr (Qs (Qr (Qr (Qs (Qr (out1 rfl rfl (Jaa (by rw [Jf4 (fun h=>by have:=h.au _ (Jad hk1 (by omega)); omega)]; rfl))))))))))
  refine Ck (Qb (Qc (Ny 1 ?_)))
  refine Wk 1 Za ?_
  refine Wd ?_
  exact QS.head (k+1) rfl rfl ⟨⟨by omega,by omega,fun j h0 h1=>by
     rcases (show j < k∨j=k by omega) with h | h
     ·
      exact hk3 j h0 h
     rw [h]; omega⟩,by omega⟩
 refine Cv (Qe (Qe (Qx (Qc (Nz 1 ?_)))))
 exact Wd (Qc (Cr (out1 rfl rfl (Jaa (by rw [Jpl ⟨by omega,by omega,by omega,by omega,by omega,by omega,by omega,Jdi hc2 ha3,Jdi hc4 hb3,Jdi hc6 hd3,Jdi hc8 he3,Jdi hc10 hf3,Jdi hc12 hk3⟩]; rfl)))))
theorem Jnw (z:Stt) (w:World) (hz:SttOk w z) :
  Calls Tryz.prog 7 #[.agg #[z.ths.v,z.prs.v,z.pls.v]] w (RetB w (.bool (!decide (z.ths.l.length≤30∧z.prs.l.length≤30∧z.pls.l.length≤30)))):=by
 have zth:=hz.ths.ints
 have zpr:=hz.prs.ints
 have zpl:=hz.pls.ints
 refine enter Tryz.func7 rfl rfl (Nat.le_of_ble_eq_true rfl) ?_
 refine Nz 0 ?_
 refine Wb 1 rfl rfl (fun _=>rfl) (fun _=>rfl) fun b1 hb1=>?_
 refine Wd (Qc (Nz 1 ?_))
 refine Wk 0 (Ba 0) ?_
 refine Wk 2 Na ?_
 refine Wf 0 rfl rfl (fun hg=>Ff) ?_
 refine Wf 0 rfl rfl (fun hg=>Ba 0) ?_
 refine Wf 0 rfl rfl (fun hg=>Na (eg_ hg rfl)) ?_
 refine Wf 0 rfl rfl (fun hg=>Fg) ?_
 refine Wk 1 Po ?_
 refine Wf 0 rfl rfl (fun hg=>Ff) ?_
 refine Wf 0 rfl rfl (fun hg=>Ba 0) ?_
 refine Wf 0 rfl rfl (fun hg=>Na (eg_ hg rfl)) ?_
 refine Wf 0 rfl rfl (fun hg=>Fg) ?_
 refine Wk 1 Po ?_
 refine Wd (Qc (Cr ?_))
 exact out1 rfl rfl (Jaa (by
    congr 1
    rw [Bool.eq_iff_iff]
    simp only [Bool.or_eq_true,decide_eq_true_eq,Bool.not_eq_true',decide_eq_false_iff_not]
    omega))
end Go.Proofs.YtdpbapffdmahnaaGreatDoor
