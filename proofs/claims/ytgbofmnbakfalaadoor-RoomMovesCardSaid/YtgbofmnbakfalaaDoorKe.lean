/- Merged texts of this proof (walks and plain laws), printed by a program of the prover. -/
import Derived.Test.YtgbofmnbakfalaaDoorKd
import Derived.Test.YtgbofmnbakfalaaDoorKb
namespace Go.Proofs.YtgbofmnbakfalaaDoor
open Go.RowKit Go.Proofs
set_option maxRecDepth 100000
set_option linter.unusedVariables false
set_option linter.unusedSimpArgs false
theorem CopyState_c (z : Stt) (w : World) (hz : SttOk w z) (hm : z.ths.l.length ≤ 1000000 ∧ z.prs.l.length ≤ 1000000 ∧ z.pls.l.length ≤ 1000000) :
  Calls Tryd.prog 23 #[.agg #[z.ths.v, z.prs.v, z.pls.v]] w (fun e w' => ∃ x : Value × Value × Value, (x.1.oneCell' = true ∧ x.2.1.oneCell' = true ∧ x.2.2.oneCell' = true) ∧ RetF w (.agg #[x.1, x.2.1, x.2.2]) (star [oints 3 x.1 z.ths.l, oints 3 x.2.1 z.prs.l, oints 3 x.2.2 z.pls.l]) e w') := by
 have zth := hz.ths.ints
 have zpr := hz.prs.ints
 have zpl := hz.pls.ints
 refine enter Tryd.func23 rfl rfl (Nat.le_of_ble_eq_true rfl) ?_
 refine N3 ?_
 refine WS.box rfl rfl (fun _ => rfl) ?_; intro b1 hb1
 refine WS.alloc zv37 (fun _ => rfl) ?_; intro b2 hb2
 refine N4 ?_
 refine CS.seq ?_
 refine CS.drawnBut 0 (k := 14) mixed rfl rfl rfl ?_
 refine AS.take 1 rfl (by kernel_rfl) (by kernel_rfl) (by kernel_rfl) rfl rfl ((by first | exact det_fieldAddr rfl fo37_0 | exact det_fieldAddrS rfl fo37_0)) rfl rfl ?_
 refine AS.take 2 rfl (by kernel_rfl) (by kernel_rfl) (by kernel_rfl) rfl rfl (det_loadb (j := 0) rfl rfl rfl tk35) rfl rfl ?_
 refine AS.take 5 rfl (by kernel_rfl) (by kernel_rfl) (by kernel_rfl) rfl rfl ((by first | exact det_fieldAddr rfl fo37_1 | exact det_fieldAddrS rfl fo37_1)) rfl rfl ?_
 refine AS.take 6 rfl (by kernel_rfl) (by kernel_rfl) (by kernel_rfl) rfl rfl (det_loadb (j := 0) rfl rfl rfl tk35) rfl rfl ?_
 refine AS.take 9 rfl (by kernel_rfl) (by kernel_rfl) (by kernel_rfl) rfl rfl ((by first | exact det_fieldAddr rfl fo37_2 | exact det_fieldAddrS rfl fo37_2)) rfl rfl ?_
 refine AS.take 10 rfl (by kernel_rfl) (by kernel_rfl) (by kernel_rfl) rfl rfl (det_loadb (j := 0) rfl rfl rfl tk35) rfl rfl ?_
 refine AS.many (nn := 7) (L' := fun vs => [osl 3 1 (vs 3) z.ths.l.length (ints z.ths.l), osl 3 1 (vs 7) z.prs.l.length (ints z.prs.l), osl 3 1 (vs 11) z.pls.l.length (ints z.pls.l), blk b2 [.slice none 0 0, .slice none 0 0, .slice none 0 0] 37, blk b1 [z.ths.v, z.prs.v, z.pls.v] 37]) [0, 3, 4, 7, 8, 11, 12] (fun i => match i with | 0 => 3 | 3 => 6 | 4 => 7 | 7 => 10 | 8 => 11 | 11 => 14 | 12 => 15 | _ => 0) (fun i => match i with | 3 => [0] | 7 => [4, 3] | 11 => [8, 7] | 12 => [3, 7, 11] | _ => []) (fun i => match i with | 3 => some 0 | 7 => some 4 | 11 => some 8 | _ => none) (fun i v => match i with | 0 => [osl 3 1 v 0 []] | 4 => [osl 3 1 v 0 []] | 8 => [osl 3 1 v 0 []] | 3 => [osl 3 1 v z.ths.l.length (ints z.ths.l)] | 7 => [osl 3 1 v z.prs.l.length (ints z.prs.l)] | 11 => [osl 3 1 v z.pls.l.length (ints z.pls.l)] | _ => []) (fun i vs => match i with | 3 => (vs 3).oneCell' = true | 7 => (vs 7).oneCell' = true | 11 => (vs 11).oneCell' = true | 12 => vs 12 = .agg #[vs 3, vs 7, vs 11] | _ => True) (by kernel_rfl) (by decide) rfl rfl (by first | exact fun _ h => h | exact fun _ h => h.sub (by repeat first | exact List.Sublist.refl _ | apply List.Sublist.cons_cons | apply List.Sublist.cons)) ?_ (fun _ => rfl) (fun _ => rfl) ?_ ?_
 ·
  intro i hi vs vs' hv h
  simp only [List.mem_cons, List.not_mem_nil, or_false] at hi
  rcases hi with rfl | rfl | rfl | rfl | rfl | rfl | rfl
  ·
   trivial
  ·
   have e := fun j hj => (hv j hj).symm; simp only [upd] at h ⊢; rw [e 3 (by decide)]; exact h
  ·
   trivial
  ·
   have e := fun j hj => (hv j hj).symm; simp only [upd] at h ⊢; rw [e 7 (by decide)]; exact h
  ·
   trivial
  ·
   have e := fun j hj => (hv j hj).symm; simp only [upd] at h ⊢; rw [e 11 (by decide)]; exact h
  ·
   have e := fun j hj => (hv j hj).symm; simp only [upd] at h ⊢; rw [e 12 (by decide), e 3 (by decide), e 7 (by decide), e 11 (by decide)]; exact h
 ·
  intro i hi o ho
  simp only [List.mem_cons, List.not_mem_nil, or_false] at hi
  rcases hi with rfl | rfl | rfl | rfl | rfl | rfl | rfl
  ·
   obtain rfl := Option.some.inj ho -- ref.go:445
   intro Q vs l' M hn hd hb k
   refine WS.build0 sl35 zv3 (l' := fun v => l'.set 3 v) (fun v => lset_eq _ _ _) ?_; intro v; refine WS.done ?_; exact k v trivial
  ·
   obtain rfl := Option.some.inj ho -- ref.go:445
   intro Q vs l' M hn hd hb k
   refine WS.append0 (j := 0) (news := ints z.ths.l) (m := z.ths.l.length) sl35 zv3 rfl (by decide) (hd 0 (by decide)).1 rfl ((hb 5 (by decide)).trans rfl) (fun u hu => zth.st hu) (by simp [ints, Value.oneCell']) (by omega) (by omega) (l' := fun v => l'.set 6 v) (fun v => lset_eq _ _ _) (fun _ => rfl) ?_; intro v; refine WS.oc (j := 0) rfl (fun hv => ?_); refine WS.done ?_; exact k v hv
  ·
   obtain rfl := Option.some.inj ho -- ref.go:445
   intro Q vs l' M hn hd hb k
   refine WS.build0 sl35 zv3 (l' := fun v => l'.set 7 v) (fun v => lset_eq _ _ _) ?_; intro v; refine WS.done ?_; exact k v trivial
  ·
   obtain rfl := Option.some.inj ho -- ref.go:445
   intro Q vs l' M hn hd hb k
   refine WS.append0 (j := 0) (news := ints z.prs.l) (m := z.prs.l.length) sl35 zv3 rfl (by decide) (hd 4 (by decide)).1 rfl ((hb 9 (by decide)).trans rfl) (fun u hu => zpr.st hu) (by simp [ints, Value.oneCell']) (by omega) (by omega) (l' := fun v => l'.set 10 v) (fun v => lset_eq _ _ _) (fun _ => rfl) ?_; intro v; refine WS.oc (j := 0) rfl (fun hv => ?_); refine WS.done ?_; exact k v hv
  ·
   obtain rfl := Option.some.inj ho -- ref.go:445
   intro Q vs l' M hn hd hb k
   refine WS.build0 sl35 zv3 (l' := fun v => l'.set 11 v) (fun v => lset_eq _ _ _) ?_; intro v; refine WS.done ?_; exact k v trivial
  ·
   obtain rfl := Option.some.inj ho -- ref.go:445
   intro Q vs l' M hn hd hb k
   refine WS.append0 (j := 0) (news := ints z.pls.l) (m := z.pls.l.length) sl35 zv3 rfl (by decide) (hd 8 (by decide)).1 rfl ((hb 13 (by decide)).trans rfl) (fun u hu => zpl.st hu) (by simp [ints, Value.oneCell']) (by omega) (by omega) (l' := fun v => l'.set 14 v) (fun v => lset_eq _ _ _) (fun _ => rfl) ?_; intro v; refine WS.oc (j := 0) rfl (fun hv => ?_); refine WS.done ?_; exact k v hv
  ·
   obtain rfl := Option.some.inj ho -- ref.go:445
   intro Q vs l' M hn hd hb k
   have q3 : l'[6]? = _ ∧ _ := hd 3 (by decide)
   have q7 : l'[10]? = _ ∧ _ := hd 7 (by decide)
   have q11 : l'[14]? = _ ∧ _ := hd 11 (by decide)
   refine WS.det rfl rfl rfl (det_build1 plc37 zv37 (parts := [(0, vs 3), (1, vs 7), (2, vs 11)]) (by simp [evp, evo, q3.1, q7.1, q11.1]) rfl (by have a := q3.2; have b := q7.2; have c := q11.2; simp at a b c; simp [a, b, c])) (lset_eq _ _ _) ?_
   refine WS.done ?_
   exact k _ (by simp [upd])
 ·
  intro vs hvs
  -- on
  have q3 := hvs 3 (by decide)
  have q7 := hvs 7 (by decide)
  have q11 := hvs 11 (by decide)
  have q12 := hvs 12 (by decide)
  simp only at q3 q7 q11 q12
  rw [q12]
  refine AS.one (i := 13) (by kernel_rfl) rfl (by first | exact fun _ h => h | exact fun _ h => h.sub (by repeat first | exact List.Sublist.refl _ | apply List.Sublist.cons_cons | apply List.Sublist.cons)) rfl ?_
  first | refine WS.storeW (j := 3) rfl rfl rfl rfl (by first | (simp [Value.oneCell']; done) | ((repeat (refine List.forall_mem_cons.2 ⟨by first | rfl | assumption, ?_⟩)); exact fun _ h => absurd h List.not_mem_nil) | exact Cel.one _ w _ (by first | assumption | exact trivial)) tk37 rfl rfl ?_
  refine WS.done ?_
  refine QS.then_AS ?_
  refine AS.done (by kernel_rfl) (by first | exact fun _ h => h | exact fun _ h => h.sub (by repeat first | exact List.Sublist.refl _ | apply List.Sublist.cons_cons | apply List.Sublist.cons)) ?_
  refine QS.then_code ?_
  refine CS.ret ?_
  exact outR (resc rfl (cell_rvN (j := 3) rfl rfl tk37)) (fun u hu => ⟨(_, _, _), ⟨q3, q7, q11⟩, retFs (hu.sel [0, 0, 0] rfl) (List.Perm.refl _)⟩)
end Go.Proofs.YtgbofmnbakfalaaDoor
namespace Go.Proofs.YtgbofmnbakfalaaDoor
open Go.RowKit Go.Proofs
set_option maxRecDepth 100000
set_option linter.unusedVariables false
set_option linter.unusedSimpArgs false
theorem retS {w0 u : World} {L : List SA} {is : List Nat} {e1 e2 e3 : TypeId} {a b c : Value} {xs ys zs : List Int} {f : Value → Value} (hs : selo L is = some [oints e1 a xs, oints e2 b ys, oints e3 c zs]) (hu : St w0.heap.size w0 L u) :
  RetS w0 (xs, ys, zs) f (.returned (f (.agg #[a, b, c]))) u := by
 have h1 := St.toRo (A := star [oints e1 a xs, oints e2 b ys, oints e3 c zs]) (p := fun u => SttOk u ⟨⟨a, xs⟩, ⟨b, ys⟩, ⟨c, zs⟩⟩) (L := []) (fun S u h => ⟨SlI.tree (Star.oints (L := [oints e1 a xs, oints e2 b ys, oints e3 c zs]) (j := 0) rfl h.1), SlI.tree (Star.oints (L := [oints e1 a xs, oints e2 b ys, oints e3 c zs]) (j := 1) rfl h.1), SlI.tree (Star.oints (L := [oints e1 a xs, oints e2 b ys, oints e3 c zs]) (j := 2) rfl h.1)⟩) (St.pack (L2 := []) (by simpa using hu.sel is hs))
 exact ⟨⟨⟨a, xs⟩, ⟨b, ys⟩, ⟨c, zs⟩⟩, ⟨rfl, u, h1.ro (j := 0) rfl⟩, retF (j := 0) rfl u h1⟩
theorem retNo {w0 u : World} {L : List SA} {f : Value → Value} (hu : St w0.heap.size w0 L u) : RetS w0 no3 f (.returned (f (.agg #[.slice none 0 0, .slice none 0 0, .slice none 0 0]))) u := by
 have h1 : St w0.heap.size w0 (oints 3 (.slice none 0 0) [] :: L) u := St.osl0 hu
 have h2 : St w0.heap.size w0 (oints 3 (.slice none 0 0) [] :: oints 3 (.slice none 0 0) [] :: L) u := St.osl0 h1
 have h3 : St w0.heap.size w0 (oints 3 (.slice none 0 0) [] :: oints 3 (.slice none 0 0) [] :: oints 3 (.slice none 0 0) [] :: L) u := St.osl0 h2
 exact retS (is := [0, 0, 0]) rfl h3
set_option maxHeartbeats 2000000 in
theorem Rsettle_c (r : Room) (w : World) (hr : RoomOk w r) (z : Stt) (hz : SttOk w z) (hm : z.ths.l.length ≤ 1000000 ∧ z.prs.l.length ≤ 1000000 ∧ z.pls.l.length ≤ 1000000) (ha : autosIn r.aus.l z.ths.l.length) :
  Calls Tryd.prog 73 #[.agg #[r.pls.v, r.ths.v, r.prs.v, r.wys.v, r.acs.v, r.aus.v, .int .i64 r.ply, r.gl.v], .agg #[z.ths.v, z.prs.v, z.pls.v]] w (RetS w ((settleV r z.x).getD no3) fun v => .tuple #[v, .bool (settleV r z.x).isSome]) := by
 have kpl := hr.pls
 have lpl := hr.pls.le
 have kth := hr.ths
 have lth := hr.ths.le
 have kpr := hr.prs
 have lpr := hr.prs.le
 have kwy := hr.wys
 have lwy := hr.wys.le
 have kac := hr.acs
 have lac := hr.acs.le
 have kau := hr.aus
 have lau := hr.aus.le
 have kgl := hr.gl
 have lgl := hr.gl.le
 refine enter Tryd.func73 rfl rfl (Nat.le_of_ble_eq_true rfl) ?_
 refine N3 ?_
 refine WS.box rfl rfl (fun _ => rfl) ?_; intro b2 hb2
 refine WS.box rfl rfl (fun _ => rfl) ?_; intro b3 hb3
 refine WS.alloc zv37 (fun _ => rfl) ?_; intro b4 hb4
 refine WS.det rfl rfl rfl (det_assign rfl) rfl ?_
 refine N1 ?_
 refine WS.det rfl rfl rfl (det_loadb0 (j := 1) rfl rfl tk37) rfl ?_
 refine WS.callF rfl rfl ent23 (fun u hu => CopyState_c z u (hz.st hu) hm) (fun _ => rfl) ?_; rintro ⟨va, vb, vc⟩ ⟨oa, ob, oc⟩
 refine WS.unpack ?_
 refine WS.alloc zv37 (fun _ => rfl) ?_; intro b6 hb6
 first | refine WS.storeW (j := 0) rfl rfl rfl rfl (by first | (simp [Value.oneCell']; done) | ((repeat (refine List.forall_mem_cons.2 ⟨by first | rfl | assumption, ?_⟩)); exact fun _ h => absurd h List.not_mem_nil) | exact Cel.one _ w _ (by first | assumption | exact trivial)) tk37 rfl rfl ?_
 refine N4 ?_
 refine CS.seq ?_
 refine N3 ?_
 refine WS.det rfl rfl rfl (det_assign rfl) rfl ?_
 refine N4 ?_
 refine CS.block ?_
 refine CS.sel [1, 1, 1, 0, 0, 1] rfl ?_
 refine CS.loopM (σ := Int × List Int) [5, 8, 9, 10, 13, 14, 15, 16, 17, 18, 19, 20, 21, 22, 23, 24, 25, 26, 27, 28, 29, 30, 31, 32, 33, 34, 35, 36, 37, 38, 39, 40, 41, 42, 43, 44, 45, 46, 47, 48, 49, 50, 51, 52, 53, 54, 55, 56, 57, 58, 59, 60, 61, 62, 63, 64, 65, 66, 67, 68, 69, 70] (fun s => [(7, .int .i64 s.1)]) (fun s => [oints 3 va s.2, oints 3 vb z.prs.l, oints 3 vc z.pls.l, blk b6 [va, vb, vc] 37, blk b4 [.slice none 0 0, .slice none 0 0, .slice none 0 0] 37, blk b2 [r.pls.v, r.ths.v, r.prs.v, r.wys.v, r.acs.v, r.aus.v, .int .i64 r.ply, r.gl.v] 31]) (fun s => 0 ≤ s.1 ∧ s.1 ≤ 101 ∧ s.2.length = z.ths.l.length ∧ settleN r.aus.l 101 z.ths.l = settleN r.aus.l (101 - s.1).toNat s.2) (fun s => (101 - s.1).toNat) (0, z.ths.l) (fun _ _ => rfl) rfl rfl ⟨by simp, by simp, rfl, rfl⟩ ?_
 intro s t hs
 obtain ⟨hs1, hs2, hsl, hs4⟩ := hs
 let hS := s
 refine CS.seq ?_
 refine N3 ?_
 refine WS.det rfl rfl rfl (det_move rfl) rfl ?_
 refine WS.det rfl rfl rfl (det_le rfl rfl) rfl ?_
 refine N4 ?_
 refine CS.cond rfl (fun hc1 => ?_) (fun hc1 => ?_) <;> (try simp only [bq] at hc1)
 ·
  refine CS.skip ?_
  refine QS.then_code ?_
  refine CS.seq ?_
  refine CS.block ?_
  refine N3 ?_
  refine WS.det rfl rfl rfl (det_assign rfl) rfl ?_
  refine N4 ?_
  refine CS.seq ?_
  refine N3 ?_
  refine WS.det rfl rfl rfl (det_assign rfl) rfl ?_
  refine N4 ?_
  refine CS.block ?_
  refine CS.loopM (σ := Int × Int) [10, 17, 18, 19, 20, 21, 22, 23, 24, 25, 26, 27, 28, 29, 30, 31, 32, 33, 34, 35, 36, 37, 38, 39, 40, 41, 42, 43, 44, 45, 46, 47, 48, 49, 50] (fun s => [(9, .int .i64 s.1), (8, .int .i64 s.2)]) (fun _ => _) (fun s => 0 ≤ s.1 ∧ s.1 ≤ r.aus.l.length ∧ ((s.2 = -1 ∧ ∀ j : Int, 0 ≤ j → j < s.1 → (holdB hS.2 (nth r.aus.l j).wh.l && !decide (nth hS.2 (nth r.aus.l j).t = (nth r.aus.l j).s)) = false) ∨ (0 ≤ s.2 ∧ s.2 < s.1 ∧ (holdB hS.2 (nth r.aus.l s.2).wh.l && !decide (nth hS.2 (nth r.aus.l s.2).t = (nth r.aus.l s.2).s)) = true ∧ ∀ j : Int, 0 ≤ j → j < s.2 → (holdB hS.2 (nth r.aus.l j).wh.l && !decide (nth hS.2 (nth r.aus.l j).t = (nth r.aus.l j).s)) = false))) (fun s => (r.aus.l.length - s.1).toNat) (0, -1) (fun _ _ => rfl) rfl rfl ⟨by simp, by simp, .inl ⟨rfl, fun j h0 h1 => by simp at h1; omega⟩⟩ ?_
  intro q t hs
  obtain ⟨hq1, hq2, hq3⟩ := hs
  refine CS.seq ?_
  refine N3 ?_
  refine WS.det rfl rfl rfl (det_move rfl) rfl ?_
  refine WS.det rfl rfl rfl ((by first | exact det_fieldAddr rfl fo31_5 | exact det_fieldAddrS rfl fo31_5)) rfl ?_
  refine WS.det rfl rfl rfl (det_loadb (j := 5) rfl rfl rfl tk27) rfl ?_
  refine WS.det rfl rfl rfl (det_lenU sl27 rfl (by assumption)) rfl ?_
  refine WS.det rfl rfl rfl (det_lt rfl rfl) rfl ?_
  refine WS.det rfl rfl rfl (det_move rfl) rfl ?_
  refine WS.guardT rfl rfl rfl rfl (fun hg => det_move rfl) rfl ?_
  refine WS.guardT rfl rfl rfl rfl (fun hg => det_lt (ev_cond hg rfl) rfl) rfl ?_
  refine WS.det rfl rfl rfl (det_pick_and rfl rfl rfl) rfl ?_
  refine N4 ?_
  refine CS.cond rfl (fun hc2 => ?_) (fun hc2 => ?_) <;> (try simp only [bq] at hc2)
  ·
   have hq4 : 0 ≤ q.1 ∧ q.1 < r.aus.l.length := by omega
   have hau := ha _ (nth_mem hq4.1 hq4.2)
   have hwh : SlT cLit w (nth r.aus.l q.1).wh := hr.aus.at hq4.1 hq4.2
   refine CS.skip ?_
   refine QS.then_code ?_
   refine CS.seq ?_
   refine CS.block ?_
   refine N3 ?_
   refine WS.det rfl rfl rfl ((by first | exact det_fieldAddr rfl fo31_5 | exact det_fieldAddrS rfl fo31_5)) rfl ?_
   refine WS.det rfl rfl rfl (det_loadb (j := 5) rfl rfl rfl tk27) rfl ?_
   refine WS.det rfl rfl rfl (det_move rfl) rfl ?_
   refine WS.det rfl rfl rfl (det_idxU sl27 rfl rfl (by assumption) rfl (by omega) (by omega)) rfl ?_
   refine WS.det rfl rfl rfl ((by first | exact det_ldU rfl (by assumption) rfl ⟨(by omega), (by omega)⟩ rfl tk81)) rfl ?_
   refine WS.alloc zv81 (fun _ => rfl) ?_; intro b10 hb10
   first | refine WS.storeW (j := 0) rfl rfl rfl rfl (by first | (simp [Value.oneCell']; done) | ((repeat (refine List.forall_mem_cons.2 ⟨by first | rfl | assumption, ?_⟩)); exact fun _ h => absurd h List.not_mem_nil) | exact Cel.one _ w _ (by first | assumption | exact trivial)) tk81 rfl rfl ?_
   refine N4 ?_
   refine CS.seq ?_
   refine CS.draw mixed (by kernel_rfl) (by kernel_rfl) ?_
   refine DS.det rfl rfl (det_loadb0 (j := 4) rfl rfl tk37) rfl ?_
   refine DS.det rfl rfl ((by first | exact det_fieldAddr rfl fo81_0 | exact det_fieldAddrS rfl fo81_0)) rfl ?_
   refine DS.det rfl rfl (det_loadb (j := 0) rfl rfl rfl tk29) rfl ?_
   refine DS.det rfl rfl (det_callB rfl rfl ent75 (fun u hu => Holding_c ⟨⟨va, s.2⟩, ⟨vb, z.prs.l⟩, ⟨vc, z.pls.l⟩⟩ u ⟨(oints_SlI hu (j := 1) rfl).tree, (oints_SlI hu (j := 2) rfl).tree, (oints_SlI hu (j := 3) rfl).tree⟩ (nth r.aus.l q.1).wh (hwh.st hu) (by rw [← hsl] at hau; exact hau.2))) rfl ?_
   refine DS.det rfl rfl (det_move rfl) rfl ?_
   refine DS.guardT rfl rfl rfl (fun hg => (by first | exact det_fieldAddr rfl fo37_0 | exact det_fieldAddrS rfl fo37_0)) rfl ?_
   refine DS.guardT rfl rfl rfl (fun hg => det_loadb (j := 4) (ev_cond hg rfl) rfl rfl tk35) rfl ?_
   refine DS.guardT rfl rfl rfl (fun hg => (by first | exact det_fieldAddr rfl fo81_1 | exact det_fieldAddrS rfl fo81_1)) rfl ?_
   refine DS.guardT rfl rfl rfl (fun hg => (by first | exact det_fieldAddr (ev_cond hg rfl) fo79_0 | exact det_fieldAddrS (ev_cond hg rfl) fo79_0)) rfl ?_
   refine DS.guardT rfl rfl rfl (fun hg => det_loadb (j := 0) (ev_cond hg rfl) rfl rfl tk3) rfl ?_
   refine DS.guardT rfl rfl rfl (fun hg => det_idxOI (j := 1) sl35 (ev_cond hg rfl) (ev_cond hg rfl) rfl (by (try simp only [bq] at hg); omega) (by (try simp only [bq] at hg); omega)) rfl ?_
   refine DS.guardT rfl rfl rfl (fun hg => det_ldOI (j := 1) (ev_cond hg rfl) rfl (by (try simp only [bq] at hg); omega) tk3) rfl ?_
   refine DS.guardT rfl rfl rfl (fun hg => (by first | exact det_fieldAddr rfl fo81_1 | exact det_fieldAddrS rfl fo81_1)) rfl ?_
   refine DS.guardT rfl rfl rfl (fun hg => (by first | exact det_fieldAddr (ev_cond hg rfl) fo79_1 | exact det_fieldAddrS (ev_cond hg rfl) fo79_1)) rfl ?_
   refine DS.guardT rfl rfl rfl (fun hg => det_loadb (j := 0) (ev_cond hg rfl) rfl rfl tk3) rfl ?_
   refine DS.guardT rfl rfl rfl (fun hg => det_ne (ev_cond hg rfl) (ev_cond hg rfl)) rfl ?_
   refine DS.det rfl rfl (det_pick_and rfl rfl rfl) rfl ?_
   refine DS.done ?_
   refine QS.then_code ?_
   refine CS.cond rfl (fun hc3 => ?_) (fun hc3 => ?_) <;> (try simp only [bq] at hc3)
   ·
    refine CS.region ?_
    refine WS.det rfl rfl rfl (det_move rfl) rfl ?_
    refine WS.det rfl rfl rfl (det_assign rfl) rfl ?_
    refine WS.done ?_
    refine QS.block_normal ?_
    refine QS.then_code ?_
    refine CS.region ?_
    refine WS.det rfl rfl rfl (det_move rfl) rfl ?_
    refine WS.det rfl rfl rfl (det_add rfl rfl (by omega)) rfl ?_
    refine WS.det rfl rfl rfl (det_assign rfl) rfl ?_
    refine WS.done ?_
    refine QS.sel [1, 1, 1, 1, 1, 1] rfl ?_
    exact QS.head ((q.1 + 1, q.1)) rfl rfl ⟨⟨by simp; omega, by simp; omega, .inr ⟨hq4.1, by simp; omega, by simpa using hc3, fun j h0 h1 => by
         rcases hq3 with ⟨h, hb⟩ | ⟨h, _⟩
         ·
          exact hb j h0 h1
         ·
          omega⟩⟩, by simp; omega⟩
   ·
    refine CS.skip ?_
    refine QS.block_normal ?_
    refine QS.then_code ?_
    refine CS.region ?_
    refine WS.det rfl rfl rfl (det_move rfl) rfl ?_
    refine WS.det rfl rfl rfl (det_add rfl rfl (by omega)) rfl ?_
    refine WS.det rfl rfl rfl (det_assign rfl) rfl ?_
    refine WS.done ?_
    refine QS.sel [1, 1, 1, 1, 1, 1] rfl ?_
    exact QS.head ((q.1 + 1, q.2)) rfl rfl ⟨⟨by simp; omega, by simp; omega, .inl (by
         rcases hq3 with ⟨h, hb⟩ | ⟨h, _⟩
         ·
          refine ⟨h, fun j h0 h1 => ?_⟩
          simp only at h1
          rcases (show j < q.1 ∨ j = q.1 by omega) with hj | hj
          ·
           exact hb j h0 hj
          ·
           rw [hj]; show (holdB s.2 (nth r.aus.l q.1).wh.l && !decide (nth s.2 (nth r.aus.l q.1).t = (nth r.aus.l q.1).s)) = false; rcases hc3 with h | h <;> simp [h]
         ·
          omega)⟩, by simp; omega⟩
  ·
   have hqa : q.2 = autoI r.aus.l s.2 := by
      unfold autoI
      rcases hq3 with ⟨h, hb⟩ | ⟨h0, h1, h2, hb⟩
      ·
       rw [idxF_none (p := (fun a : Auto => holdB s.2 a.wh.l && !decide (nth s.2 a.t = a.s))) fun j a b => hb j a (by omega)]; exact h
      ·
       exact (idxF_found (p := (fun a : Auto => holdB s.2 a.wh.l && !decide (nth s.2 a.t = a.s))) h0 (by omega) hb h2).symm
   refine CS.leave ?_
   iterate 2 refine QS.then_exit ?_
   refine QS.block_exit ?_
   refine QS.then_code ?_
   refine CS.seq ?_
   refine N3 ?_
   refine WS.det rfl rfl rfl (det_move rfl) rfl ?_
   refine WS.det rfl rfl rfl (det_lt rfl rfl) rfl ?_
   refine N4 ?_
   refine CS.cond rfl (fun hc4 => ?_) (fun hc4 => ?_) <;> (try simp only [bq] at hc4)
   ·
    refine N3 ?_
    refine WS.det rfl rfl rfl (det_loadb0 (j := 3) rfl rfl tk37) rfl ?_
    first | refine WS.storeW (j := 4) rfl rfl rfl rfl (by first | (simp [Value.oneCell']; done) | ((repeat (refine List.forall_mem_cons.2 ⟨by first | rfl | assumption, ?_⟩)); exact fun _ h => absurd h List.not_mem_nil) | exact Cel.one _ w _ (by first | assumption | exact trivial)) tk37 rfl rfl ?_
    refine WS.det rfl rfl rfl (det_assign rfl) rfl ?_
    refine N4 ?_
    refine CS.ret ?_
    refine QS.then_ret ?_
    refine QS.block_ret ?_
    iterate 2 refine QS.then_ret ?_
    refine QS.block_ret ?_
    refine QS.then_ret ?_
    exact outR (resct rfl (cell_rvN (j := 4) rfl rfl tk37) rfl) (by
      have hv : settleV r z.x = some (s.2, z.prs.l, z.pls.l) := by
       simp only [settleV, Stt.x]
       rw [hs4, show (101 - s.1).toNat = (100 - s.1).toNat + 1 by omega, settleN, if_pos (show autoI r.aus.l s.2 < 0 by omega)]
       rfl
      rw [hv]
      exact fun u hu => retS (f := fun v => .tuple #[v, .bool true]) (is := [0, 0, 0]) rfl hu)
   ·
    have hau2 := autoI_lt (aus := r.aus.l) (ths := s.2) (by omega)
    rw [← hqa] at hau2
    have hat := (ha _ (nth_mem hau2.1 hau2.2)).1
    refine CS.skip ?_
    refine QS.then_code ?_
    refine CS.drawnTill 17 (k := 18) mixed rfl rfl ?_
    refine AT.take 0 rfl (by kernel_rfl) (na := 18) (by kernel_rfl) rfl (by kernel_rfl) (by kernel_rfl) (by kernel_rfl) rfl rfl ((by first | exact det_fieldAddr rfl fo37_0 | exact det_fieldAddrS rfl fo37_0)) rfl rfl ?_
    refine AT.take 1 rfl (by kernel_rfl) (na := 18) (by kernel_rfl) rfl (by kernel_rfl) (by kernel_rfl) (by kernel_rfl) rfl rfl (det_loadb (j := 3) rfl rfl rfl tk35) rfl rfl ?_
    refine AT.take 2 rfl (by kernel_rfl) (na := 18) (by kernel_rfl) rfl (by kernel_rfl) (by kernel_rfl) (by kernel_rfl) rfl rfl ((by first | exact det_fieldAddr rfl fo31_5 | exact det_fieldAddrS rfl fo31_5)) rfl rfl ?_
    refine AT.take 3 rfl (by kernel_rfl) (na := 18) (by kernel_rfl) rfl (by kernel_rfl) (by kernel_rfl) (by kernel_rfl) rfl rfl (det_loadb (j := 5) rfl rfl rfl tk27) rfl rfl ?_
    refine AT.take 4 rfl (by kernel_rfl) (na := 18) (by kernel_rfl) rfl (by kernel_rfl) (by kernel_rfl) (by kernel_rfl) rfl rfl (det_move rfl) rfl rfl ?_
    refine AT.take 5 rfl (by kernel_rfl) (na := 18) (by kernel_rfl) rfl (by kernel_rfl) (by kernel_rfl) (by kernel_rfl) rfl rfl (det_idxU sl27 rfl rfl (by assumption) rfl (by omega) (by omega)) rfl rfl ?_
    refine AT.take 6 rfl (by kernel_rfl) (na := 18) (by kernel_rfl) rfl (by kernel_rfl) (by kernel_rfl) (by kernel_rfl) rfl rfl ((by first | exact det_fieldAddr rfl fo81_1 | exact det_fieldAddrS rfl fo81_1)) rfl rfl ?_
    refine AT.take 7 rfl (by kernel_rfl) (na := 18) (by kernel_rfl) rfl (by kernel_rfl) (by kernel_rfl) (by kernel_rfl) rfl rfl ((by first | exact det_fieldAddr rfl fo79_0 | exact det_fieldAddrS rfl fo79_0)) rfl rfl ?_
    refine AT.take 8 rfl (by kernel_rfl) (na := 18) (by kernel_rfl) rfl (by kernel_rfl) (by kernel_rfl) (by kernel_rfl) rfl rfl ((by first | exact det_ldUc 3 1 rfl (by assumption) rfl ⟨(by omega), (by omega)⟩ (by decide) rfl tk3)) rfl rfl ?_
    refine AT.take 9 rfl (by kernel_rfl) (na := 18) (by kernel_rfl) rfl (by kernel_rfl) (by kernel_rfl) (by kernel_rfl) rfl rfl ((by first | exact det_fieldAddr rfl fo31_5 | exact det_fieldAddrS rfl fo31_5)) rfl rfl ?_
    refine AT.take 10 rfl (by kernel_rfl) (na := 18) (by kernel_rfl) rfl (by kernel_rfl) (by kernel_rfl) (by kernel_rfl) rfl rfl (det_loadb (j := 5) rfl rfl rfl tk27) rfl rfl ?_
    refine AT.take 11 rfl (by kernel_rfl) (na := 18) (by kernel_rfl) rfl (by kernel_rfl) (by kernel_rfl) (by kernel_rfl) rfl rfl (det_move rfl) rfl rfl ?_
    refine AT.take 12 rfl (by kernel_rfl) (na := 18) (by kernel_rfl) rfl (by kernel_rfl) (by kernel_rfl) (by kernel_rfl) rfl rfl (det_idxU sl27 rfl rfl (by assumption) rfl (by omega) (by omega)) rfl rfl ?_
    refine AT.take 13 rfl (by kernel_rfl) (na := 18) (by kernel_rfl) rfl (by kernel_rfl) (by kernel_rfl) (by kernel_rfl) rfl rfl ((by first | exact det_fieldAddr rfl fo81_1 | exact det_fieldAddrS rfl fo81_1)) rfl rfl ?_
    refine AT.take 14 rfl (by kernel_rfl) (na := 18) (by kernel_rfl) rfl (by kernel_rfl) (by kernel_rfl) (by kernel_rfl) rfl rfl ((by first | exact det_fieldAddr rfl fo79_1 | exact det_fieldAddrS rfl fo79_1)) rfl rfl ?_
    refine AT.take 15 rfl (by kernel_rfl) (na := 18) (by kernel_rfl) rfl (by kernel_rfl) (by kernel_rfl) (by kernel_rfl) rfl rfl ((by first | exact det_ldUc 3 2 rfl (by assumption) rfl ⟨(by omega), (by omega)⟩ (by decide) rfl tk3)) rfl rfl ?_
    refine AT.take 16 rfl (by kernel_rfl) (na := 18) (by kernel_rfl) rfl (by kernel_rfl) (by kernel_rfl) (by kernel_rfl) rfl rfl (det_idxOI (j := 0) sl35 rfl rfl rfl (by omega) (by omega)) rfl rfl ?_
    refine AT.one (i := 17) (by kernel_rfl) rfl (by first | (intro h; exact absurd h (by decide)) | exact fun _ _ h => h | exact fun _ _ h => h.sub (by repeat first | exact List.Sublist.refl _ | apply List.Sublist.cons_cons | apply List.Sublist.cons)) rfl ?_
    refine WS.storeOI (j := 0) rfl rfl (by omega) rfl tk3 rfl ?_
    refine WS.done ?_
    refine QS.then_AT ?_
    refine AT.done (by kernel_rfl) (by first | (intro h; exact absurd h (by decide)) | exact fun _ _ h => h | exact fun _ _ h => h.sub (by repeat first | exact List.Sublist.refl _ | apply List.Sublist.cons_cons | apply List.Sublist.cons)) ?_
    refine QS.block_normal ?_
    refine QS.then_code ?_
    refine CS.region ?_
    refine WS.det rfl rfl rfl (det_move rfl) rfl ?_
    refine WS.det rfl rfl rfl (det_add rfl rfl (by omega)) rfl ?_
    refine WS.det rfl rfl rfl (det_assign rfl) rfl ?_
    refine WS.done ?_
    exact QS.head ((s.1 + 1, s.2.set (nth r.aus.l q.2).t.toNat (nth r.aus.l q.2).s)) rfl rfl ⟨⟨by simp; omega, by simp; omega, by simp [hsl], by
        rw [hs4, show (101 - s.1).toNat = (101 - (s.1 + 1)).toNat + 1 by omega, settleN, if_neg (by omega), ← hqa]⟩, by simp; omega⟩
 ·
  refine CS.leave ?_
  iterate 2 refine QS.then_exit ?_
  refine QS.block_exit ?_
  refine QS.then_code ?_
  refine N3 ?_
  refine WS.det rfl rfl rfl ((det_build1 plc37 zv37 rfl rfl (by first | (simp [Value.oneCell']; done) | ((repeat (refine List.forall_mem_cons.2 ⟨by first | rfl | assumption, ?_⟩)); exact fun _ h => absurd h List.not_mem_nil)))) rfl ?_
  first | refine WS.storeW (j := 4) rfl rfl rfl rfl (by first | (simp [Value.oneCell']; done) | ((repeat (refine List.forall_mem_cons.2 ⟨by first | rfl | assumption, ?_⟩)); exact fun _ h => absurd h List.not_mem_nil) | exact Cel.one _ w _ (by first | assumption | exact trivial)) tk37 rfl rfl ?_
  refine WS.det rfl rfl rfl (det_assign rfl) rfl ?_
  refine N4 ?_
  refine CS.ret ?_
  exact outR (resct rfl (cell_rvN (j := 4) rfl rfl tk37) rfl) (by
    have hv : settleV r z.x = none := by
     simp only [settleV, Stt.x]
     rw [hs4, show (101 - s.1).toNat = 0 by omega]
     rfl
    rw [hv]
    exact fun u hu => retNo (f := fun v => .tuple #[v, .bool false]) hu)
end Go.Proofs.YtgbofmnbakfalaaDoor
namespace Go.Proofs.YtgbofmnbakfalaaDoor
open Go.RowKit Go.Proofs
set_option maxRecDepth 100000
set_option linter.unusedVariables false
set_option linter.unusedSimpArgs false
set_option maxHeartbeats 1000000 in
theorem RSettle_c (r : Room) (w : World) (hr : RoomOk w r) (hn : Near r) (z : Stt) (hz : SttOk w z) :
  Calls Tryd.prog 29 #[.agg #[r.pls.v, r.ths.v, r.prs.v, r.wys.v, r.acs.v, r.aus.v, .int .i64 r.ply, r.gl.v], .agg #[z.ths.v, z.prs.v, z.pls.v]] w (RetS w (SettleV r z.x).2 fun v => .tuple #[v, .int .i64 (SettleV r z.x).1]) := by
 refine enter Tryd.func29 rfl rfl (Nat.le_of_ble_eq_true rfl) ?_
 refine N3 ?_
 refine WS.box rfl rfl (fun _ => rfl) ?_; intro b2 hb2
 refine WS.box rfl rfl (fun _ => rfl) ?_; intro b3 hb3
 refine WS.alloc zv37 (fun _ => rfl) ?_; intro b4 hb4
 refine WS.det rfl rfl rfl (det_assign rfl) rfl ?_
 refine N1 ?_
 refine WS.det rfl rfl rfl (det_loadb0 (j := 2) rfl rfl tk31) rfl ?_
 refine WS.det rfl rfl rfl (det_loadb0 (j := 1) rfl rfl tk37) rfl ?_
 refine WS.det rfl rfl rfl (det_callB rfl rfl ent30 (fun u hu => RCheckState_c r u (hr.st hu) hn z (hz.st hu))) rfl ?_
 refine WS.det rfl rfl rfl (det_assign rfl) rfl ?_
 refine N4 ?_
 refine CS.seq ?_
 refine N3 ?_
 refine WS.det rfl rfl rfl (det_move rfl) rfl ?_
 refine WS.det rfl rfl rfl (det_ne rfl rfl) rfl ?_
 refine N4 ?_
 refine CS.cond rfl (fun hc1 => ?_) (fun hc1 => ?_) <;> (try simp only [bq] at hc1)
 ·
  have hS : ¬ stL r z.x = 0 := hc1
  refine N3 ?_
  refine WS.det rfl rfl rfl ((det_build1 plc37 zv37 rfl rfl (by first | (simp [Value.oneCell']; done) | ((repeat (refine List.forall_mem_cons.2 ⟨by first | rfl | assumption, ?_⟩)); exact fun _ h => absurd h List.not_mem_nil)))) rfl ?_
  refine WS.det rfl rfl rfl (det_move rfl) rfl ?_
  first | refine WS.storeW (j := 0) rfl rfl rfl rfl (by first | (simp [Value.oneCell']; done) | ((repeat (refine List.forall_mem_cons.2 ⟨by first | rfl | assumption, ?_⟩)); exact fun _ h => absurd h List.not_mem_nil) | exact Cel.one _ w _ (by first | assumption | exact trivial)) tk37 rfl rfl ?_
  refine WS.det rfl rfl rfl (det_assign rfl) rfl ?_
  refine N4 ?_
  refine CS.ret ?_
  refine QS.then_ret ?_
  exact outR (resct rfl (cell_rvN (j := 0) rfl rfl tk37) rfl) (by
    have hv : SettleV r z.x = (stL r z.x, no3) := if_neg hS
    rw [hv]
    exact fun u hu => retNo (f := fun v => .tuple #[v, .int .i64 (stL r z.x)]) hu)
 ·
  have hc1 : stateE r z = 0 := hc1
  have hc1 : stL r z.x = 0 := hc1
  have hS : stL r z.x = 0 := by omega
  obtain ⟨hC, hI⟩ := stL_in.1 hS
  have hR := ready_of hC
  have hlen := hR.lens
  have hply := hR.ply
  have hlt : z.ths.l.length = r.ths.l.length := hI.lt
  have hlp : z.prs.l.length = r.prs.l.length := hI.lp
  have hll : (z.pls.l.length : Int) = r.ply := hI.ll
  refine CS.skip ?_
  refine QS.then_code ?_
  refine N3 ?_
  refine WS.det rfl rfl rfl (det_loadb0 (j := 2) rfl rfl tk31) rfl ?_
  refine WS.det rfl rfl rfl (det_loadb0 (j := 1) rfl rfl tk37) rfl ?_
  refine WS.callF rfl rfl ent73 (fun u hu => Rsettle_c r u (hr.st hu) z (hz.st hu) (hI.small hR) (hI.autos hR)) (fun _ => rfl) ?_; rintro y ⟨hyx, uy, hyok⟩
  obtain ⟨hya, hyb, hyc⟩ := hyok.ones
  refine WS.det rfl rfl rfl (det_move rfl) rfl ?_
  refine WS.det rfl rfl rfl (det_extract rfl rfl) rfl ?_
  refine WS.det rfl rfl rfl (det_extract rfl rfl) rfl ?_
  refine WS.alloc zv37 (fun _ => rfl) ?_; intro b7 hb7
  first | refine WS.storeW (j := 0) rfl rfl rfl rfl (by first | (simp [Value.oneCell']; done) | ((repeat (refine List.forall_mem_cons.2 ⟨by first | rfl | assumption, ?_⟩)); exact fun _ h => absurd h List.not_mem_nil) | exact Cel.one _ w _ (by first | assumption | exact trivial)) tk37 rfl rfl ?_
  refine WS.det rfl rfl rfl (det_assign rfl) rfl ?_
  refine N4 ?_
  refine CS.seq ?_
  refine N3 ?_
  refine WS.det rfl rfl rfl (det_move rfl) rfl ?_
  refine WS.det rfl rfl rfl (det_not rfl) rfl ?_
  refine N4 ?_
  refine CS.cond rfl (fun hc2 => ?_) (fun hc2 => ?_) <;> (try simp only [bq] at hc2)
  ·
   refine N3 ?_
   refine WS.det rfl rfl rfl ((det_build1 plc37 zv37 rfl rfl (by first | (simp [Value.oneCell']; done) | ((repeat (refine List.forall_mem_cons.2 ⟨by first | rfl | assumption, ?_⟩)); exact fun _ h => absurd h List.not_mem_nil)))) rfl ?_
   first | refine WS.storeW (j := 2) rfl rfl rfl rfl (by first | (simp [Value.oneCell']; done) | ((repeat (refine List.forall_mem_cons.2 ⟨by first | rfl | assumption, ?_⟩)); exact fun _ h => absurd h List.not_mem_nil) | exact Cel.one _ w _ (by first | assumption | exact trivial)) tk37 rfl rfl ?_
   refine WS.det rfl rfl rfl (det_assign rfl) rfl ?_
   refine N4 ?_
   refine CS.ret ?_
   refine QS.then_ret ?_
   exact outR (resct rfl (cell_rvN (j := 2) rfl rfl tk37) rfl) (by
     have hv : SettleV r z.x = (27, no3) := (if_pos hS).trans (ansS_none hc2)
     rw [hv]
     exact fun u hu => retNo (f := fun v => .tuple #[v, .int .i64 (27)]) hu)
  ·
   refine CS.skip ?_
   refine QS.then_code ?_
   refine N3 ?_
   refine WS.det rfl rfl rfl (det_loadb0 (j := 0) rfl rfl tk37) rfl ?_
   first | refine WS.storeW (j := 2) rfl rfl rfl rfl (by first | (simp [Value.oneCell']; done) | ((repeat (refine List.forall_mem_cons.2 ⟨by first | rfl | assumption, ?_⟩)); exact fun _ h => absurd h List.not_mem_nil) | exact Cel.one _ w _ (by first | assumption | exact trivial)) tk37 rfl rfl ?_
   refine WS.det rfl rfl rfl (det_assign rfl) rfl ?_
   refine N4 ?_
   refine CS.ret ?_
   exact outR (resct rfl (cell_rvN (j := 2) rfl rfl tk37) rfl) (by
     have hv : SettleV r z.x = _ := (if_pos hS).trans (ansS_some hc2)
     rw [hv]
     exact fun u hu => retSr (f := fun v => .tuple #[v, .int .i64 0]) (j := 1) rfl hyx hu)
theorem RHolds_c (r : Room) (w : World) (hr : RoomOk w r) (hn : Near r) (z : Stt) (hz : SttOk w z) (c : Sl Lit) (hk : SlT cLit w c) :
  Calls Tryd.prog 33 #[.agg #[r.pls.v, r.ths.v, r.prs.v, r.wys.v, r.acs.v, r.aus.v, .int .i64 r.ply, r.gl.v], .agg #[z.ths.v, z.prs.v, z.pls.v], c.v] w (RetB w (.tuple #[.bool (HoldsV r z.x c.l).2, .int .i64 (HoldsV r z.x c.l).1])) := by
 refine enter Tryd.func33 rfl rfl (Nat.le_of_ble_eq_true rfl) ?_
 refine N3 ?_
 refine WS.box rfl rfl (fun _ => rfl) ?_; intro b3 hb3
 refine WS.box rfl rfl (fun _ => rfl) ?_; intro b4 hb4
 refine WS.det rfl rfl rfl (det_assign rfl) rfl ?_
 refine WS.det rfl rfl rfl (det_assign rfl) rfl ?_
 refine N1 ?_
 refine WS.det rfl rfl rfl (det_loadb0 (j := 1) rfl rfl tk31) rfl ?_
 refine WS.det rfl rfl rfl (det_loadb0 (j := 0) rfl rfl tk37) rfl ?_
 refine WS.det rfl rfl rfl (det_callB rfl rfl ent30 (fun u hu => RCheckState_c r u (hr.st hu) hn z (hz.st hu))) rfl ?_
 refine WS.det rfl rfl rfl (det_assign rfl) rfl ?_
 refine N4 ?_
 refine CS.seq ?_
 refine N3 ?_
 refine WS.det rfl rfl rfl (det_move rfl) rfl ?_
 refine WS.det rfl rfl rfl (det_ne rfl rfl) rfl ?_
 refine N4 ?_
 refine CS.cond rfl (fun hc1 => ?_) (fun hc1 => ?_) <;> (try simp only [bq] at hc1)
 ·
  have hS : ¬ stL r z.x = 0 := hc1
  refine N3 ?_
  refine WS.det rfl rfl rfl (det_move rfl) rfl ?_
  refine WS.det rfl rfl rfl (det_assign rfl) rfl ?_
  refine WS.det rfl rfl rfl (det_assign rfl) rfl ?_
  refine N4 ?_
  refine CS.ret ?_
  refine QS.then_ret ?_
  exact out2 rfl rfl rfl (retBe (by rw [show HoldsV r z.x c.l = (stL r z.x, false) from if_neg hS]; rfl))
 ·
  have hc1 : stateE r z = 0 := hc1
  have hc1 : stL r z.x = 0 := hc1
  have hS : stL r z.x = 0 := by omega
  obtain ⟨hC, hI⟩ := stL_in.1 hS
  have hR := ready_of hC
  have hlen := hR.lens
  have hply := hR.ply
  have hlt : z.ths.l.length = r.ths.l.length := hI.lt
  have hlp : z.prs.l.length = r.prs.l.length := hI.lp
  have hll : (z.pls.l.length : Int) = r.ply := hI.ll
  refine CS.skip ?_
  refine QS.then_code ?_
  refine CS.seq ?_
  refine N3 ?_
  refine WS.det rfl rfl rfl (det_loadb0 (j := 1) rfl rfl tk31) rfl ?_
  refine WS.det rfl rfl rfl (det_move rfl) rfl ?_
  refine WS.det rfl rfl rfl (det_callB rfl rfl ent62 (fun u hu => Conded_c r u (hr.st hu) _ (hk.st hu))) rfl ?_
  refine WS.det rfl rfl rfl (det_not rfl) rfl ?_
  refine N4 ?_
  refine CS.cond rfl (fun hc2 => ?_) (fun hc2 => ?_) <;> (try simp only [bq] at hc2)
  ·
   refine N3 ?_
   refine WS.det rfl rfl rfl (det_assign rfl) rfl ?_
   refine WS.det rfl rfl rfl (det_assign rfl) rfl ?_
   refine N4 ?_
   refine CS.ret ?_
   refine QS.then_ret ?_
   exact out2 rfl rfl rfl (retBe (by rw [show HoldsV r z.x c.l = (25, false) from (if_pos hS).trans (if_neg (by rw [hc2]; decide))]))
  ·
   refine CS.skip ?_
   refine QS.then_code ?_
   refine N3 ?_
   refine WS.det rfl rfl rfl (det_loadb0 (j := 0) rfl rfl tk37) rfl ?_
   refine WS.det rfl rfl rfl (det_move rfl) rfl ?_
   refine WS.det rfl rfl rfl (det_callB rfl rfl ent75 (fun u hu => Holding_c z u (hz.st hu) _ (hk.st hu) (by rw [hlt]; exact condB_t hc2))) rfl ?_
   refine WS.det rfl rfl rfl (det_assign rfl) rfl ?_
   refine WS.det rfl rfl rfl (det_assign rfl) rfl ?_
   refine N4 ?_
   refine CS.ret ?_
   exact out2 rfl rfl rfl (retBe (by rw [show HoldsV r z.x c.l = (0, holdB z.ths.l c.l) from (if_pos hS).trans (if_pos hc2)]))
theorem RDone_c (r : Room) (w : World) (hr : RoomOk w r) (hn : Near r) (z : Stt) (hz : SttOk w z) :
  Calls Tryd.prog 35 #[.agg #[r.pls.v, r.ths.v, r.prs.v, r.wys.v, r.acs.v, r.aus.v, .int .i64 r.ply, r.gl.v], .agg #[z.ths.v, z.prs.v, z.pls.v]] w (RetB w (.tuple #[.bool (HoldsV r z.x r.gl.l).2, .int .i64 (HoldsV r z.x r.gl.l).1])) := by
 refine enter Tryd.func35 rfl rfl (Nat.le_of_ble_eq_true rfl) ?_
 refine N3 ?_
 refine WS.box rfl rfl (fun _ => rfl) ?_; intro b2 hb2
 refine WS.box rfl rfl (fun _ => rfl) ?_; intro b3 hb3
 refine WS.det rfl rfl rfl (det_assign rfl) rfl ?_
 refine WS.det rfl rfl rfl (det_assign rfl) rfl ?_
 refine N1 ?_
 refine WS.det rfl rfl rfl (det_loadb0 (j := 1) rfl rfl tk31) rfl ?_
 refine WS.det rfl rfl rfl (det_loadb0 (j := 0) rfl rfl tk37) rfl ?_
 refine WS.det rfl rfl rfl ((by first | exact det_fieldAddr rfl fo31_7 | exact det_fieldAddrS rfl fo31_7)) rfl ?_
 refine WS.det rfl rfl rfl (det_loadb (j := 1) rfl rfl rfl tk29) rfl ?_
 refine WS.det rfl rfl rfl (det_callB rfl rfl ent33 (fun u hu => RHolds_c r u (hr.st hu) hn z (hz.st hu) r.gl (hr.gl.st hu))) rfl ?_
 refine WS.det rfl rfl rfl (det_extract rfl rfl) rfl ?_
 refine WS.det rfl rfl rfl (det_extract rfl rfl) rfl ?_
 refine WS.det rfl rfl rfl (det_assign rfl) rfl ?_
 refine WS.det rfl rfl rfl (det_assign rfl) rfl ?_
 refine N4 ?_
 refine CS.ret ?_
 exact out2 rfl rfl rfl retB
end Go.Proofs.YtgbofmnbakfalaaDoor
namespace Go.Proofs.YtgbofmnbakfalaaDoor
open Go.RowKit Go.Proofs
set_option maxRecDepth 100000
set_option linter.unusedVariables false
set_option linter.unusedSimpArgs false
theorem Rhand_c (z : Stt) (w : World) (hz : SttOk w z) (p : Int) (h0 : 0 ≤ p) (h1 : p ≤ 3) (hl : z.prs.l.length ≤ 1000000) :
  Calls Tryd.prog 102 #[.agg #[z.ths.v, z.prs.v, z.pls.v], .int .i64 p] w (RetB w (.int .i64 (cnt z.prs.l (-2 - p)))) := by
 have zth := hz.ths.ints
 have zpr := hz.prs.ints
 have zpl := hz.pls.ints
 refine enter Tryd.func102 rfl rfl (Nat.le_of_ble_eq_true rfl) ?_
 refine N3 ?_
 refine WS.box rfl rfl (fun _ => rfl) ?_; intro b2 hb2
 refine WS.det rfl rfl rfl (det_assign rfl) rfl ?_
 refine N1 ?_
 refine WS.det rfl rfl rfl (det_assign rfl) rfl ?_
 refine N4 ?_
 refine CS.seq ?_
 refine N3 ?_
 refine WS.det rfl rfl rfl (det_assign rfl) rfl ?_
 refine N4 ?_
 refine CS.block ?_
 refine CS.loopM (σ := Int × Int) [7, 8, 9, 10, 11, 12, 13, 14, 15, 16, 17, 18, 19, 20, 21, 22, 23] (fun s => [(6, .int .i64 s.1), (5, .int .i64 s.2)]) (fun _ => _) (fun s => 0 ≤ s.1 ∧ s.1 ≤ z.prs.l.length ∧ s.2 = cnt (z.prs.l.take s.1.toNat) (-2 - p)) (fun s => (z.prs.l.length - s.1).toNat) (0, 0) (fun _ _ => rfl) rfl rfl ⟨by simp, by simp, rfl⟩ ?_
 intro s t hs
 obtain ⟨hs1, hs2, hs3⟩ := hs
 have hcl := cnt_le (z.prs.l.take s.1.toNat) (-2 - p)
 have htl := List.length_take_le s.1.toNat z.prs.l
 refine CS.seq ?_
 refine N3 ?_
 refine WS.det rfl rfl rfl (det_move rfl) rfl ?_
 refine WS.det rfl rfl rfl ((by first | exact det_fieldAddr rfl fo37_1 | exact det_fieldAddrS rfl fo37_1)) rfl ?_
 refine WS.det rfl rfl rfl (det_loadb (j := 0) rfl rfl rfl tk35) rfl ?_
 refine WS.det rfl rfl rfl (det_lenS sl35 rfl (by assumption)) rfl ?_
 refine WS.det rfl rfl rfl (det_lt rfl rfl) rfl ?_
 refine N4 ?_
 refine CS.cond rfl (fun hc1 => ?_) (fun hc1 => ?_) <;> (try simp only [bq] at hc1)
 ·
  refine CS.skip ?_
  refine QS.then_code ?_
  refine CS.seq ?_
  refine CS.block ?_
  refine N3 ?_
  refine WS.det rfl rfl rfl ((by first | exact det_fieldAddr rfl fo37_1 | exact det_fieldAddrS rfl fo37_1)) rfl ?_
  refine WS.det rfl rfl rfl (det_loadb (j := 0) rfl rfl rfl tk35) rfl ?_
  refine WS.det rfl rfl rfl (det_move rfl) rfl ?_
  refine WS.det rfl rfl rfl (det_idxI sl35 rfl rfl (by assumption) (by omega) (by omega)) rfl ?_
  refine WS.det rfl rfl rfl (det_ldI rfl (by assumption) (by omega) tk3) rfl ?_
  refine WS.det rfl rfl rfl (det_move rfl) rfl ?_
  refine WS.det rfl rfl rfl (det_sub rfl rfl (by omega)) rfl ?_
  refine WS.det rfl rfl rfl (det_eq rfl rfl) rfl ?_
  refine N4 ?_
  refine CS.cond rfl (fun hc2 => ?_) (fun hc2 => ?_) <;> (try simp only [bq] at hc2)
  ·
   refine CS.region ?_
   refine WS.det rfl rfl rfl (det_move rfl) rfl ?_
   refine WS.det rfl rfl rfl (det_add rfl rfl (by omega)) rfl ?_
   refine WS.det rfl rfl rfl (det_assign rfl) rfl ?_
   refine WS.done ?_
   refine QS.block_normal ?_
   refine QS.then_code ?_
   refine CS.region ?_
   refine WS.det rfl rfl rfl (det_move rfl) rfl ?_
   refine WS.det rfl rfl rfl (det_add rfl rfl (by omega)) rfl ?_
   refine WS.det rfl rfl rfl (det_assign rfl) rfl ?_
   refine WS.done ?_
   exact QS.head ((s.1 + 1, s.2 + 1)) rfl rfl ⟨⟨by simp; omega, by simp; omega, by simp only; rw [cnt_takeS hs1 (by omega), if_pos hc2, hs3]⟩, by simp; omega⟩
  ·
   refine CS.skip ?_
   refine QS.block_normal ?_
   refine QS.then_code ?_
   refine CS.region ?_
   refine WS.det rfl rfl rfl (det_move rfl) rfl ?_
   refine WS.det rfl rfl rfl (det_add rfl rfl (by omega)) rfl ?_
   refine WS.det rfl rfl rfl (det_assign rfl) rfl ?_
   refine WS.done ?_
   exact QS.head ((s.1 + 1, s.2)) rfl rfl ⟨⟨by simp; omega, by simp; omega, by simp only; rw [cnt_takeS hs1 (by omega), if_neg hc2, hs3, Int.add_zero]⟩, by simp; omega⟩
 ·
  refine CS.leave ?_
  iterate 2 refine QS.then_exit ?_
  refine QS.block_exit ?_
  refine QS.then_code ?_
  refine N3 ?_
  refine WS.det rfl rfl rfl (det_move rfl) rfl ?_
  refine WS.det rfl rfl rfl (det_assign rfl) rfl ?_
  refine N4 ?_
  refine CS.ret ?_
  exact out1 rfl rfl (retBe (by rw [hs3, List.take_of_length_le (by omega)]))
set_option maxHeartbeats 4000000 in
theorem Rlegal_c (r : Room) (w : World) (hr : RoomOk w r) (z : Stt) (hz : SttOk w z) (hR : Ready r) (hI : StIn r z.x) (m : Move) :
  Calls Tryd.prog 71 #[.agg #[r.pls.v, r.ths.v, r.prs.v, r.wys.v, r.acs.v, r.aus.v, .int .i64 r.ply, r.gl.v], .agg #[z.ths.v, z.prs.v, z.pls.v], .agg #[.int .i64 m.p, .int .i64 m.k, .int .i64 m.n]] w (RetB w (.bool (legalB r z.x m))) := by
 have kpl := hr.pls
 have lpl := hr.pls.le
 have kth := hr.ths
 have lth := hr.ths.le
 have kpr := hr.prs
 have lpr := hr.prs.le
 have kwy := hr.wys
 have lwy := hr.wys.le
 have kac := hr.acs
 have lac := hr.acs.le
 have kau := hr.aus
 have lau := hr.aus.le
 have kgl := hr.gl
 have lgl := hr.gl.le
 have zth := hz.ths.ints
 have zpr := hz.prs.ints
 have zpl := hz.pls.ints
 have hlen := hR.lens
 have hply := hR.ply
 have hlt : z.ths.l.length = r.ths.l.length := hI.lt
 have hlp : z.prs.l.length = r.prs.l.length := hI.lp
 have hll : (z.pls.l.length : Int) = r.ply := hI.ll
 refine enter Tryd.func71 rfl rfl (Nat.le_of_ble_eq_true rfl) ?_
 refine N3 ?_
 refine WS.box rfl rfl (fun _ => rfl) ?_; intro b3 hb3
 refine WS.box rfl rfl (fun _ => rfl) ?_; intro b4 hb4
 refine WS.box rfl rfl (fun _ => rfl) ?_; intro b5 hb5
 refine WS.det rfl rfl rfl (det_assign rfl) rfl ?_
 refine N4 ?_
 refine CS.seq ?_
 refine N3 ?_
 refine WS.det rfl rfl rfl ((by first | exact det_fieldAddr rfl fo52_0 | exact det_fieldAddrS rfl fo52_0)) rfl ?_
 refine WS.det rfl rfl rfl (det_loadb (j := 0) rfl rfl rfl tk3) rfl ?_
 refine WS.det rfl rfl rfl ((by first | exact det_fieldAddr rfl fo31_6 | exact det_fieldAddrS rfl fo31_6)) rfl ?_
 refine WS.det rfl rfl rfl (det_loadb (j := 2) rfl rfl rfl tk3) rfl ?_
 refine WS.det rfl rfl rfl (det_sub rfl rfl (by omega)) rfl ?_
 refine WS.det rfl rfl rfl (det_callB rfl rfl ent61 (fun u hu => from_c _ _ _ u)) rfl ?_
 refine WS.det rfl rfl rfl (det_not rfl) rfl ?_
 refine N4 ?_
 refine CS.cond rfl (fun hc1 => ?_) (fun hc1 => ?_) <;> (try simp only [bq] at hc1)
 ·
  refine N3 ?_
  refine WS.det rfl rfl rfl (det_assign rfl) rfl ?_
  refine N4 ?_
  refine CS.ret ?_
  refine QS.then_ret ?_
  exact out1 rfl rfl (retBe (by unfold legalB; rw [if_neg (by simp only [Bool.and_eq_true, decide_eq_true_eq]; omega)]))
 ·
  have hp : (decide (0 ≤ m.p) && decide (m.p ≤ r.ply - 1)) = true := by simp only [Bool.and_eq_true, decide_eq_true_eq]; exact hc1
  have hat := hI.at (i := m.p) (by omega) (show m.p < z.pls.l.length by omega)
  refine CS.skip ?_
  refine QS.then_code ?_
  refine CS.seq ?_
  refine CS.draw mixed (by kernel_rfl) (by kernel_rfl) ?_
  refine DS.det rfl rfl ((by first | exact det_fieldAddr rfl fo37_2 | exact det_fieldAddrS rfl fo37_2)) rfl ?_
  refine DS.det rfl rfl (det_loadb (j := 1) rfl rfl rfl tk35) rfl ?_
  refine DS.det rfl rfl ((by first | exact det_fieldAddr rfl fo52_0 | exact det_fieldAddrS rfl fo52_0)) rfl ?_
  refine DS.det rfl rfl (det_loadb (j := 0) rfl rfl rfl tk3) rfl ?_
  refine DS.det rfl rfl (det_idxI sl35 rfl rfl (by assumption) (by omega) (by omega)) rfl ?_
  refine DS.det rfl rfl (det_ldI rfl (by assumption) (by omega) tk3) rfl ?_
  refine DS.det rfl rfl ((by first | exact det_fieldAddr rfl fo52_0 | exact det_fieldAddrS rfl fo52_0)) rfl ?_
  refine DS.det rfl rfl (det_loadb (j := 0) rfl rfl rfl tk3) rfl ?_
  refine DS.det rfl rfl (det_sub rfl rfl (by omega)) rfl ?_
  refine DS.det rfl rfl (det_assign rfl) rfl ?_
  refine DS.det rfl rfl (det_assign rfl) rfl ?_
  refine DS.done ?_
  refine QS.then_code ?_
  refine CS.seq ?_
  refine N3 ?_
  refine WS.det rfl rfl rfl ((by first | exact det_fieldAddr rfl fo52_1 | exact det_fieldAddrS rfl fo52_1)) rfl ?_
  refine WS.det rfl rfl rfl (det_loadb (j := 0) rfl rfl rfl tk3) rfl ?_
  refine N4 ?_
  refine CS.block ?_
  refine N3 ?_
  refine WS.det rfl rfl rfl (det_eq rfl rfl) rfl ?_
  refine WS.det rfl rfl rfl (det_assign rfl) rfl ?_
  refine N4 ?_
  refine CS.cond rfl (fun hc2 => ?_) (fun hc2 => ?_) <;> (try simp only [bq] at hc2)
  ·
   refine CS.seq ?_
   refine CS.draw mixed (by kernel_rfl) (by kernel_rfl) ?_
   refine DS.det rfl rfl ((by first | exact det_fieldAddr rfl fo52_2 | exact det_fieldAddrS rfl fo52_2)) rfl ?_
   refine DS.det rfl rfl (det_loadb (j := 0) rfl rfl rfl tk3) rfl ?_
   refine DS.det rfl rfl ((by first | exact det_fieldAddr rfl fo31_3 | exact det_fieldAddrS rfl fo31_3)) rfl ?_
   refine DS.det rfl rfl (det_loadb (j := 2) rfl rfl rfl tk25) rfl ?_
   refine DS.det rfl rfl (det_lenU sl25 rfl (by assumption)) rfl ?_
   refine DS.det rfl rfl (det_sub rfl rfl (by omega)) rfl ?_
   refine DS.det rfl rfl (det_callB rfl rfl ent61 (fun u hu => from_c _ _ _ u)) rfl ?_
   refine DS.det rfl rfl (det_move rfl) rfl ?_
   refine DS.guardT rfl rfl rfl (fun hg => (by first | exact det_fieldAddr rfl fo31_3 | exact det_fieldAddrS rfl fo31_3)) rfl ?_
   refine DS.guardT rfl rfl rfl (fun hg => det_loadb (j := 2) (ev_cond hg rfl) rfl rfl tk25) rfl ?_
   refine DS.guardT rfl rfl rfl (fun hg => (by first | exact det_fieldAddr rfl fo52_2 | exact det_fieldAddrS rfl fo52_2)) rfl ?_
   refine DS.guardT rfl rfl rfl (fun hg => det_loadb (j := 0) (ev_cond hg rfl) rfl rfl tk3) rfl ?_
   refine DS.guardT rfl rfl rfl (fun hg => det_idxU sl25 (ev_cond hg rfl) (ev_cond hg rfl) (by assumption) rfl (by (try simp only [bq] at hg); omega) (by (try simp only [bq] at hg); omega)) rfl ?_
   refine DS.guardT rfl rfl rfl (fun hg => (by first | exact det_fieldAddr (ev_cond hg rfl) fo74_0 | exact det_fieldAddrS (ev_cond hg rfl) fo74_0)) rfl ?_
   refine DS.guardT rfl rfl rfl (fun hg => (by first | exact det_ldUc 3 0 (ev_cond hg rfl) (by assumption) rfl ⟨(by (try simp only [bq] at hg); omega), (by (try simp only [bq] at hg); omega)⟩ (by decide) rfl tk3)) rfl ?_
   refine DS.guardT rfl rfl rfl (fun hg => det_move rfl) rfl ?_
   refine DS.guardT rfl rfl rfl (fun hg => det_eq (ev_cond hg rfl) (ev_cond hg rfl)) rfl ?_
   refine DS.guardT rfl rfl rfl (fun hg => det_move (ev_cond hg rfl)) rfl ?_
   refine DS.guardN rfl rfl rfl rfl (fun hg => (by first | exact det_fieldAddr rfl fo31_3 | exact det_fieldAddrS rfl fo31_3)) rfl ?_
   refine DS.guardN rfl rfl rfl rfl (fun hg => det_loadb (j := 2) (ev_cond hg rfl) rfl rfl tk25) rfl ?_
   refine DS.guardN rfl rfl rfl rfl (fun hg => (by first | exact det_fieldAddr rfl fo52_2 | exact det_fieldAddrS rfl fo52_2)) rfl ?_
   refine DS.guardN rfl rfl rfl rfl (fun hg => det_loadb (j := 0) (ev_cond hg rfl) rfl rfl tk3) rfl ?_
   refine DS.guardN rfl rfl rfl rfl (fun hg => det_idxU sl25 (ev_cond hg rfl) (ev_cond hg rfl) (by assumption) rfl (by (try simp only [bq] at hg); omega) (by (try simp only [bq] at hg); omega)) rfl ?_
   refine DS.guardN rfl rfl rfl rfl (fun hg => (by first | exact det_fieldAddr (ev_cond hg rfl) fo74_1 | exact det_fieldAddrS (ev_cond hg rfl) fo74_1)) rfl ?_
   refine DS.guardN rfl rfl rfl rfl (fun hg => (by first | exact det_ldUc 3 1 (ev_cond hg rfl) (by assumption) rfl ⟨(by (try simp only [bq] at hg); omega), (by (try simp only [bq] at hg); omega)⟩ (by decide) rfl tk3)) rfl ?_
   refine DS.guardN rfl rfl rfl rfl (fun hg => det_move rfl) rfl ?_
   refine DS.guardN rfl rfl rfl rfl (fun hg => det_eq (ev_cond hg rfl) (ev_cond hg rfl)) rfl ?_
   refine DS.guardT rfl rfl rfl (fun hg => det_pick_or (ev_cond hg rfl) (ev_nestF hg rfl) rfl) rfl ?_
   refine DS.det rfl rfl (det_pick_and rfl rfl rfl) rfl ?_
   refine DS.det rfl rfl (det_move rfl) rfl ?_
   refine DS.guardT rfl rfl rfl (fun hg => det_loadb0 (j := 1) rfl rfl tk37) rfl ?_
   refine DS.guardT rfl rfl rfl (fun hg => (by first | exact det_fieldAddr rfl fo31_3 | exact det_fieldAddrS rfl fo31_3)) rfl ?_
   refine DS.guardT rfl rfl rfl (fun hg => det_loadb (j := 2) (ev_cond hg rfl) rfl rfl tk25) rfl ?_
   refine DS.guardT rfl rfl rfl (fun hg => (by first | exact det_fieldAddr rfl fo52_2 | exact det_fieldAddrS rfl fo52_2)) rfl ?_
   refine DS.guardT rfl rfl rfl (fun hg => det_loadb (j := 0) (ev_cond hg rfl) rfl rfl tk3) rfl ?_
   refine DS.guardT rfl rfl rfl (fun hg => det_idxU sl25 (ev_cond hg rfl) (ev_cond hg rfl) (by assumption) rfl (by (try simp only [bq] at hg); omega) (by (try simp only [bq] at hg); omega)) rfl ?_
   refine DS.guardT rfl rfl rfl (fun hg => (by first | exact det_fieldAddr (ev_cond hg rfl) fo74_2 | exact det_fieldAddrS (ev_cond hg rfl) fo74_2)) rfl ?_
   refine DS.guardT rfl rfl rfl (fun hg => (by first | exact det_ldUc 3 2 (ev_cond hg rfl) (by assumption) rfl ⟨(by (try simp only [bq] at hg); omega), (by (try simp only [bq] at hg); omega)⟩ (by decide) rfl tk29)) rfl ?_
   refine DS.guardT rfl rfl rfl (fun hg => det_callB rfl (evs_cons (ev_cond hg rfl) (evs_cons (ev_cond hg rfl) evs_nil)) ent75 (fun u hu => Holding_c z u (hz.st hu) (nth r.wys.l m.n).wh ((hr.wys.el _ (nth_mem (i := m.n) (xs := r.wys.l) (by (try simp only [decide_eq_true_eq, decide_eq_false_iff_not, Bool.and_eq_true, Bool.or_eq_true, Bool.not_eq_true', beq_iff_eq] at hg); omega) (by (try simp only [decide_eq_true_eq, decide_eq_false_iff_not, Bool.and_eq_true, Bool.or_eq_true, Bool.not_eq_true', beq_iff_eq] at hg); omega)) : SlT cLit w (nth r.wys.l m.n).wh).st hu) (by rw [hlt]; exact (hR.wys _ (nth_mem (i := m.n) (xs := r.wys.l) (by (try simp only [decide_eq_true_eq, decide_eq_false_iff_not, Bool.and_eq_true, Bool.or_eq_true, Bool.not_eq_true', beq_iff_eq] at hg); omega) (by (try simp only [decide_eq_true_eq, decide_eq_false_iff_not, Bool.and_eq_true, Bool.or_eq_true, Bool.not_eq_true', beq_iff_eq] at hg); omega))).1))) rfl ?_
   refine DS.det rfl rfl (det_pick_and rfl rfl rfl) rfl ?_
   refine DS.det rfl rfl (det_assign rfl) rfl ?_
   refine DS.done ?_
   refine QS.then_code ?_
   refine CS.ret ?_
   refine QS.block_ret ?_
   refine QS.then_ret ?_
   exact out1 rfl rfl (retBe (by unfold legalB; rw [if_pos hp, if_pos hc2]; rfl))
  ·
   refine N3 ?_
   refine WS.det rfl rfl rfl (det_eq rfl rfl) rfl ?_
   refine WS.det rfl rfl rfl (det_assign rfl) rfl ?_
   refine N4 ?_
   refine CS.cond rfl (fun hc3 => ?_) (fun hc3 => ?_) <;> (try simp only [bq] at hc3)
   ·
    refine CS.seq ?_
    refine CS.draw mixed (by kernel_rfl) (by kernel_rfl) ?_
    refine DS.det rfl rfl ((by first | exact det_fieldAddr rfl fo52_2 | exact det_fieldAddrS rfl fo52_2)) rfl ?_
    refine DS.det rfl rfl (det_loadb (j := 0) rfl rfl rfl tk3) rfl ?_
    refine DS.det rfl rfl ((by first | exact det_fieldAddr rfl fo31_2 | exact det_fieldAddrS rfl fo31_2)) rfl ?_
    refine DS.det rfl rfl (det_loadb (j := 2) rfl rfl rfl tk24) rfl ?_
    refine DS.det rfl rfl (det_lenU sl24 rfl (by assumption)) rfl ?_
    refine DS.det rfl rfl (det_sub rfl rfl (by omega)) rfl ?_
    refine DS.det rfl rfl (det_callB rfl rfl ent61 (fun u hu => from_c _ _ _ u)) rfl ?_
    refine DS.det rfl rfl (det_move rfl) rfl ?_
    refine DS.guardT rfl rfl rfl (fun hg => (by first | exact det_fieldAddr rfl fo37_1 | exact det_fieldAddrS rfl fo37_1)) rfl ?_
    refine DS.guardT rfl rfl rfl (fun hg => det_loadb (j := 1) (ev_cond hg rfl) rfl rfl tk35) rfl ?_
    refine DS.guardT rfl rfl rfl (fun hg => (by first | exact det_fieldAddr rfl fo52_2 | exact det_fieldAddrS rfl fo52_2)) rfl ?_
    refine DS.guardT rfl rfl rfl (fun hg => det_loadb (j := 0) (ev_cond hg rfl) rfl rfl tk3) rfl ?_
    refine DS.guardT rfl rfl rfl (fun hg => det_idxI sl35 (ev_cond hg rfl) (ev_cond hg rfl) (by assumption) (by (try simp only [bq] at hg); omega) (by (try simp only [bq] at hg); omega)) rfl ?_
    refine DS.guardT rfl rfl rfl (fun hg => det_ldI (ev_cond hg rfl) (by assumption) (by (try simp only [bq] at hg); omega) tk3) rfl ?_
    refine DS.guardT rfl rfl rfl (fun hg => det_move rfl) rfl ?_
    refine DS.guardT rfl rfl rfl (fun hg => det_eq (ev_cond hg rfl) (ev_cond hg rfl)) rfl ?_
    refine DS.det rfl rfl (det_pick_and rfl rfl rfl) rfl ?_
    refine DS.det rfl rfl (det_move rfl) rfl ?_
    refine DS.guardT rfl rfl rfl (fun hg => det_loadb0 (j := 1) rfl rfl tk37) rfl ?_
    refine DS.guardT rfl rfl rfl (fun hg => (by first | exact det_fieldAddr rfl fo31_2 | exact det_fieldAddrS rfl fo31_2)) rfl ?_
    refine DS.guardT rfl rfl rfl (fun hg => det_loadb (j := 2) (ev_cond hg rfl) rfl rfl tk24) rfl ?_
    refine DS.guardT rfl rfl rfl (fun hg => (by first | exact det_fieldAddr rfl fo52_2 | exact det_fieldAddrS rfl fo52_2)) rfl ?_
    refine DS.guardT rfl rfl rfl (fun hg => det_loadb (j := 0) (ev_cond hg rfl) rfl rfl tk3) rfl ?_
    refine DS.guardT rfl rfl rfl (fun hg => det_idxU sl24 (ev_cond hg rfl) (ev_cond hg rfl) (by assumption) rfl (by (try simp only [bq] at hg); omega) (by (try simp only [bq] at hg); omega)) rfl ?_
    refine DS.guardT rfl rfl rfl (fun hg => (by first | exact det_fieldAddr (ev_cond hg rfl) fo72_2 | exact det_fieldAddrS (ev_cond hg rfl) fo72_2)) rfl ?_
    refine DS.guardT rfl rfl rfl (fun hg => (by first | exact det_ldUc 3 2 (ev_cond hg rfl) (by assumption) rfl ⟨(by (try simp only [bq] at hg); omega), (by (try simp only [bq] at hg); omega)⟩ (by decide) rfl tk29)) rfl ?_
    refine DS.guardT rfl rfl rfl (fun hg => det_callB rfl (evs_cons (ev_cond hg rfl) (evs_cons (ev_cond hg rfl) evs_nil)) ent75 (fun u hu => Holding_c z u (hz.st hu) (nth r.prs.l m.n).wh ((hr.prs.el _ (nth_mem (i := m.n) (xs := r.prs.l) (by (try simp only [decide_eq_true_eq, decide_eq_false_iff_not, Bool.and_eq_true, Bool.or_eq_true, Bool.not_eq_true', beq_iff_eq] at hg); omega) (by (try simp only [decide_eq_true_eq, decide_eq_false_iff_not, Bool.and_eq_true, Bool.or_eq_true, Bool.not_eq_true', beq_iff_eq] at hg); omega)) : SlT cLit w (nth r.prs.l m.n).wh).st hu) (by rw [hlt]; exact (hR.prs _ (nth_mem (i := m.n) (xs := r.prs.l) (by (try simp only [decide_eq_true_eq, decide_eq_false_iff_not, Bool.and_eq_true, Bool.or_eq_true, Bool.not_eq_true', beq_iff_eq] at hg); omega) (by (try simp only [decide_eq_true_eq, decide_eq_false_iff_not, Bool.and_eq_true, Bool.or_eq_true, Bool.not_eq_true', beq_iff_eq] at hg); omega))).1))) rfl ?_
    refine DS.det rfl rfl (det_pick_and rfl rfl rfl) rfl ?_
    refine DS.det rfl rfl (det_move rfl) rfl ?_
    refine DS.guardT rfl rfl rfl (fun hg => det_loadb0 (j := 1) rfl rfl tk37) rfl ?_
    refine DS.guardT rfl rfl rfl (fun hg => (by first | exact det_fieldAddr rfl fo52_0 | exact det_fieldAddrS rfl fo52_0)) rfl ?_
    refine DS.guardT rfl rfl rfl (fun hg => det_loadb (j := 0) (ev_cond hg rfl) rfl rfl tk3) rfl ?_
    refine DS.guardT rfl rfl rfl (fun hg => det_callB rfl (evs_cons (ev_cond hg rfl) (evs_cons (ev_cond hg rfl) evs_nil)) ent102 (fun u hu => Rhand_c z u (hz.st hu) m.p (by omega) (by omega) (by omega))) rfl ?_
    refine DS.guardT rfl rfl rfl (fun hg => det_lt (ev_cond hg rfl) rfl) rfl ?_
    refine DS.det rfl rfl (det_pick_and rfl rfl rfl) rfl ?_
    refine DS.det rfl rfl (det_assign rfl) rfl ?_
    refine DS.done ?_
    refine QS.then_code ?_
    refine CS.ret ?_
    refine QS.block_ret ?_
    refine QS.then_ret ?_
    exact out1 rfl rfl (retBe (by unfold legalB; rw [if_pos hp, if_neg hc2, if_pos hc3]; rfl))
   ·
    refine N3 ?_
    refine WS.det rfl rfl rfl (det_eq rfl rfl) rfl ?_
    refine WS.det rfl rfl rfl (det_assign rfl) rfl ?_
    refine N4 ?_
    refine CS.cond rfl (fun hc4 => ?_) (fun hc4 => ?_) <;> (try simp only [bq] at hc4)
    ·
     refine N3 ?_
     refine WS.det rfl rfl rfl ((by first | exact det_fieldAddr rfl fo52_2 | exact det_fieldAddrS rfl fo52_2)) rfl ?_
     refine WS.det rfl rfl rfl (det_loadb (j := 0) rfl rfl rfl tk3) rfl ?_
     refine WS.det rfl rfl rfl ((by first | exact det_fieldAddr rfl fo31_2 | exact det_fieldAddrS rfl fo31_2)) rfl ?_
     refine WS.det rfl rfl rfl (det_loadb (j := 2) rfl rfl rfl tk24) rfl ?_
     refine WS.det rfl rfl rfl (det_lenU sl24 rfl (by assumption)) rfl ?_
     refine WS.det rfl rfl rfl (det_sub rfl rfl (by omega)) rfl ?_
     refine WS.det rfl rfl rfl (det_callB rfl rfl ent61 (fun u hu => from_c _ _ _ u)) rfl ?_
     refine WS.det rfl rfl rfl (det_move rfl) rfl ?_
     refine WS.guardT rfl rfl rfl rfl (fun hg => (by first | exact det_fieldAddr rfl fo37_1 | exact det_fieldAddrS rfl fo37_1)) rfl ?_
     refine WS.guardT rfl rfl rfl rfl (fun hg => det_loadb (j := 1) (ev_cond hg rfl) rfl rfl tk35) rfl ?_
     refine WS.guardT rfl rfl rfl rfl (fun hg => (by first | exact det_fieldAddr rfl fo52_2 | exact det_fieldAddrS rfl fo52_2)) rfl ?_
     refine WS.guardT rfl rfl rfl rfl (fun hg => det_loadb (j := 0) (ev_cond hg rfl) rfl rfl tk3) rfl ?_
     refine WS.guardT rfl rfl rfl rfl (fun hg => det_idxI sl35 (ev_cond hg rfl) (ev_cond hg rfl) (by assumption) (by (try simp only [bq] at hg); omega) (by (try simp only [bq] at hg); omega)) rfl ?_
     refine WS.guardT rfl rfl rfl rfl (fun hg => det_ldI (ev_cond hg rfl) (by assumption) (by (try simp only [bq] at hg); omega) tk3) rfl ?_
     refine WS.guardT rfl rfl rfl rfl (fun hg => det_move rfl) rfl ?_
     refine WS.guardT rfl rfl rfl rfl (fun hg => det_eq (ev_cond hg rfl) (ev_cond hg rfl)) rfl ?_
     refine WS.det rfl rfl rfl (det_pick_and rfl rfl rfl) rfl ?_
     refine WS.det rfl rfl rfl (det_assign rfl) rfl ?_
     refine N4 ?_
     refine CS.ret ?_
     refine QS.block_ret ?_
     refine QS.then_ret ?_
     exact out1 rfl rfl (retBe (by unfold legalB; rw [if_pos hp, if_neg hc2, if_neg hc3, if_pos hc4]; rfl))
    ·
     refine N3 ?_
     refine WS.det rfl rfl rfl (det_eq rfl rfl) rfl ?_
     refine WS.det rfl rfl rfl (det_assign rfl) rfl ?_
     refine N4 ?_
     refine CS.cond rfl (fun hc5 => ?_) (fun hc5 => ?_) <;> (try simp only [bq] at hc5)
     ·
      refine CS.seq ?_
      refine N3 ?_
      refine WS.det rfl rfl rfl ((by first | exact det_fieldAddr rfl fo52_2 | exact det_fieldAddrS rfl fo52_2)) rfl ?_
      refine WS.det rfl rfl rfl (det_loadb (j := 0) rfl rfl rfl tk3) rfl ?_
      refine WS.det rfl rfl rfl ((by first | exact det_fieldAddr rfl fo31_4 | exact det_fieldAddrS rfl fo31_4)) rfl ?_
      refine WS.det rfl rfl rfl (det_loadb (j := 2) rfl rfl rfl tk26) rfl ?_
      refine WS.det rfl rfl rfl (det_lenU sl26 rfl (by assumption)) rfl ?_
      refine WS.det rfl rfl rfl (det_sub rfl rfl (by omega)) rfl ?_
      refine WS.det rfl rfl rfl (det_callB rfl rfl ent61 (fun u hu => from_c _ _ _ u)) rfl ?_
      refine WS.det rfl rfl rfl (det_not rfl) rfl ?_
      refine N4 ?_
      refine CS.cond rfl (fun hc6 => ?_) (fun hc6 => ?_) <;> (try simp only [bq] at hc6)
      ·
       refine N3 ?_
       refine WS.det rfl rfl rfl (det_assign rfl) rfl ?_
       refine N4 ?_
       refine CS.ret ?_
       refine QS.then_ret ?_
       refine QS.block_ret ?_
       refine QS.then_ret ?_
       exact out1 rfl rfl (retBe (by unfold legalB; rw [if_pos hp, if_neg hc2, if_neg hc3, if_neg hc4, if_pos hc5]; unfold doB; rw [show (decide (0 ≤ m.n) && decide (m.n ≤ (r.acs.l.length : Int) - 1)) = false by simp only [Bool.and_eq_false_iff, decide_eq_false_iff_not]; omega]; rfl))
      ·
       have hn2 : 0 ≤ m.n ∧ m.n < r.acs.l.length := by omega
       have ha := hR.acs _ (nth_mem hn2.1 hn2.2)
       have hak : ActOk w (nth r.acs.l m.n) := hr.acs.at hn2.1 hn2.2
       have hus := hak.us.ints
       have hsp := hak.sp.ints
       have hbr := hak.br.ints
       have lus := ha.lus
       have lbr := ha.lbr
       have lsp := ha.lsp
       have hcl := cnt_le z.prs.l (-2 - m.p)
       refine CS.skip ?_
       refine QS.then_code ?_
       refine N3 ?_
       refine WS.det rfl rfl rfl ((by first | exact det_fieldAddr rfl fo31_4 | exact det_fieldAddrS rfl fo31_4)) rfl ?_
       refine WS.det rfl rfl rfl (det_loadb (j := 2) rfl rfl rfl tk26) rfl ?_
       refine WS.det rfl rfl rfl ((by first | exact det_fieldAddr rfl fo52_2 | exact det_fieldAddrS rfl fo52_2)) rfl ?_
       refine WS.det rfl rfl rfl (det_loadb (j := 0) rfl rfl rfl tk3) rfl ?_
       refine WS.det rfl rfl rfl (det_idxU sl26 rfl rfl (by assumption) rfl (by omega) (by omega)) rfl ?_
       refine WS.det rfl rfl rfl ((by first | exact det_ldU rfl (by assumption) rfl ⟨(by omega), (by omega)⟩ rfl tk77)) rfl ?_
       refine WS.alloc zv77 (fun _ => rfl) ?_; intro b9 hb9
       first | refine WS.storeW (j := 0) rfl rfl rfl rfl (by first | (simp [Value.oneCell']; done) | ((repeat (refine List.forall_mem_cons.2 ⟨by first | rfl | assumption, ?_⟩)); exact fun _ h => absurd h List.not_mem_nil) | exact Cel.one _ w _ (by first | assumption | exact trivial)) tk77 rfl rfl ?_
       refine N4 ?_
       refine CS.seq ?_
       refine N3 ?_
       refine WS.det rfl rfl rfl (det_assign rfl) rfl ?_
       refine N4 ?_
       refine CS.block ?_
       refine CS.loopM (σ := Int) [6, 144, 145, 146, 147, 148, 149, 150, 151, 152, 153, 154, 155, 156, 157, 158, 159, 160, 161] (fun s => [(10, .int .i64 s)]) (fun _ => _) (fun s => 0 ≤ s ∧ s ≤ (nth r.acs.l m.n).us.l.length ∧ ∀ j : Int, 0 ≤ j → j < s → nth z.prs.l (nth (nth r.acs.l m.n).us.l j) = -2 - m.p) (fun s => ((nth r.acs.l m.n).us.l.length - s).toNat) 0 (fun _ _ => rfl) rfl rfl ⟨by omega, by omega, fun j _ _ => by omega⟩ ?_
       intro a t hs
       obtain ⟨ha1, ha2, ha3⟩ := hs
       refine CS.seq ?_
       refine N3 ?_
       refine WS.det rfl rfl rfl (det_move rfl) rfl ?_
       refine WS.det rfl rfl rfl ((by first | exact det_fieldAddr rfl fo77_3 | exact det_fieldAddrS rfl fo77_3)) rfl ?_
       refine WS.det rfl rfl rfl (det_loadb (j := 0) rfl rfl rfl tk35) rfl ?_
       refine WS.det rfl rfl rfl (det_lenS sl35 rfl (by assumption)) rfl ?_
       refine WS.det rfl rfl rfl (det_lt rfl rfl) rfl ?_
       refine N4 ?_
       refine CS.cond rfl (fun hc7 => ?_) (fun hc7 => ?_) <;> (try simp only [bq] at hc7)
       ·
        have hin := ha.us _ (nth_mem ha1 (by omega))
        refine CS.skip ?_
        refine QS.then_code ?_
        refine CS.seq ?_
        refine CS.block ?_
        refine CS.seq ?_
        refine CS.draw mixed (by kernel_rfl) (by kernel_rfl) ?_
        refine DS.det rfl rfl ((by first | exact det_fieldAddr rfl fo37_1 | exact det_fieldAddrS rfl fo37_1)) rfl ?_
        refine DS.det rfl rfl (det_loadb (j := 2) rfl rfl rfl tk35) rfl ?_
        refine DS.det rfl rfl ((by first | exact det_fieldAddr rfl fo77_3 | exact det_fieldAddrS rfl fo77_3)) rfl ?_
        refine DS.det rfl rfl (det_loadb (j := 0) rfl rfl rfl tk35) rfl ?_
        refine DS.det rfl rfl (det_move rfl) rfl ?_
        refine DS.det rfl rfl (det_idxI sl35 rfl rfl (by assumption) (by omega) (by omega)) rfl ?_
        refine DS.det rfl rfl (det_ldI rfl (by assumption) (by omega) tk3) rfl ?_
        refine DS.det rfl rfl (det_idxI sl35 rfl rfl (by assumption) (by omega) (by omega)) rfl ?_
        refine DS.det rfl rfl (det_ldI rfl (by assumption) (by omega) tk3) rfl ?_
        refine DS.det rfl rfl (det_move rfl) rfl ?_
        refine DS.det rfl rfl (det_ne rfl rfl) rfl ?_
        refine DS.done ?_
        refine QS.then_code ?_
        refine CS.cond rfl (fun hc8 => ?_) (fun hc8 => ?_) <;> (try simp only [bq] at hc8)
        ·
         refine N3 ?_
         refine WS.det rfl rfl rfl (det_assign rfl) rfl ?_
         refine N4 ?_
         refine CS.ret ?_
         refine QS.block_ret ?_
         iterate 2 refine QS.then_ret ?_
         refine QS.block_ret ?_
         refine QS.then_ret ?_
         refine QS.block_ret ?_
         refine QS.then_ret ?_
         exact out1 rfl rfl (retBe (by unfold legalB; rw [if_pos hp, if_neg hc2, if_neg hc3, if_neg hc4, if_pos hc5]; unfold doB; rw [show usesB z.x (nth r.acs.l m.n) m = false from allI_no ha1 (by omega) (decide_eq_false hc8)]; simp))
        ·
         refine CS.skip ?_
         refine QS.block_normal ?_
         refine QS.then_code ?_
         refine CS.region ?_
         refine WS.det rfl rfl rfl (det_move rfl) rfl ?_
         refine WS.det rfl rfl rfl (det_add rfl rfl (by omega)) rfl ?_
         refine WS.det rfl rfl rfl (det_assign rfl) rfl ?_
         refine WS.done ?_
         exact QS.head (a + 1) rfl rfl ⟨⟨by omega, by omega, fun j h0 h1 => by
            rcases (show j < a ∨ j = a by omega) with h | h
            ·
             exact ha3 j h0 h
            ·
             rw [h]; exact hc8⟩, by omega⟩
       ·
        refine CS.leave ?_
        iterate 2 refine QS.then_exit ?_
        refine QS.block_exit ?_
        refine QS.then_code ?_
        refine CS.seq ?_
        refine N3 ?_
        refine WS.det rfl rfl rfl (det_assign rfl) rfl ?_
        refine N4 ?_
        refine CS.block ?_
        refine CS.loopM (σ := Int) [6, 162, 163, 164, 165, 166, 167, 168, 169, 170, 171, 172, 173, 174, 175, 176, 177, 178] (fun s => [(11, .int .i64 s)]) (fun _ => _) (fun s => 0 ≤ s ∧ s ≤ (nth r.acs.l m.n).br.l.length ∧ ∀ j : Int, 0 ≤ j → j < s → nth z.prs.l (nth (nth r.acs.l m.n).br.l j) = -1) (fun s => ((nth r.acs.l m.n).br.l.length - s).toNat) 0 (fun _ _ => rfl) rfl rfl ⟨by omega, by omega, fun j _ _ => by omega⟩ ?_
        intro b t hs
        obtain ⟨hb1, hb2, hb3⟩ := hs
        refine CS.seq ?_
        refine N3 ?_
        refine WS.det rfl rfl rfl (det_move rfl) rfl ?_
        refine WS.det rfl rfl rfl ((by first | exact det_fieldAddr rfl fo77_7 | exact det_fieldAddrS rfl fo77_7)) rfl ?_
        refine WS.det rfl rfl rfl (det_loadb (j := 0) rfl rfl rfl tk35) rfl ?_
        refine WS.det rfl rfl rfl (det_lenS sl35 rfl (by assumption)) rfl ?_
        refine WS.det rfl rfl rfl (det_lt rfl rfl) rfl ?_
        refine N4 ?_
        refine CS.cond rfl (fun hc9 => ?_) (fun hc9 => ?_) <;> (try simp only [bq] at hc9)
        ·
         have hin := ha.br _ (nth_mem hb1 (by omega))
         refine CS.skip ?_
         refine QS.then_code ?_
         refine CS.seq ?_
         refine CS.block ?_
         refine CS.seq ?_
         refine CS.draw mixed (by kernel_rfl) (by kernel_rfl) ?_
         refine DS.det rfl rfl ((by first | exact det_fieldAddr rfl fo37_1 | exact det_fieldAddrS rfl fo37_1)) rfl ?_
         refine DS.det rfl rfl (det_loadb (j := 2) rfl rfl rfl tk35) rfl ?_
         refine DS.det rfl rfl ((by first | exact det_fieldAddr rfl fo77_7 | exact det_fieldAddrS rfl fo77_7)) rfl ?_
         refine DS.det rfl rfl (det_loadb (j := 0) rfl rfl rfl tk35) rfl ?_
         refine DS.det rfl rfl (det_move rfl) rfl ?_
         refine DS.det rfl rfl (det_idxI sl35 rfl rfl (by assumption) (by omega) (by omega)) rfl ?_
         refine DS.det rfl rfl (det_ldI rfl (by assumption) (by omega) tk3) rfl ?_
         refine DS.det rfl rfl (det_idxI sl35 rfl rfl (by assumption) (by omega) (by omega)) rfl ?_
         refine DS.det rfl rfl (det_ldI rfl (by assumption) (by omega) tk3) rfl ?_
         refine DS.det rfl rfl (det_ne rfl rfl) rfl ?_
         refine DS.done ?_
         refine QS.then_code ?_
         refine CS.cond rfl (fun hc10 => ?_) (fun hc10 => ?_) <;> (try simp only [bq] at hc10)
         ·
          refine N3 ?_
          refine WS.det rfl rfl rfl (det_assign rfl) rfl ?_
          refine N4 ?_
          refine CS.ret ?_
          refine QS.block_ret ?_
          iterate 2 refine QS.then_ret ?_
          refine QS.block_ret ?_
          refine QS.then_ret ?_
          refine QS.block_ret ?_
          refine QS.then_ret ?_
          exact out1 rfl rfl (retBe (by unfold legalB; rw [if_pos hp, if_neg hc2, if_neg hc3, if_neg hc4, if_pos hc5]; unfold doB; rw [show bringB z.x (nth r.acs.l m.n) = false from allI_no hb1 (by omega) (decide_eq_false hc10)]; simp))
         ·
          refine CS.skip ?_
          refine QS.block_normal ?_
          refine QS.then_code ?_
          refine CS.region ?_
          refine WS.det rfl rfl rfl (det_move rfl) rfl ?_
          refine WS.det rfl rfl rfl (det_add rfl rfl (by omega)) rfl ?_
          refine WS.det rfl rfl rfl (det_assign rfl) rfl ?_
          refine WS.done ?_
          exact QS.head (b + 1) rfl rfl ⟨⟨by omega, by omega, fun j h0 h1 => by
             rcases (show j < b ∨ j = b by omega) with h | h
             ·
              exact hb3 j h0 h
             ·
              rw [h]; exact hc10⟩, by omega⟩
        ·
         refine CS.leave ?_
         iterate 2 refine QS.then_exit ?_
         refine QS.block_exit ?_
         refine QS.then_code ?_
         refine CS.seq ?_
         refine CS.draw mixed (by kernel_rfl) (by kernel_rfl) ?_
         refine DS.det rfl rfl ((by first | exact det_fieldAddr rfl fo77_1 | exact det_fieldAddrS rfl fo77_1)) rfl ?_
         refine DS.det rfl rfl (det_loadb (j := 0) rfl rfl rfl tk3) rfl ?_
         refine DS.det rfl rfl (det_move rfl) rfl ?_
         refine DS.det rfl rfl (det_eq rfl rfl) rfl ?_
         refine DS.det rfl rfl (det_move rfl) rfl ?_
         refine DS.guardT rfl rfl rfl (fun hg => det_loadb0 (j := 2) rfl rfl tk37) rfl ?_
         refine DS.guardT rfl rfl rfl (fun hg => (by first | exact det_fieldAddr rfl fo77_4 | exact det_fieldAddrS rfl fo77_4)) rfl ?_
         refine DS.guardT rfl rfl rfl (fun hg => det_loadb (j := 0) (ev_cond hg rfl) rfl rfl tk29) rfl ?_
         refine DS.guardT rfl rfl rfl (fun hg => det_callB rfl (evs_cons (ev_cond hg rfl) (evs_cons (ev_cond hg rfl) evs_nil)) ent75 (fun u hu => Holding_c z u (hz.st hu) (nth r.acs.l m.n).wh (hak.wh.st hu) (by rw [hlt]; exact ha.wh))) rfl ?_
         refine DS.det rfl rfl (det_pick_and rfl rfl rfl) rfl ?_
         refine DS.det rfl rfl (det_move rfl) rfl ?_
         refine DS.guardT rfl rfl rfl (fun hg => det_loadb0 (j := 2) rfl rfl tk37) rfl ?_
         refine DS.guardT rfl rfl rfl (fun hg => (by first | exact det_fieldAddr rfl fo52_0 | exact det_fieldAddrS rfl fo52_0)) rfl ?_
         refine DS.guardT rfl rfl rfl (fun hg => det_loadb (j := 1) (ev_cond hg rfl) rfl rfl tk3) rfl ?_
         refine DS.guardT rfl rfl rfl (fun hg => det_callB rfl (evs_cons (ev_cond hg rfl) (evs_cons (ev_cond hg rfl) evs_nil)) ent102 (fun u hu => Rhand_c z u (hz.st hu) m.p (by omega) (by omega) (by omega))) rfl ?_
         refine DS.guardT rfl rfl rfl (fun hg => (by first | exact det_fieldAddr rfl fo77_6 | exact det_fieldAddrS rfl fo77_6)) rfl ?_
         refine DS.guardT rfl rfl rfl (fun hg => det_loadb (j := 0) (ev_cond hg rfl) rfl rfl tk35) rfl ?_
         refine DS.guardT rfl rfl rfl (fun hg => det_lenS sl35 (ev_cond hg rfl) (by assumption)) rfl ?_
         refine DS.guardT rfl rfl rfl (fun hg => det_sub (ev_cond hg rfl) (ev_cond hg rfl) (by (try simp only [bq] at hg); omega)) rfl ?_
         refine DS.guardT rfl rfl rfl (fun hg => (by first | exact det_fieldAddr rfl fo77_7 | exact det_fieldAddrS rfl fo77_7)) rfl ?_
         refine DS.guardT rfl rfl rfl (fun hg => det_loadb (j := 0) (ev_cond hg rfl) rfl rfl tk35) rfl ?_
         refine DS.guardT rfl rfl rfl (fun hg => det_lenS sl35 (ev_cond hg rfl) (by assumption)) rfl ?_
         refine DS.guardT rfl rfl rfl (fun hg => det_add (ev_cond hg rfl) (ev_cond hg rfl) (by (try simp only [bq] at hg); omega)) rfl ?_
         refine DS.guardT rfl rfl rfl (fun hg => det_le (ev_cond hg rfl) rfl) rfl ?_
         refine DS.det rfl rfl (det_pick_and rfl rfl rfl) rfl ?_
         refine DS.det rfl rfl (det_assign rfl) rfl ?_
         refine DS.done ?_
         refine QS.then_code ?_
         refine CS.ret ?_
         refine QS.block_ret ?_
         refine QS.then_ret ?_
         exact out1 rfl rfl (retBe (by unfold legalB; rw [if_pos hp, if_neg hc2, if_neg hc3, if_neg hc4, if_pos hc5]; unfold doB; rw [show (decide (0 ≤ m.n) && decide (m.n ≤ (r.acs.l.length : Int) - 1)) = true by simp only [Bool.and_eq_true, decide_eq_true_eq]; omega, show usesB z.x (nth r.acs.l m.n) m = true from allI_yes fun j a b => decide_eq_true (ha3 j a (by omega)), show bringB z.x (nth r.acs.l m.n) = true from allI_yes fun j a b => decide_eq_true (hb3 j a (by omega))]; rfl))
     ·
      refine CS.skip ?_
      refine QS.block_normal ?_
      refine QS.then_code ?_
      refine N3 ?_
      refine WS.det rfl rfl rfl (det_assign rfl) rfl ?_
      refine N4 ?_
      refine CS.ret ?_
      exact out1 rfl rfl (retBe (by unfold legalB; rw [if_pos hp, if_neg hc2, if_neg hc3, if_neg hc4, if_neg hc5]))
end Go.Proofs.YtgbofmnbakfalaaDoor
namespace Go.Proofs.YtgbofmnbakfalaaDoor
open Go.RowKit Go.Proofs
set_option maxRecDepth 100000
set_option linter.unusedVariables false
set_option linter.unusedSimpArgs false
set_option maxHeartbeats 4000000 in
theorem RPlayed_c (r : Room) (w : World) (hr : RoomOk w r) (z : Stt) (hz : SttOk w z) (hR : Ready r) (hI : StIn r z.x) (m : Move) (hL : legalB r z.x m = true) :
  Calls Tryd.prog 72 #[.agg #[r.pls.v, r.ths.v, r.prs.v, r.wys.v, r.acs.v, r.aus.v, .int .i64 r.ply, r.gl.v], .agg #[z.ths.v, z.prs.v, z.pls.v], .agg #[.int .i64 m.p, .int .i64 m.k, .int .i64 m.n]] w (RetS w ((settleV r (moveX r z.x m)).getD no3) fun v => .tuple #[v, .bool (settleV r (moveX r z.x m)).isSome]) := by
 have kpl := hr.pls
 have lpl := hr.pls.le
 have kth := hr.ths
 have lth := hr.ths.le
 have kpr := hr.prs
 have lpr := hr.prs.le
 have kwy := hr.wys
 have lwy := hr.wys.le
 have kac := hr.acs
 have lac := hr.acs.le
 have kau := hr.aus
 have lau := hr.aus.le
 have kgl := hr.gl
 have lgl := hr.gl.le
 have zth := hz.ths.ints
 have zpr := hz.prs.ints
 have zpl := hz.pls.ints
 have hlen := hR.lens
 have hply := hR.ply
 have hlt : z.ths.l.length = r.ths.l.length := hI.lt
 have hlp : z.prs.l.length = r.prs.l.length := hI.lp
 have hll : (z.pls.l.length : Int) = r.ply := hI.ll
 have hM := move_in hR hI hL
 have hMp : 0 ≤ m.p ∧ m.p < z.pls.l.length ∧ m.p ≤ 3 := hM.p
 have hat : 0 ≤ nth z.pls.l m.p ∧ nth z.pls.l m.p < r.pls.l.length := hI.at (i := m.p) (by omega) (show m.p < z.pls.l.length by omega)
 have hsm : z.ths.l.length ≤ 1000000 ∧ z.prs.l.length ≤ 1000000 ∧ z.pls.l.length ≤ 1000000 := hI.small hR
 have hau : autosIn r.aus.l z.ths.l.length := hI.autos hR
 refine enter Tryd.func72 rfl rfl (Nat.le_of_ble_eq_true rfl) ?_
 refine N3 ?_
 refine WS.box rfl rfl (fun _ => rfl) ?_; intro b3 hb3
 refine WS.box rfl rfl (fun _ => rfl) ?_; intro b4 hb4
 refine WS.box rfl rfl (fun _ => rfl) ?_; intro b5 hb5
 refine WS.alloc zv37 (fun _ => rfl) ?_; intro b6 hb6
 refine WS.det rfl rfl rfl (det_assign rfl) rfl ?_
 refine N1 ?_
 refine WS.det rfl rfl rfl (det_loadb0 (j := 2) rfl rfl tk37) rfl ?_
 refine WS.callF rfl rfl ent23 (fun u hu => CopyState_c z u (hz.st hu) hsm) (fun _ => rfl) ?_; rintro ⟨va, vb, vc⟩ ⟨oa, ob, oc⟩
 refine WS.unpack ?_
 refine WS.alloc zv37 (fun _ => rfl) ?_; intro b8 hb8
 first | refine WS.storeW (j := 0) rfl rfl rfl rfl (by first | (simp [Value.oneCell']; done) | ((repeat (refine List.forall_mem_cons.2 ⟨by first | rfl | assumption, ?_⟩)); exact fun _ h => absurd h List.not_mem_nil) | exact Cel.one _ w _ (by first | assumption | exact trivial)) tk37 rfl rfl ?_
 refine N4 ?_
 refine CS.seq ?_
 refine CS.draw mixed (by kernel_rfl) (by kernel_rfl) ?_
 refine DS.det rfl rfl ((by first | exact det_fieldAddr rfl fo37_2 | exact det_fieldAddrS rfl fo37_2)) rfl ?_
 refine DS.det rfl rfl (det_loadb (j := 6) rfl rfl rfl tk35) rfl ?_
 refine DS.det rfl rfl ((by first | exact det_fieldAddr rfl fo52_0 | exact det_fieldAddrS rfl fo52_0)) rfl ?_
 refine DS.det rfl rfl (det_loadb (j := 5) rfl rfl rfl tk3) rfl ?_
 refine DS.det rfl rfl (det_idxI sl35 rfl rfl (by assumption) (by omega) (by omega)) rfl ?_
 refine DS.det rfl rfl (det_ldI rfl (by assumption) (by omega) tk3) rfl ?_
 refine DS.det rfl rfl ((by first | exact det_fieldAddr rfl fo52_0 | exact det_fieldAddrS rfl fo52_0)) rfl ?_
 refine DS.det rfl rfl (det_loadb (j := 5) rfl rfl rfl tk3) rfl ?_
 refine DS.det rfl rfl (det_sub rfl rfl (by omega)) rfl ?_
 refine DS.det rfl rfl (det_assign rfl) rfl ?_
 refine DS.det rfl rfl (det_assign rfl) rfl ?_
 refine DS.done ?_
 refine QS.then_code ?_
 refine CS.seq ?_
 refine N3 ?_
 refine WS.det rfl rfl rfl ((by first | exact det_fieldAddr rfl fo52_1 | exact det_fieldAddrS rfl fo52_1)) rfl ?_
 refine WS.det rfl rfl rfl (det_loadb (j := 5) rfl rfl rfl tk3) rfl ?_
 refine N4 ?_
 refine CS.block ?_
 refine N3 ?_
 refine WS.det rfl rfl rfl (det_eq rfl rfl) rfl ?_
 refine WS.det rfl rfl rfl (det_assign rfl) rfl ?_
 refine N4 ?_
 refine CS.cond rfl (fun hc1 => ?_) (fun hc1 => ?_) <;> (try simp only [bq] at hc1)
 ·
  have hn := hM.go hc1
  have hwy := hR.wys _ (nth_mem hn.1 hn.2)
  have hmv : moveX r z.x m = (z.ths.l, z.prs.l, z.pls.l.set m.p.toNat ((nth r.wys.l m.n).a + (nth r.wys.l m.n).b - nth z.pls.l m.p)) := if_pos hc1
  refine CS.drawnTill 22 (k := 23) mixed rfl rfl ?_
  refine AT.take 0 rfl (by kernel_rfl) (na := 23) (by kernel_rfl) rfl (by kernel_rfl) (by kernel_rfl) (by kernel_rfl) rfl rfl ((by first | exact det_fieldAddr rfl fo37_2 | exact det_fieldAddrS rfl fo37_2)) rfl rfl ?_
  refine AT.take 1 rfl (by kernel_rfl) (na := 23) (by kernel_rfl) rfl (by kernel_rfl) (by kernel_rfl) (by kernel_rfl) rfl rfl (det_loadb (j := 0) rfl rfl rfl tk35) rfl rfl ?_
  refine AT.take 2 rfl (by kernel_rfl) (na := 23) (by kernel_rfl) rfl (by kernel_rfl) (by kernel_rfl) (by kernel_rfl) rfl rfl ((by first | exact det_fieldAddr rfl fo52_0 | exact det_fieldAddrS rfl fo52_0)) rfl rfl ?_
  refine AT.take 3 rfl (by kernel_rfl) (na := 23) (by kernel_rfl) rfl (by kernel_rfl) (by kernel_rfl) (by kernel_rfl) rfl rfl (det_loadb (j := 5) rfl rfl rfl tk3) rfl rfl ?_
  refine AT.take 4 rfl (by kernel_rfl) (na := 23) (by kernel_rfl) rfl (by kernel_rfl) (by kernel_rfl) (by kernel_rfl) rfl rfl ((by first | exact det_fieldAddr rfl fo31_3 | exact det_fieldAddrS rfl fo31_3)) rfl rfl ?_
  refine AT.take 5 rfl (by kernel_rfl) (na := 23) (by kernel_rfl) rfl (by kernel_rfl) (by kernel_rfl) (by kernel_rfl) rfl rfl (det_loadb (j := 7) rfl rfl rfl tk25) rfl rfl ?_
  refine AT.take 6 rfl (by kernel_rfl) (na := 23) (by kernel_rfl) rfl (by kernel_rfl) (by kernel_rfl) (by kernel_rfl) rfl rfl ((by first | exact det_fieldAddr rfl fo52_2 | exact det_fieldAddrS rfl fo52_2)) rfl rfl ?_
  refine AT.take 7 rfl (by kernel_rfl) (na := 23) (by kernel_rfl) rfl (by kernel_rfl) (by kernel_rfl) (by kernel_rfl) rfl rfl (det_loadb (j := 5) rfl rfl rfl tk3) rfl rfl ?_
  refine AT.take 8 rfl (by kernel_rfl) (na := 23) (by kernel_rfl) rfl (by kernel_rfl) (by kernel_rfl) (by kernel_rfl) rfl rfl (det_idxU sl25 rfl rfl (by assumption) rfl (by omega) (by omega)) rfl rfl ?_
  refine AT.take 9 rfl (by kernel_rfl) (na := 23) (by kernel_rfl) rfl (by kernel_rfl) (by kernel_rfl) (by kernel_rfl) rfl rfl ((by first | exact det_fieldAddr rfl fo74_0 | exact det_fieldAddrS rfl fo74_0)) rfl rfl ?_
  refine AT.take 10 rfl (by kernel_rfl) (na := 23) (by kernel_rfl) rfl (by kernel_rfl) (by kernel_rfl) (by kernel_rfl) rfl rfl ((by first | exact det_ldUc 3 0 rfl (by assumption) rfl ⟨(by omega), (by omega)⟩ (by decide) rfl tk3)) rfl rfl ?_
  refine AT.take 11 rfl (by kernel_rfl) (na := 23) (by kernel_rfl) rfl (by kernel_rfl) (by kernel_rfl) (by kernel_rfl) rfl rfl ((by first | exact det_fieldAddr rfl fo31_3 | exact det_fieldAddrS rfl fo31_3)) rfl rfl ?_
  refine AT.take 12 rfl (by kernel_rfl) (na := 23) (by kernel_rfl) rfl (by kernel_rfl) (by kernel_rfl) (by kernel_rfl) rfl rfl (det_loadb (j := 7) rfl rfl rfl tk25) rfl rfl ?_
  refine AT.take 13 rfl (by kernel_rfl) (na := 23) (by kernel_rfl) rfl (by kernel_rfl) (by kernel_rfl) (by kernel_rfl) rfl rfl ((by first | exact det_fieldAddr rfl fo52_2 | exact det_fieldAddrS rfl fo52_2)) rfl rfl ?_
  refine AT.take 14 rfl (by kernel_rfl) (na := 23) (by kernel_rfl) rfl (by kernel_rfl) (by kernel_rfl) (by kernel_rfl) rfl rfl (det_loadb (j := 5) rfl rfl rfl tk3) rfl rfl ?_
  refine AT.take 15 rfl (by kernel_rfl) (na := 23) (by kernel_rfl) rfl (by kernel_rfl) (by kernel_rfl) (by kernel_rfl) rfl rfl (det_idxU sl25 rfl rfl (by assumption) rfl (by omega) (by omega)) rfl rfl ?_
  refine AT.take 16 rfl (by kernel_rfl) (na := 23) (by kernel_rfl) rfl (by kernel_rfl) (by kernel_rfl) (by kernel_rfl) rfl rfl ((by first | exact det_fieldAddr rfl fo74_1 | exact det_fieldAddrS rfl fo74_1)) rfl rfl ?_
  refine AT.take 17 rfl (by kernel_rfl) (na := 23) (by kernel_rfl) rfl (by kernel_rfl) (by kernel_rfl) (by kernel_rfl) rfl rfl ((by first | exact det_ldUc 3 1 rfl (by assumption) rfl ⟨(by omega), (by omega)⟩ (by decide) rfl tk3)) rfl rfl ?_
  refine AT.take 18 rfl (by kernel_rfl) (na := 23) (by kernel_rfl) rfl (by kernel_rfl) (by kernel_rfl) (by kernel_rfl) rfl rfl (det_add rfl rfl (by omega)) rfl rfl ?_
  refine AT.take 19 rfl (by kernel_rfl) (na := 23) (by kernel_rfl) rfl (by kernel_rfl) (by kernel_rfl) (by kernel_rfl) rfl rfl (det_move rfl) rfl rfl ?_
  refine AT.take 20 rfl (by kernel_rfl) (na := 23) (by kernel_rfl) rfl (by kernel_rfl) (by kernel_rfl) (by kernel_rfl) rfl rfl (det_sub rfl rfl (by omega)) rfl rfl ?_
  refine AT.take 21 rfl (by kernel_rfl) (na := 23) (by kernel_rfl) rfl (by kernel_rfl) (by kernel_rfl) (by kernel_rfl) rfl rfl (det_idxOI (j := 3) sl35 rfl rfl rfl (by omega) (by omega)) rfl rfl ?_
  refine AT.one (i := 22) (by kernel_rfl) rfl (by first | (intro h; exact absurd h (by decide)) | exact fun _ _ h => h | exact fun _ _ h => h.sub (by repeat first | exact List.Sublist.refl _ | apply List.Sublist.cons_cons | apply List.Sublist.cons)) rfl ?_
  refine WS.storeOI (j := 3) rfl rfl (by omega) rfl tk3 rfl ?_
  refine WS.done ?_
  refine QS.then_AT ?_
  refine AT.done (by kernel_rfl) (by first | (intro h; exact absurd h (by decide)) | exact fun _ _ h => h | exact fun _ _ h => h.sub (by repeat first | exact List.Sublist.refl _ | apply List.Sublist.cons_cons | apply List.Sublist.cons)) ?_
  refine QS.block_normal ?_
  refine QS.then_code ?_
  refine N3 ?_
  refine WS.det rfl rfl rfl (det_loadb0 (j := 7) rfl rfl tk31) rfl ?_
  refine WS.det rfl rfl rfl (det_loadb0 (j := 0) rfl rfl tk37) rfl ?_
  refine WS.callF rfl rfl ent73 (fun u hu => Rsettle_c r u (hr.st hu) ⟨⟨va, _⟩, ⟨vb, _⟩, ⟨vc, _⟩⟩ ⟨(oints_SlI hu (j := 1) rfl).tree, (oints_SlI hu (j := 2) rfl).tree, (oints_SlI hu (j := 3) rfl).tree⟩ (by simpa only [List.length_set, setAll_len, putAll_len] using hsm) (by simpa only [List.length_set, setAll_len, putAll_len] using hau)) (fun _ => rfl) ?_; rintro y ⟨hyx, uy, hyok⟩
  obtain ⟨hya, hyb, hyc⟩ := hyok.ones
  refine WS.det rfl rfl rfl (det_extract rfl rfl) rfl ?_
  refine WS.det rfl rfl rfl (det_extract rfl rfl) rfl ?_
  first | refine WS.storeW (j := 5) rfl rfl rfl rfl (by first | (simp [Value.oneCell']; done) | ((repeat (refine List.forall_mem_cons.2 ⟨by first | rfl | assumption, ?_⟩)); exact fun _ h => absurd h List.not_mem_nil) | exact Cel.one _ w _ (by first | assumption | exact trivial)) tk37 rfl rfl ?_
  refine WS.det rfl rfl rfl (det_assign rfl) rfl ?_
  refine N4 ?_
  refine CS.ret ?_
  exact outR (resct rfl (cell_rvN (j := 5) rfl rfl tk37) rfl) (by
    rw [hmv]
    exact fun u hu => retSr (f := fun v => .tuple #[v, .bool (settleV r _).isSome]) (j := 0) rfl hyx hu)
 ·
  refine N3 ?_
  refine WS.det rfl rfl rfl (det_eq rfl rfl) rfl ?_
  refine WS.det rfl rfl rfl (det_assign rfl) rfl ?_
  refine N4 ?_
  refine CS.cond rfl (fun hc2 => ?_) (fun hc2 => ?_) <;> (try simp only [bq] at hc2)
  ·
   have hn : 0 ≤ m.n ∧ m.n < z.prs.l.length := hM.pr (.inl hc2)
   have hmv : moveX r z.x m = (z.ths.l, z.prs.l.set m.n.toNat (-2 - m.p), z.pls.l) := (if_neg hc1).trans (if_pos hc2)
   refine CS.region ?_
   refine WS.det rfl rfl rfl ((by first | exact det_fieldAddr rfl fo37_1 | exact det_fieldAddrS rfl fo37_1)) rfl ?_
   refine WS.det rfl rfl rfl (det_loadb (j := 0) rfl rfl rfl tk35) rfl ?_
   refine WS.det rfl rfl rfl ((by first | exact det_fieldAddr rfl fo52_2 | exact det_fieldAddrS rfl fo52_2)) rfl ?_
   refine WS.det rfl rfl rfl (det_loadb (j := 5) rfl rfl rfl tk3) rfl ?_
   refine WS.det rfl rfl rfl (det_move rfl) rfl ?_
   refine WS.det rfl rfl rfl (det_idxOI (j := 2) sl35 rfl rfl rfl (by omega) (by omega)) rfl ?_
   refine WS.storeOI (j := 2) rfl rfl (by omega) rfl tk3 rfl ?_
   refine WS.done ?_
   refine QS.block_normal ?_
   refine QS.then_code ?_
   refine N3 ?_
   refine WS.det rfl rfl rfl (det_loadb0 (j := 7) rfl rfl tk31) rfl ?_
   refine WS.det rfl rfl rfl (det_loadb0 (j := 0) rfl rfl tk37) rfl ?_
   refine WS.callF rfl rfl ent73 (fun u hu => Rsettle_c r u (hr.st hu) ⟨⟨va, _⟩, ⟨vb, _⟩, ⟨vc, _⟩⟩ ⟨(oints_SlI hu (j := 1) rfl).tree, (oints_SlI hu (j := 2) rfl).tree, (oints_SlI hu (j := 3) rfl).tree⟩ (by simpa only [List.length_set, setAll_len, putAll_len] using hsm) (by simpa only [List.length_set, setAll_len, putAll_len] using hau)) (fun _ => rfl) ?_; rintro y ⟨hyx, uy, hyok⟩
   obtain ⟨hya, hyb, hyc⟩ := hyok.ones
   refine WS.det rfl rfl rfl (det_extract rfl rfl) rfl ?_
   refine WS.det rfl rfl rfl (det_extract rfl rfl) rfl ?_
   first | refine WS.storeW (j := 5) rfl rfl rfl rfl (by first | (simp [Value.oneCell']; done) | ((repeat (refine List.forall_mem_cons.2 ⟨by first | rfl | assumption, ?_⟩)); exact fun _ h => absurd h List.not_mem_nil) | exact Cel.one _ w _ (by first | assumption | exact trivial)) tk37 rfl rfl ?_
   refine WS.det rfl rfl rfl (det_assign rfl) rfl ?_
   refine N4 ?_
   refine CS.ret ?_
   exact outR (resct rfl (cell_rvN (j := 5) rfl rfl tk37) rfl) (by
     rw [hmv]
     exact fun u hu => retSr (f := fun v => .tuple #[v, .bool (settleV r _).isSome]) (j := 0) rfl hyx hu)
  ·
   refine N3 ?_
   refine WS.det rfl rfl rfl (det_eq rfl rfl) rfl ?_
   refine WS.det rfl rfl rfl (det_assign rfl) rfl ?_
   refine N4 ?_
   refine CS.cond rfl (fun hc3 => ?_) (fun hc3 => ?_) <;> (try simp only [bq] at hc3)
   ·
    have hn : 0 ≤ m.n ∧ m.n < z.prs.l.length := hM.pr (.inr hc3)
    have hmv : moveX r z.x m = (z.ths.l, z.prs.l.set m.n.toNat (nth z.pls.l m.p), z.pls.l) := (if_neg hc1).trans ((if_neg hc2).trans (if_pos hc3))
    refine CS.region ?_
    refine WS.det rfl rfl rfl ((by first | exact det_fieldAddr rfl fo37_1 | exact det_fieldAddrS rfl fo37_1)) rfl ?_
    refine WS.det rfl rfl rfl (det_loadb (j := 0) rfl rfl rfl tk35) rfl ?_
    refine WS.det rfl rfl rfl ((by first | exact det_fieldAddr rfl fo52_2 | exact det_fieldAddrS rfl fo52_2)) rfl ?_
    refine WS.det rfl rfl rfl (det_loadb (j := 5) rfl rfl rfl tk3) rfl ?_
    refine WS.det rfl rfl rfl (det_move rfl) rfl ?_
    refine WS.det rfl rfl rfl (det_idxOI (j := 2) sl35 rfl rfl rfl (by omega) (by omega)) rfl ?_
    refine WS.storeOI (j := 2) rfl rfl (by omega) rfl tk3 rfl ?_
    refine WS.done ?_
    refine QS.block_normal ?_
    refine QS.then_code ?_
    refine N3 ?_
    refine WS.det rfl rfl rfl (det_loadb0 (j := 7) rfl rfl tk31) rfl ?_
    refine WS.det rfl rfl rfl (det_loadb0 (j := 0) rfl rfl tk37) rfl ?_
    refine WS.callF rfl rfl ent73 (fun u hu => Rsettle_c r u (hr.st hu) ⟨⟨va, _⟩, ⟨vb, _⟩, ⟨vc, _⟩⟩ ⟨(oints_SlI hu (j := 1) rfl).tree, (oints_SlI hu (j := 2) rfl).tree, (oints_SlI hu (j := 3) rfl).tree⟩ (by simpa only [List.length_set, setAll_len, putAll_len] using hsm) (by simpa only [List.length_set, setAll_len, putAll_len] using hau)) (fun _ => rfl) ?_; rintro y ⟨hyx, uy, hyok⟩
    obtain ⟨hya, hyb, hyc⟩ := hyok.ones
    refine WS.det rfl rfl rfl (det_extract rfl rfl) rfl ?_
    refine WS.det rfl rfl rfl (det_extract rfl rfl) rfl ?_
    first | refine WS.storeW (j := 5) rfl rfl rfl rfl (by first | (simp [Value.oneCell']; done) | ((repeat (refine List.forall_mem_cons.2 ⟨by first | rfl | assumption, ?_⟩)); exact fun _ h => absurd h List.not_mem_nil) | exact Cel.one _ w _ (by first | assumption | exact trivial)) tk37 rfl rfl ?_
    refine WS.det rfl rfl rfl (det_assign rfl) rfl ?_
    refine N4 ?_
    refine CS.ret ?_
    exact outR (resct rfl (cell_rvN (j := 5) rfl rfl tk37) rfl) (by
      rw [hmv]
      exact fun u hu => retSr (f := fun v => .tuple #[v, .bool (settleV r _).isSome]) (j := 0) rfl hyx hu)
   ·
    refine N3 ?_
    refine WS.det rfl rfl rfl (det_eq rfl rfl) rfl ?_
    refine WS.det rfl rfl rfl (det_assign rfl) rfl ?_
    refine N4 ?_
    refine CS.cond rfl (fun hc4 => ?_) (fun hc4 => ?_) <;> (try simp only [bq] at hc4)
    ·
     have hn := hM.ac hc4
     have hmv : moveX r z.x m = (setAll z.ths.l (nth r.acs.l m.n).se.l, putAll (-2 - m.p) (putAll (-1) z.prs.l (nth r.acs.l m.n).sp.l) (nth r.acs.l m.n).br.l, z.pls.l) := (if_neg hc1).trans ((if_neg hc2).trans ((if_neg hc3).trans (if_pos hc4)))
     have ha := hR.acs _ (nth_mem hn.1 hn.2)
     have hak : ActOk w (nth r.acs.l m.n) := hr.acs.at hn.1 hn.2
     have hsp := hak.sp.ints
     have hbr := hak.br.ints
     have kse := hak.se
     have lbr := ha.lbr
     have lsp := ha.lsp
     have lse := ha.lse
     refine N3 ?_
     refine WS.det rfl rfl rfl ((by first | exact det_fieldAddr rfl fo31_4 | exact det_fieldAddrS rfl fo31_4)) rfl ?_
     refine WS.det rfl rfl rfl (det_loadb (j := 7) rfl rfl rfl tk26) rfl ?_
     refine WS.det rfl rfl rfl ((by first | exact det_fieldAddr rfl fo52_2 | exact det_fieldAddrS rfl fo52_2)) rfl ?_
     refine WS.det rfl rfl rfl (det_loadb (j := 5) rfl rfl rfl tk3) rfl ?_
     refine WS.det rfl rfl rfl (det_idxU sl26 rfl rfl (by assumption) rfl (by omega) (by omega)) rfl ?_
     refine WS.det rfl rfl rfl ((by first | exact det_ldU rfl (by assumption) rfl ⟨(by omega), (by omega)⟩ rfl tk77)) rfl ?_
     refine WS.alloc zv77 (fun _ => rfl) ?_; intro b11 hb11
     first | refine WS.storeW (j := 0) rfl rfl rfl rfl (by first | (simp [Value.oneCell']; done) | ((repeat (refine List.forall_mem_cons.2 ⟨by first | rfl | assumption, ?_⟩)); exact fun _ h => absurd h List.not_mem_nil) | exact Cel.one _ w _ (by first | assumption | exact trivial)) tk77 rfl rfl ?_
     refine N4 ?_
     refine CS.seq ?_
     refine N3 ?_
     refine WS.det rfl rfl rfl (det_assign rfl) rfl ?_
     refine N4 ?_
     refine CS.block ?_
     refine CS.loopM (σ := Int) [76, 77, 78, 79, 80, 81, 82, 83, 84, 85, 86, 87, 88, 89, 90] (fun s => [(12, .int .i64 s)]) (fun s => [blk b11 (cAct.cells (nth r.acs.l m.n)) 77, blk b8 [va, vb, vc] 37, oints 3 va (z.ths.l), oints 3 vb (putAll (-1) z.prs.l ((nth r.acs.l m.n).sp.l.take s.toNat)), oints 3 vc z.pls.l, blk b6 [.slice none 0 0, .slice none 0 0, .slice none 0 0] 37, blk b5 [.int .i64 m.p, .int .i64 m.k, .int .i64 m.n] 52, blk b4 [z.ths.v, z.prs.v, z.pls.v] 37, blk b3 [r.pls.v, r.ths.v, r.prs.v, r.wys.v, r.acs.v, r.aus.v, .int .i64 r.ply, r.gl.v] 31]) (fun s => 0 ≤ s ∧ s ≤ (nth r.acs.l m.n).sp.l.length) (fun s => ((nth r.acs.l m.n).sp.l.length - s).toNat) 0 (fun _ _ => rfl) rfl rfl ⟨by omega, by omega⟩ ?_
     intro d t hs
     obtain ⟨hd1, hd2⟩ := hs
     refine CS.seq ?_
     refine N3 ?_
     refine WS.det rfl rfl rfl (det_move rfl) rfl ?_
     refine WS.det rfl rfl rfl ((by first | exact det_fieldAddr rfl fo77_6 | exact det_fieldAddrS rfl fo77_6)) rfl ?_
     refine WS.det rfl rfl rfl (det_loadb (j := 0) rfl rfl rfl tk35) rfl ?_
     refine WS.det rfl rfl rfl (det_lenS sl35 rfl (by assumption)) rfl ?_
     refine WS.det rfl rfl rfl (det_lt rfl rfl) rfl ?_
     refine N4 ?_
     refine CS.cond rfl (fun hc5 => ?_) (fun hc5 => ?_) <;> (try simp only [bq] at hc5)
     ·
      have hin := ha.sp _ (nth_mem hd1 (by omega))
      have hln := putAll_len (v := -1) (ps := (nth r.acs.l m.n).sp.l.take d.toNat) (l := z.prs.l)
      refine CS.skip ?_
      refine QS.then_code ?_
      refine CS.seq ?_
      refine CS.block ?_
      refine CS.drawnTill 8 (k := 9) mixed rfl rfl ?_
      refine AT.take 0 rfl (by kernel_rfl) (na := 9) (by kernel_rfl) rfl (by kernel_rfl) (by kernel_rfl) (by kernel_rfl) rfl rfl ((by first | exact det_fieldAddr rfl fo37_1 | exact det_fieldAddrS rfl fo37_1)) rfl rfl ?_
      refine AT.take 1 rfl (by kernel_rfl) (na := 9) (by kernel_rfl) rfl (by kernel_rfl) (by kernel_rfl) (by kernel_rfl) rfl rfl (det_loadb (j := 1) rfl rfl rfl tk35) rfl rfl ?_
      refine AT.take 2 rfl (by kernel_rfl) (na := 9) (by kernel_rfl) rfl (by kernel_rfl) (by kernel_rfl) (by kernel_rfl) rfl rfl ((by first | exact det_fieldAddr rfl fo77_6 | exact det_fieldAddrS rfl fo77_6)) rfl rfl ?_
      refine AT.take 3 rfl (by kernel_rfl) (na := 9) (by kernel_rfl) rfl (by kernel_rfl) (by kernel_rfl) (by kernel_rfl) rfl rfl (det_loadb (j := 0) rfl rfl rfl tk35) rfl rfl ?_
      refine AT.take 4 rfl (by kernel_rfl) (na := 9) (by kernel_rfl) rfl (by kernel_rfl) (by kernel_rfl) (by kernel_rfl) rfl rfl (det_move rfl) rfl rfl ?_
      refine AT.take 5 rfl (by kernel_rfl) (na := 9) (by kernel_rfl) rfl (by kernel_rfl) (by kernel_rfl) (by kernel_rfl) rfl rfl (det_idxI sl35 rfl rfl (by assumption) (by omega) (by omega)) rfl rfl ?_
      refine AT.take 6 rfl (by kernel_rfl) (na := 9) (by kernel_rfl) rfl (by kernel_rfl) (by kernel_rfl) (by kernel_rfl) rfl rfl (det_ldI rfl (by assumption) (by omega) tk3) rfl rfl ?_
      refine AT.take 7 rfl (by kernel_rfl) (na := 9) (by kernel_rfl) rfl (by kernel_rfl) (by kernel_rfl) (by kernel_rfl) rfl rfl (det_idxOI (j := 3) sl35 rfl rfl rfl (by omega) (by omega)) rfl rfl ?_
      refine AT.one (i := 8) (by kernel_rfl) rfl (by first | (intro h; exact absurd h (by decide)) | exact fun _ _ h => h | exact fun _ _ h => h.sub (by repeat first | exact List.Sublist.refl _ | apply List.Sublist.cons_cons | apply List.Sublist.cons)) rfl ?_
      refine WS.storeOI (j := 3) rfl rfl (by omega) rfl tk3 rfl ?_
      refine WS.done ?_
      refine QS.then_AT ?_
      refine AT.done (by kernel_rfl) (by first | (intro h; exact absurd h (by decide)) | exact fun _ _ h => h | exact fun _ _ h => h.sub (by repeat first | exact List.Sublist.refl _ | apply List.Sublist.cons_cons | apply List.Sublist.cons)) ?_
      refine QS.block_normal ?_
      refine QS.then_code ?_
      refine CS.region ?_
      refine WS.det rfl rfl rfl (det_move rfl) rfl ?_
      refine WS.det rfl rfl rfl (det_add rfl rfl (by omega)) rfl ?_
      refine WS.det rfl rfl rfl (det_assign rfl) rfl ?_
      refine WS.done ?_
      exact QS.head (d + 1) rfl (by simp only [putAll_snoc hd1 (by omega)]) ⟨⟨by omega, by omega⟩, by omega⟩
     ·
      have hta : (nth r.acs.l m.n).sp.l.take d.toNat = (nth r.acs.l m.n).sp.l := List.take_of_length_le (by omega)
      rw [hta]
      refine CS.leave ?_
      iterate 2 refine QS.then_exit ?_
      refine QS.block_exit ?_
      refine QS.then_code ?_
      refine CS.seq ?_
      refine N3 ?_
      refine WS.det rfl rfl rfl (det_assign rfl) rfl ?_
      refine N4 ?_
      refine CS.block ?_
      refine CS.loopM (σ := Int) [91, 92, 93, 94, 95, 96, 97, 98, 99, 100, 101, 102, 103, 104, 105, 106] (fun s => [(13, .int .i64 s)]) (fun s => [blk b11 (cAct.cells (nth r.acs.l m.n)) 77, blk b8 [va, vb, vc] 37, oints 3 va (z.ths.l), oints 3 vb (putAll (-2 - m.p) (putAll (-1) z.prs.l (nth r.acs.l m.n).sp.l) ((nth r.acs.l m.n).br.l.take s.toNat)), oints 3 vc z.pls.l, blk b6 [.slice none 0 0, .slice none 0 0, .slice none 0 0] 37, blk b5 [.int .i64 m.p, .int .i64 m.k, .int .i64 m.n] 52, blk b4 [z.ths.v, z.prs.v, z.pls.v] 37, blk b3 [r.pls.v, r.ths.v, r.prs.v, r.wys.v, r.acs.v, r.aus.v, .int .i64 r.ply, r.gl.v] 31]) (fun s => 0 ≤ s ∧ s ≤ (nth r.acs.l m.n).br.l.length) (fun s => ((nth r.acs.l m.n).br.l.length - s).toNat) 0 (fun _ _ => rfl) rfl rfl ⟨by omega, by omega⟩ ?_
      intro e t hs
      obtain ⟨he1, he2⟩ := hs
      refine CS.seq ?_
      refine N3 ?_
      refine WS.det rfl rfl rfl (det_move rfl) rfl ?_
      refine WS.det rfl rfl rfl ((by first | exact det_fieldAddr rfl fo77_7 | exact det_fieldAddrS rfl fo77_7)) rfl ?_
      refine WS.det rfl rfl rfl (det_loadb (j := 0) rfl rfl rfl tk35) rfl ?_
      refine WS.det rfl rfl rfl (det_lenS sl35 rfl (by assumption)) rfl ?_
      refine WS.det rfl rfl rfl (det_lt rfl rfl) rfl ?_
      refine N4 ?_
      refine CS.cond rfl (fun hc6 => ?_) (fun hc6 => ?_) <;> (try simp only [bq] at hc6)
      ·
       have hin := ha.br _ (nth_mem he1 (by omega))
       have hln := putAll_len (v := -1) (ps := (nth r.acs.l m.n).sp.l) (l := z.prs.l)
       have hln2 := putAll_len (v := -2 - m.p) (ps := (nth r.acs.l m.n).br.l.take e.toNat) (l := putAll (-1) z.prs.l (nth r.acs.l m.n).sp.l)
       refine CS.skip ?_
       refine QS.then_code ?_
       refine CS.seq ?_
       refine CS.block ?_
       refine CS.drawnTill 9 (k := 10) mixed rfl rfl ?_
       refine AT.take 0 rfl (by kernel_rfl) (na := 10) (by kernel_rfl) rfl (by kernel_rfl) (by kernel_rfl) (by kernel_rfl) rfl rfl ((by first | exact det_fieldAddr rfl fo37_1 | exact det_fieldAddrS rfl fo37_1)) rfl rfl ?_
       refine AT.take 1 rfl (by kernel_rfl) (na := 10) (by kernel_rfl) rfl (by kernel_rfl) (by kernel_rfl) (by kernel_rfl) rfl rfl (det_loadb (j := 1) rfl rfl rfl tk35) rfl rfl ?_
       refine AT.take 2 rfl (by kernel_rfl) (na := 10) (by kernel_rfl) rfl (by kernel_rfl) (by kernel_rfl) (by kernel_rfl) rfl rfl ((by first | exact det_fieldAddr rfl fo77_7 | exact det_fieldAddrS rfl fo77_7)) rfl rfl ?_
       refine AT.take 3 rfl (by kernel_rfl) (na := 10) (by kernel_rfl) rfl (by kernel_rfl) (by kernel_rfl) (by kernel_rfl) rfl rfl (det_loadb (j := 0) rfl rfl rfl tk35) rfl rfl ?_
       refine AT.take 4 rfl (by kernel_rfl) (na := 10) (by kernel_rfl) rfl (by kernel_rfl) (by kernel_rfl) (by kernel_rfl) rfl rfl (det_move rfl) rfl rfl ?_
       refine AT.take 5 rfl (by kernel_rfl) (na := 10) (by kernel_rfl) rfl (by kernel_rfl) (by kernel_rfl) (by kernel_rfl) rfl rfl (det_idxI sl35 rfl rfl (by assumption) (by omega) (by omega)) rfl rfl ?_
       refine AT.take 6 rfl (by kernel_rfl) (na := 10) (by kernel_rfl) rfl (by kernel_rfl) (by kernel_rfl) (by kernel_rfl) rfl rfl (det_ldI rfl (by assumption) (by omega) tk3) rfl rfl ?_
       refine AT.take 7 rfl (by kernel_rfl) (na := 10) (by kernel_rfl) rfl (by kernel_rfl) (by kernel_rfl) (by kernel_rfl) rfl rfl (det_move rfl) rfl rfl ?_
       refine AT.take 8 rfl (by kernel_rfl) (na := 10) (by kernel_rfl) rfl (by kernel_rfl) (by kernel_rfl) (by kernel_rfl) rfl rfl (det_idxOI (j := 3) sl35 rfl rfl rfl (by omega) (by omega)) rfl rfl ?_
       refine AT.one (i := 9) (by kernel_rfl) rfl (by first | (intro h; exact absurd h (by decide)) | exact fun _ _ h => h | exact fun _ _ h => h.sub (by repeat first | exact List.Sublist.refl _ | apply List.Sublist.cons_cons | apply List.Sublist.cons)) rfl ?_
       refine WS.storeOI (j := 3) rfl rfl (by omega) rfl tk3 rfl ?_
       refine WS.done ?_
       refine QS.then_AT ?_
       refine AT.done (by kernel_rfl) (by first | (intro h; exact absurd h (by decide)) | exact fun _ _ h => h | exact fun _ _ h => h.sub (by repeat first | exact List.Sublist.refl _ | apply List.Sublist.cons_cons | apply List.Sublist.cons)) ?_
       refine QS.block_normal ?_
       refine QS.then_code ?_
       refine CS.region ?_
       refine WS.det rfl rfl rfl (det_move rfl) rfl ?_
       refine WS.det rfl rfl rfl (det_add rfl rfl (by omega)) rfl ?_
       refine WS.det rfl rfl rfl (det_assign rfl) rfl ?_
       refine WS.done ?_
       exact QS.head (e + 1) rfl (by simp only [putAll_snoc he1 (by omega)]) ⟨⟨by omega, by omega⟩, by omega⟩
      ·
       have hta : (nth r.acs.l m.n).br.l.take e.toNat = (nth r.acs.l m.n).br.l := List.take_of_length_le (by omega)
       rw [hta]
       refine CS.leave ?_
       iterate 2 refine QS.then_exit ?_
       refine QS.block_exit ?_
       refine QS.then_code ?_
       refine N3 ?_
       refine WS.det rfl rfl rfl (det_assign rfl) rfl ?_
       refine N4 ?_
       refine CS.block ?_
       refine CS.loopM (σ := Int) [107, 108, 109, 110, 111, 112, 113, 114, 115, 116, 117, 118, 119, 120, 121, 122, 123, 124, 125, 126, 127, 128] (fun s => [(14, .int .i64 s)]) (fun s => [blk b11 (cAct.cells (nth r.acs.l m.n)) 77, blk b8 [va, vb, vc] 37, oints 3 va (setAll z.ths.l ((nth r.acs.l m.n).se.l.take s.toNat)), oints 3 vb (putAll (-2 - m.p) (putAll (-1) z.prs.l (nth r.acs.l m.n).sp.l) (nth r.acs.l m.n).br.l), oints 3 vc z.pls.l, blk b6 [.slice none 0 0, .slice none 0 0, .slice none 0 0] 37, blk b5 [.int .i64 m.p, .int .i64 m.k, .int .i64 m.n] 52, blk b4 [z.ths.v, z.prs.v, z.pls.v] 37, blk b3 [r.pls.v, r.ths.v, r.prs.v, r.wys.v, r.acs.v, r.aus.v, .int .i64 r.ply, r.gl.v] 31]) (fun s => 0 ≤ s ∧ s ≤ (nth r.acs.l m.n).se.l.length) (fun s => ((nth r.acs.l m.n).se.l.length - s).toNat) 0 (fun _ _ => rfl) rfl rfl ⟨by omega, by omega⟩ ?_
       intro g t hs
       obtain ⟨hg1, hg2⟩ := hs
       refine CS.seq ?_
       refine N3 ?_
       refine WS.det rfl rfl rfl (det_move rfl) rfl ?_
       refine WS.det rfl rfl rfl ((by first | exact det_fieldAddr rfl fo77_5 | exact det_fieldAddrS rfl fo77_5)) rfl ?_
       refine WS.det rfl rfl rfl (det_loadb (j := 0) rfl rfl rfl tk75) rfl ?_
       refine WS.det rfl rfl rfl (det_lenU sl75 rfl (by assumption)) rfl ?_
       refine WS.det rfl rfl rfl (det_lt rfl rfl) rfl ?_
       refine N4 ?_
       refine CS.cond rfl (fun hc7 => ?_) (fun hc7 => ?_) <;> (try simp only [bq] at hc7)
       ·
        have hin := putB_t (ha.se _ (nth_mem hg1 (by omega)))
        have hln := setAll_len (ss := (nth r.acs.l m.n).se.l.take g.toNat) (l := z.ths.l)
        refine CS.skip ?_
        refine QS.then_code ?_
        refine CS.seq ?_
        refine CS.block ?_
        refine CS.drawnTill 15 (k := 16) mixed rfl rfl ?_
        refine AT.take 0 rfl (by kernel_rfl) (na := 16) (by kernel_rfl) rfl (by kernel_rfl) (by kernel_rfl) (by kernel_rfl) rfl rfl ((by first | exact det_fieldAddr rfl fo37_0 | exact det_fieldAddrS rfl fo37_0)) rfl rfl ?_
        refine AT.take 1 rfl (by kernel_rfl) (na := 16) (by kernel_rfl) rfl (by kernel_rfl) (by kernel_rfl) (by kernel_rfl) rfl rfl (det_loadb (j := 1) rfl rfl rfl tk35) rfl rfl ?_
        refine AT.take 2 rfl (by kernel_rfl) (na := 16) (by kernel_rfl) rfl (by kernel_rfl) (by kernel_rfl) (by kernel_rfl) rfl rfl ((by first | exact det_fieldAddr rfl fo77_5 | exact det_fieldAddrS rfl fo77_5)) rfl rfl ?_
        refine AT.take 3 rfl (by kernel_rfl) (na := 16) (by kernel_rfl) rfl (by kernel_rfl) (by kernel_rfl) (by kernel_rfl) rfl rfl (det_loadb (j := 0) rfl rfl rfl tk75) rfl rfl ?_
        refine AT.take 4 rfl (by kernel_rfl) (na := 16) (by kernel_rfl) rfl (by kernel_rfl) (by kernel_rfl) (by kernel_rfl) rfl rfl (det_move rfl) rfl rfl ?_
        refine AT.take 5 rfl (by kernel_rfl) (na := 16) (by kernel_rfl) rfl (by kernel_rfl) (by kernel_rfl) (by kernel_rfl) rfl rfl (det_idxU sl75 rfl rfl (by assumption) rfl (by omega) (by omega)) rfl rfl ?_
        refine AT.take 6 rfl (by kernel_rfl) (na := 16) (by kernel_rfl) rfl (by kernel_rfl) (by kernel_rfl) (by kernel_rfl) rfl rfl ((by first | exact det_fieldAddr rfl fo79_0 | exact det_fieldAddrS rfl fo79_0)) rfl rfl ?_
        refine AT.take 7 rfl (by kernel_rfl) (na := 16) (by kernel_rfl) rfl (by kernel_rfl) (by kernel_rfl) (by kernel_rfl) rfl rfl ((by first | exact det_ldUc 2 0 rfl (by assumption) rfl ⟨(by omega), (by omega)⟩ (by decide) rfl tk3)) rfl rfl ?_
        refine AT.take 8 rfl (by kernel_rfl) (na := 16) (by kernel_rfl) rfl (by kernel_rfl) (by kernel_rfl) (by kernel_rfl) rfl rfl ((by first | exact det_fieldAddr rfl fo77_5 | exact det_fieldAddrS rfl fo77_5)) rfl rfl ?_
        refine AT.take 9 rfl (by kernel_rfl) (na := 16) (by kernel_rfl) rfl (by kernel_rfl) (by kernel_rfl) (by kernel_rfl) rfl rfl (det_loadb (j := 0) rfl rfl rfl tk75) rfl rfl ?_
        refine AT.take 10 rfl (by kernel_rfl) (na := 16) (by kernel_rfl) rfl (by kernel_rfl) (by kernel_rfl) (by kernel_rfl) rfl rfl (det_move rfl) rfl rfl ?_
        refine AT.take 11 rfl (by kernel_rfl) (na := 16) (by kernel_rfl) rfl (by kernel_rfl) (by kernel_rfl) (by kernel_rfl) rfl rfl (det_idxU sl75 rfl rfl (by assumption) rfl (by omega) (by omega)) rfl rfl ?_
        refine AT.take 12 rfl (by kernel_rfl) (na := 16) (by kernel_rfl) rfl (by kernel_rfl) (by kernel_rfl) (by kernel_rfl) rfl rfl ((by first | exact det_fieldAddr rfl fo79_1 | exact det_fieldAddrS rfl fo79_1)) rfl rfl ?_
        refine AT.take 13 rfl (by kernel_rfl) (na := 16) (by kernel_rfl) rfl (by kernel_rfl) (by kernel_rfl) (by kernel_rfl) rfl rfl ((by first | exact det_ldUc 2 1 rfl (by assumption) rfl ⟨(by omega), (by omega)⟩ (by decide) rfl tk3)) rfl rfl ?_
        refine AT.take 14 rfl (by kernel_rfl) (na := 16) (by kernel_rfl) rfl (by kernel_rfl) (by kernel_rfl) (by kernel_rfl) rfl rfl (det_idxOI (j := 2) sl35 rfl rfl rfl (by omega) (by omega)) rfl rfl ?_
        refine AT.one (i := 15) (by kernel_rfl) rfl (by first | (intro h; exact absurd h (by decide)) | exact fun _ _ h => h | exact fun _ _ h => h.sub (by repeat first | exact List.Sublist.refl _ | apply List.Sublist.cons_cons | apply List.Sublist.cons)) rfl ?_
        refine WS.storeOI (j := 2) rfl rfl (by omega) rfl tk3 rfl ?_
        refine WS.done ?_
        refine QS.then_AT ?_
        refine AT.done (by kernel_rfl) (by first | (intro h; exact absurd h (by decide)) | exact fun _ _ h => h | exact fun _ _ h => h.sub (by repeat first | exact List.Sublist.refl _ | apply List.Sublist.cons_cons | apply List.Sublist.cons)) ?_
        refine QS.block_normal ?_
        refine QS.then_code ?_
        refine CS.region ?_
        refine WS.det rfl rfl rfl (det_move rfl) rfl ?_
        refine WS.det rfl rfl rfl (det_add rfl rfl (by omega)) rfl ?_
        refine WS.det rfl rfl rfl (det_assign rfl) rfl ?_
        refine WS.done ?_
        exact QS.head (g + 1) rfl (by simp only [setAll_snoc hg1 (by omega)]) ⟨⟨by omega, by omega⟩, by omega⟩
       ·
        have hta : (nth r.acs.l m.n).se.l.take g.toNat = (nth r.acs.l m.n).se.l := List.take_of_length_le (by omega)
        rw [hta]
        refine CS.leave ?_
        iterate 2 refine QS.then_exit ?_
        refine QS.block_exit ?_
        refine QS.block_normal ?_
        refine QS.then_code ?_
        refine N3 ?_
        refine WS.det rfl rfl rfl (det_loadb0 (j := 8) rfl rfl tk31) rfl ?_
        refine WS.det rfl rfl rfl (det_loadb0 (j := 1) rfl rfl tk37) rfl ?_
        refine WS.callF rfl rfl ent73 (fun u hu => Rsettle_c r u (hr.st hu) ⟨⟨va, _⟩, ⟨vb, _⟩, ⟨vc, _⟩⟩ ⟨(oints_SlI hu (j := 2) rfl).tree, (oints_SlI hu (j := 3) rfl).tree, (oints_SlI hu (j := 4) rfl).tree⟩ (by simpa only [List.length_set, setAll_len, putAll_len] using hsm) (by simpa only [List.length_set, setAll_len, putAll_len] using hau)) (fun _ => rfl) ?_; rintro y ⟨hyx, uy, hyok⟩
        obtain ⟨hya, hyb, hyc⟩ := hyok.ones
        refine WS.det rfl rfl rfl (det_extract rfl rfl) rfl ?_
        refine WS.det rfl rfl rfl (det_extract rfl rfl) rfl ?_
        first | refine WS.storeW (j := 6) rfl rfl rfl rfl (by first | (simp [Value.oneCell']; done) | ((repeat (refine List.forall_mem_cons.2 ⟨by first | rfl | assumption, ?_⟩)); exact fun _ h => absurd h List.not_mem_nil) | exact Cel.one _ w _ (by first | assumption | exact trivial)) tk37 rfl rfl ?_
        refine WS.det rfl rfl rfl (det_assign rfl) rfl ?_
        refine N4 ?_
        refine CS.ret ?_
        exact outR (resct rfl (cell_rvN (j := 6) rfl rfl tk37) rfl) (by
          rw [hmv]
          exact fun u hu => retSr (f := fun v => .tuple #[v, .bool (settleV r _).isSome]) (j := 0) rfl hyx hu)
    ·
     have hmv : moveX r z.x m = (z.ths.l, z.prs.l, z.pls.l) := (if_neg hc1).trans ((if_neg hc2).trans ((if_neg hc3).trans (if_neg hc4)))
     refine CS.skip ?_
     refine QS.block_normal ?_
     refine QS.then_code ?_
     refine N3 ?_
     refine WS.det rfl rfl rfl (det_loadb0 (j := 7) rfl rfl tk31) rfl ?_
     refine WS.det rfl rfl rfl (det_loadb0 (j := 0) rfl rfl tk37) rfl ?_
     refine WS.callF rfl rfl ent73 (fun u hu => Rsettle_c r u (hr.st hu) ⟨⟨va, _⟩, ⟨vb, _⟩, ⟨vc, _⟩⟩ ⟨(oints_SlI hu (j := 1) rfl).tree, (oints_SlI hu (j := 2) rfl).tree, (oints_SlI hu (j := 3) rfl).tree⟩ (by simpa only [List.length_set, setAll_len, putAll_len] using hsm) (by simpa only [List.length_set, setAll_len, putAll_len] using hau)) (fun _ => rfl) ?_; rintro y ⟨hyx, uy, hyok⟩
     obtain ⟨hya, hyb, hyc⟩ := hyok.ones
     refine WS.det rfl rfl rfl (det_extract rfl rfl) rfl ?_
     refine WS.det rfl rfl rfl (det_extract rfl rfl) rfl ?_
     first | refine WS.storeW (j := 5) rfl rfl rfl rfl (by first | (simp [Value.oneCell']; done) | ((repeat (refine List.forall_mem_cons.2 ⟨by first | rfl | assumption, ?_⟩)); exact fun _ h => absurd h List.not_mem_nil) | exact Cel.one _ w _ (by first | assumption | exact trivial)) tk37 rfl rfl ?_
     refine WS.det rfl rfl rfl (det_assign rfl) rfl ?_
     refine N4 ?_
     refine CS.ret ?_
     exact outR (resct rfl (cell_rvN (j := 5) rfl rfl tk37) rfl) (by
       rw [hmv]
       exact fun u hu => retSr (f := fun v => .tuple #[v, .bool (settleV r _).isSome]) (j := 0) rfl hyx hu)
end Go.Proofs.YtgbofmnbakfalaaDoor
namespace Go.Proofs.YtgbofmnbakfalaaDoor
open Go.RowKit Go.Proofs
set_option maxRecDepth 100000
set_option linter.unusedVariables false
set_option linter.unusedSimpArgs false
set_option maxHeartbeats 1000000 in
theorem RLegalMoves_c (r : Room) (w : World) (hr : RoomOk w r) (z : Stt) (hz : SttOk w z) (hR : Ready r) (hI : StIn r z.x) :
  Calls Tryd.prog 69 #[.agg #[r.pls.v, r.ths.v, r.prs.v, r.wys.v, r.acs.v, r.aus.v, .int .i64 r.ply, r.gl.v], .agg #[z.ths.v, z.prs.v, z.pls.v]] w (RetM w (legalL r z.x) fun v => v) := by
 have hply := hR.ply
 refine enter Tryd.func69 rfl rfl (Nat.le_of_ble_eq_true rfl) ?_
 refine N3 ?_
 refine WS.box rfl rfl (fun _ => rfl) ?_; intro b2 hb2
 refine WS.box rfl rfl (fun _ => rfl) ?_; intro b3 hb3
 refine WS.det rfl rfl rfl (det_assign rfl) rfl ?_
 refine N1 ?_
 refine WS.det rfl rfl rfl (det_assign rfl) rfl ?_
 refine N4 ?_
 refine CS.seq ?_
 refine N3 ?_
 refine WS.det rfl rfl rfl (det_assign rfl) rfl ?_
 refine N4 ?_
 refine CS.block ?_
 refine CS.weak (fun _ hu => hu.osl0 (e := 52) (size := 3)) ?_
 refine CS.loopM (σ := Int × Value) [7, 8, 9, 10, 11, 12, 13, 14, 15, 16, 17, 18, 19, 20, 21, 22, 23, 24, 25, 26, 27, 28, 29, 30, 31, 32, 33, 34, 35] (fun s => [(6, .int .i64 s.1), (5, s.2)]) (fun s => [oT cMove 52 s.2 (soFar r z.x s.1 1 0), blk b3 [z.ths.v, z.prs.v, z.pls.v] 37, blk b2 [r.pls.v, r.ths.v, r.prs.v, r.wys.v, r.acs.v, r.aus.v, .int .i64 r.ply, r.gl.v] 31]) (fun s => 0 ≤ s.1 ∧ s.1 ≤ r.ply) (fun s => (r.ply - s.1).toNat) (0, .slice none 0 0) (fun _ _ => rfl) rfl rfl ⟨by simp, by simp; omega⟩ ?_
 intro p t hs
 obtain ⟨hp1, hp2⟩ := hs
 refine CS.seq ?_
 refine N3 ?_
 refine WS.det rfl rfl rfl (det_move rfl) rfl ?_
 refine WS.det rfl rfl rfl ((by first | exact det_fieldAddr rfl fo31_6 | exact det_fieldAddrS rfl fo31_6)) rfl ?_
 refine WS.det rfl rfl rfl (det_loadb (j := 2) rfl rfl rfl tk3) rfl ?_
 refine WS.det rfl rfl rfl (det_lt rfl rfl) rfl ?_
 refine N4 ?_
 refine CS.cond rfl (fun hc1 => ?_) (fun hc1 => ?_) <;> (try simp only [bq] at hc1)
 ·
  refine CS.skip ?_
  refine QS.then_code ?_
  refine CS.seq ?_
  refine CS.block ?_
  refine N3 ?_
  refine WS.det rfl rfl rfl (det_assign rfl) rfl ?_
  refine N4 ?_
  refine CS.block ?_
  refine CS.loopM (σ := Int × Value) [8, 9, 16, 17, 18, 19, 20, 21, 22, 23, 24, 25, 26, 27, 28, 29, 30, 31, 32, 33, 34, 35] (fun s => [(7, .int .i64 s.1), (5, s.2)]) (fun s => [oT cMove 52 s.2 (soFar r z.x p.1 s.1 0), blk b3 [z.ths.v, z.prs.v, z.pls.v] 37, blk b2 [r.pls.v, r.ths.v, r.prs.v, r.wys.v, r.acs.v, r.aus.v, .int .i64 r.ply, r.gl.v] 31]) (fun s => 1 ≤ s.1 ∧ s.1 ≤ 5) (fun s => (5 - s.1).toNat) (1, p.2) (fun _ _ => rfl) rfl rfl ⟨by simp, by simp⟩ ?_
  intro k t hs
  obtain ⟨hk1, hk2⟩ := hs
  refine CS.seq ?_
  refine N3 ?_
  refine WS.det rfl rfl rfl (det_move rfl) rfl ?_
  refine WS.det rfl rfl rfl (det_le rfl rfl) rfl ?_
  refine N4 ?_
  refine CS.cond rfl (fun hc2 => ?_) (fun hc2 => ?_) <;> (try simp only [bq] at hc2)
  ·
   refine CS.skip ?_
   refine QS.then_code ?_
   refine CS.seq ?_
   refine CS.block ?_
   refine N3 ?_
   refine WS.det rfl rfl rfl (det_assign rfl) rfl ?_
   refine N4 ?_
   refine CS.block ?_
   refine CS.loopM (σ := Int × Value) [9, 20, 21, 22, 23, 24, 25, 26, 27, 28, 29, 30, 31, 32, 33, 34, 35] (fun s => [(8, .int .i64 s.1), (5, s.2)]) (fun s => [oT cMove 52 s.2 (soFar r z.x p.1 k.1 s.1), blk b3 [z.ths.v, z.prs.v, z.pls.v] 37, blk b2 [r.pls.v, r.ths.v, r.prs.v, r.wys.v, r.acs.v, r.aus.v, .int .i64 r.ply, r.gl.v] 31]) (fun s => 0 ≤ s.1 ∧ s.1 ≤ 24) (fun s => (24 - s.1).toNat) (0, k.2) (fun _ _ => rfl) rfl rfl ⟨by simp, by simp⟩ ?_
   intro n t hs
   obtain ⟨hn1, hn2⟩ := hs
   have hln := soFar_len (r := r) (x := z.x) (p := p.1) (k := k.1) (n := n.1) (by omega) (by omega) (by omega)
   refine CS.seq ?_
   refine N3 ?_
   refine WS.det rfl rfl rfl (det_move rfl) rfl ?_
   refine WS.det rfl rfl rfl (det_lt rfl rfl) rfl ?_
   refine N4 ?_
   refine CS.cond rfl (fun hc3 => ?_) (fun hc3 => ?_) <;> (try simp only [bq] at hc3)
   ·
    refine CS.skip ?_
    refine QS.then_code ?_
    refine CS.seq ?_
    refine CS.block ?_
    refine N3 ?_
    refine WS.det rfl rfl rfl (det_move rfl) rfl ?_
    refine WS.det rfl rfl rfl (det_move rfl) rfl ?_
    refine WS.det rfl rfl rfl (det_move rfl) rfl ?_
    refine WS.det rfl rfl rfl ((det_build1 plc52 zv52 rfl rfl (by first | (simp [Value.oneCell']; done) | ((repeat (refine List.forall_mem_cons.2 ⟨by first | rfl | assumption, ?_⟩)); exact fun _ h => absurd h List.not_mem_nil)))) rfl ?_
    refine WS.alloc zv52 (fun _ => rfl) ?_; intro b9 hb9
    first | refine WS.storeW (j := 0) rfl rfl rfl rfl (by first | (simp [Value.oneCell']; done) | ((repeat (refine List.forall_mem_cons.2 ⟨by first | rfl | assumption, ?_⟩)); exact fun _ h => absurd h List.not_mem_nil) | exact Cel.one _ w _ (by first | assumption | exact trivial)) tk52 rfl rfl ?_
    refine N1 ?_
    refine WS.det rfl rfl rfl (det_loadb0 (j := 3) rfl rfl tk31) rfl ?_
    refine WS.det rfl rfl rfl (det_loadb0 (j := 2) rfl rfl tk37) rfl ?_
    refine WS.det rfl rfl rfl (det_loadb0 (j := 0) rfl rfl tk52) rfl ?_
    refine WS.det rfl rfl rfl (det_callB rfl rfl ent71 (fun u hu => Rlegal_c r u (hr.st hu) z (hz.st hu) hR hI ⟨p.1, k.1, n.1⟩)) rfl ?_
    refine N4 ?_
    refine CS.cond rfl (fun hc4 => ?_) (fun hc4 => ?_) <;> (try simp only [bq] at hc4)
    ·
     refine CS.region ?_
     refine WS.det rfl rfl rfl (det_move rfl) rfl ?_
     refine WS.det rfl rfl rfl (det_loadb0 (j := 0) rfl rfl tk52) rfl ?_
     refine WS.buildT1 cMove (a := ⟨p.1, k.1, n.1⟩) sl45 zv52 rfl (by decide) (fun _ => rfl) ?_; intro v34
     refine WS.appendT1 (j := 2) (jz := 0) sl45 zv52 rfl (by decide) rfl rfl rfl rfl (w := w) trivial (by omega) (by omega) (fun _ => rfl) (fun _ => rfl) ?_; intro v35 hv35
     refine WS.det rfl rfl rfl (det_assign rfl) rfl ?_
     refine WS.done ?_
     refine QS.block_normal ?_
     refine QS.then_code ?_
     refine CS.region ?_
     refine WS.det rfl rfl rfl (det_move rfl) rfl ?_
     refine WS.det rfl rfl rfl (det_add rfl rfl (by omega)) rfl ?_
     refine WS.det rfl rfl rfl (det_assign rfl) rfl ?_
     refine WS.done ?_
     refine QS.sel [2, 2, 2] rfl ?_
     exact QS.head ((n.1 + 1, v35)) rfl (by first | simp only [soFar_yes hn1 hc4] | simp only [← soFar_no hn1 hc4]) ⟨⟨by simp; omega, by simp; omega⟩, by simp; omega⟩
    ·
     refine CS.skip ?_
     refine QS.block_normal ?_
     refine QS.then_code ?_
     refine CS.region ?_
     refine WS.det rfl rfl rfl (det_move rfl) rfl ?_
     refine WS.det rfl rfl rfl (det_add rfl rfl (by omega)) rfl ?_
     refine WS.det rfl rfl rfl (det_assign rfl) rfl ?_
     refine WS.done ?_
     refine QS.sel [1, 1, 1] rfl ?_
     exact QS.head ((n.1 + 1, n.2)) rfl (by first | simp only [soFar_yes hn1 hc4] | simp only [← soFar_no hn1 hc4]) ⟨⟨by simp; omega, by simp; omega⟩, by simp; omega⟩
   ·
    refine CS.leave ?_
    iterate 2 refine QS.then_exit ?_
    refine QS.block_exit ?_
    refine QS.block_normal ?_
    refine QS.then_code ?_
    refine CS.region ?_
    refine WS.det rfl rfl rfl (det_move rfl) rfl ?_
    refine WS.det rfl rfl rfl (det_add rfl rfl (by omega)) rfl ?_
    refine WS.det rfl rfl rfl (det_assign rfl) rfl ?_
    refine WS.done ?_
    exact QS.head ((k.1 + 1, n.2)) rfl (by simp only [← soFar_k hk1, show n.1 = 24 by omega]) ⟨⟨by simp; omega, by simp; omega⟩, by simp; omega⟩
  ·
   refine CS.leave ?_
   iterate 2 refine QS.then_exit ?_
   refine QS.block_exit ?_
   refine QS.block_normal ?_
   refine QS.then_code ?_
   refine CS.region ?_
   refine WS.det rfl rfl rfl (det_move rfl) rfl ?_
   refine WS.det rfl rfl rfl (det_add rfl rfl (by omega)) rfl ?_
   refine WS.det rfl rfl rfl (det_assign rfl) rfl ?_
   refine WS.done ?_
   exact QS.head ((p.1 + 1, k.2)) rfl (by simp only [← soFar_p hp1, show k.1 = 5 by omega]) ⟨⟨by simp; omega, by simp; omega⟩, by simp; omega⟩
 ·
  refine CS.leave ?_
  iterate 2 refine QS.then_exit ?_
  refine QS.block_exit ?_
  refine QS.then_code ?_
  refine N3 ?_
  refine WS.det rfl rfl rfl (det_move rfl) rfl ?_
  refine WS.det rfl rfl rfl (det_assign rfl) rfl ?_
  refine N4 ?_
  refine CS.ret ?_
  have hpe : p.1 = r.ply := by omega
  exact out1 rfl rfl (by
    rw [show legalL r z.x = soFar r z.x p.1 1 0 by rw [soFar_0, hpe]; rfl]
    exact fun u hu => retM (f := fun v => v) (j := 0) rfl hu)
theorem RLegal_c (r : Room) (w : World) (hr : RoomOk w r) (hn : Near r) (z : Stt) (hz : SttOk w z) :
  Calls Tryd.prog 24 #[.agg #[r.pls.v, r.ths.v, r.prs.v, r.wys.v, r.acs.v, r.aus.v, .int .i64 r.ply, r.gl.v], .agg #[z.ths.v, z.prs.v, z.pls.v]] w (RetM w (LegalV r z.x).2 fun v => .tuple #[v, .int .i64 (LegalV r z.x).1]) := by
 refine enter Tryd.func24 rfl rfl (Nat.le_of_ble_eq_true rfl) ?_
 refine N3 ?_
 refine WS.box rfl rfl (fun _ => rfl) ?_; intro b2 hb2
 refine WS.box rfl rfl (fun _ => rfl) ?_; intro b3 hb3
 refine WS.det rfl rfl rfl (det_assign rfl) rfl ?_
 refine WS.det rfl rfl rfl (det_assign rfl) rfl ?_
 refine N1 ?_
 refine WS.det rfl rfl rfl (det_loadb0 (j := 1) rfl rfl tk31) rfl ?_
 refine WS.det rfl rfl rfl (det_loadb0 (j := 0) rfl rfl tk37) rfl ?_
 refine WS.det rfl rfl rfl (det_callB rfl rfl ent30 (fun u hu => RCheckState_c r u (hr.st hu) hn z (hz.st hu))) rfl ?_
 refine WS.det rfl rfl rfl (det_assign rfl) rfl ?_
 refine N4 ?_
 refine CS.seq ?_
 refine N3 ?_
 refine WS.det rfl rfl rfl (det_move rfl) rfl ?_
 refine WS.det rfl rfl rfl (det_ne rfl rfl) rfl ?_
 refine N4 ?_
 refine CS.cond rfl (fun hc1 => ?_) (fun hc1 => ?_) <;> (try simp only [bq] at hc1)
 ·
  have hS : ¬ stL r z.x = 0 := hc1
  refine N3 ?_
  refine WS.det rfl rfl rfl (det_move rfl) rfl ?_
  refine WS.det rfl rfl rfl (det_assign rfl) rfl ?_
  refine WS.det rfl rfl rfl (det_assign rfl) rfl ?_
  refine N4 ?_
  refine CS.ret ?_
  refine QS.then_ret ?_
  exact out2 rfl rfl rfl (by
    have hv : LegalV r z.x = (stL r z.x, []) := if_neg hS
    rw [hv]
    exact fun u hu => retM0 (f := fun v => .tuple #[v, .int .i64 (stL r z.x)]) hu)
 ·
  have hc1 : stateE r z = 0 := hc1
  have hc1 : stL r z.x = 0 := hc1
  have hS : stL r z.x = 0 := by omega
  obtain ⟨hC, hI⟩ := stL_in.1 hS
  have hR := ready_of hC
  have hlen := hR.lens
  have hply := hR.ply
  have hlt : z.ths.l.length = r.ths.l.length := hI.lt
  have hlp : z.prs.l.length = r.prs.l.length := hI.lp
  have hll : (z.pls.l.length : Int) = r.ply := hI.ll
  refine CS.skip ?_
  refine QS.then_code ?_
  refine N3 ?_
  refine WS.det rfl rfl rfl (det_loadb0 (j := 1) rfl rfl tk31) rfl ?_
  refine WS.det rfl rfl rfl (det_loadb0 (j := 0) rfl rfl tk37) rfl ?_
  refine WS.callF rfl rfl ent69 (fun u hu => RLegalMoves_c r u (hr.st hu) z (hz.st hu) hR hI) (fun _ => rfl) ?_; rintro y ⟨uy, hy⟩
  refine WS.det rfl rfl rfl (det_assign rfl) rfl ?_
  refine WS.det rfl rfl rfl (det_assign rfl) rfl ?_
  refine N4 ?_
  refine CS.ret ?_
  exact out2 rfl rfl rfl (by
    have hv : LegalV r z.x = (0, legalL r z.x) := if_pos hS
    rw [hv]
    exact fun u hu => retMr (f := fun v => .tuple #[v, .int .i64 0]) (j := 0) rfl hu)
set_option maxHeartbeats 1000000 in
theorem RStep_c (r : Room) (w : World) (hr : RoomOk w r) (hn : Near r) (z : Stt) (hz : SttOk w z) (m : Move) :
  Calls Tryd.prog 27 #[.agg #[r.pls.v, r.ths.v, r.prs.v, r.wys.v, r.acs.v, r.aus.v, .int .i64 r.ply, r.gl.v], .agg #[z.ths.v, z.prs.v, z.pls.v], .agg #[.int .i64 m.p, .int .i64 m.k, .int .i64 m.n]] w (RetS w (StepV r z.x m).2 fun v => .tuple #[v, .int .i64 (StepV r z.x m).1]) := by
 refine enter Tryd.func27 rfl rfl (Nat.le_of_ble_eq_true rfl) ?_
 refine N3 ?_
 refine WS.box rfl rfl (fun _ => rfl) ?_; intro b3 hb3
 refine WS.box rfl rfl (fun _ => rfl) ?_; intro b4 hb4
 refine WS.box rfl rfl (fun _ => rfl) ?_; intro b5 hb5
 refine WS.alloc zv37 (fun _ => rfl) ?_; intro b6 hb6
 refine WS.det rfl rfl rfl (det_assign rfl) rfl ?_
 refine N1 ?_
 refine WS.det rfl rfl rfl (det_loadb0 (j := 3) rfl rfl tk31) rfl ?_
 refine WS.det rfl rfl rfl (det_loadb0 (j := 2) rfl rfl tk37) rfl ?_
 refine WS.det rfl rfl rfl (det_callB rfl rfl ent30 (fun u hu => RCheckState_c r u (hr.st hu) hn z (hz.st hu))) rfl ?_
 refine WS.det rfl rfl rfl (det_assign rfl) rfl ?_
 refine N4 ?_
 refine CS.seq ?_
 refine N3 ?_
 refine WS.det rfl rfl rfl (det_move rfl) rfl ?_
 refine WS.det rfl rfl rfl (det_ne rfl rfl) rfl ?_
 refine N4 ?_
 refine CS.cond rfl (fun hc1 => ?_) (fun hc1 => ?_) <;> (try simp only [bq] at hc1)
 ·
  have hS : ¬ stL r z.x = 0 := hc1
  refine N3 ?_
  refine WS.det rfl rfl rfl ((det_build1 plc37 zv37 rfl rfl (by first | (simp [Value.oneCell']; done) | ((repeat (refine List.forall_mem_cons.2 ⟨by first | rfl | assumption, ?_⟩)); exact fun _ h => absurd h List.not_mem_nil)))) rfl ?_
  refine WS.det rfl rfl rfl (det_move rfl) rfl ?_
  first | refine WS.storeW (j := 0) rfl rfl rfl rfl (by first | (simp [Value.oneCell']; done) | ((repeat (refine List.forall_mem_cons.2 ⟨by first | rfl | assumption, ?_⟩)); exact fun _ h => absurd h List.not_mem_nil) | exact Cel.one _ w _ (by first | assumption | exact trivial)) tk37 rfl rfl ?_
  refine WS.det rfl rfl rfl (det_assign rfl) rfl ?_
  refine N4 ?_
  refine CS.ret ?_
  refine QS.then_ret ?_
  exact outR (resct rfl (cell_rvN (j := 0) rfl rfl tk37) rfl) (by
    have hv : StepV r z.x m = (stL r z.x, no3) := if_neg hS
    rw [hv]
    exact fun u hu => retNo (f := fun v => .tuple #[v, .int .i64 (stL r z.x)]) hu)
 ·
  have hc1 : stateE r z = 0 := hc1
  have hc1 : stL r z.x = 0 := hc1
  have hS : stL r z.x = 0 := by omega
  obtain ⟨hC, hI⟩ := stL_in.1 hS
  have hR := ready_of hC
  have hlen := hR.lens
  have hply := hR.ply
  have hlt : z.ths.l.length = r.ths.l.length := hI.lt
  have hlp : z.prs.l.length = r.prs.l.length := hI.lp
  have hll : (z.pls.l.length : Int) = r.ply := hI.ll
  refine CS.skip ?_
  refine QS.then_code ?_
  refine CS.seq ?_
  refine N3 ?_
  refine WS.det rfl rfl rfl (det_loadb0 (j := 3) rfl rfl tk31) rfl ?_
  refine WS.det rfl rfl rfl (det_loadb0 (j := 2) rfl rfl tk37) rfl ?_
  refine WS.det rfl rfl rfl (det_loadb0 (j := 1) rfl rfl tk52) rfl ?_
  refine WS.det rfl rfl rfl (det_callB rfl rfl ent71 (fun u hu => Rlegal_c r u (hr.st hu) z (hz.st hu) hR hI m)) rfl ?_
  refine WS.det rfl rfl rfl (det_not rfl) rfl ?_
  refine N4 ?_
  refine CS.cond rfl (fun hc2 => ?_) (fun hc2 => ?_) <;> (try simp only [bq] at hc2)
  ·
   refine N3 ?_
   refine WS.det rfl rfl rfl ((det_build1 plc37 zv37 rfl rfl (by first | (simp [Value.oneCell']; done) | ((repeat (refine List.forall_mem_cons.2 ⟨by first | rfl | assumption, ?_⟩)); exact fun _ h => absurd h List.not_mem_nil)))) rfl ?_
   first | refine WS.storeW (j := 0) rfl rfl rfl rfl (by first | (simp [Value.oneCell']; done) | ((repeat (refine List.forall_mem_cons.2 ⟨by first | rfl | assumption, ?_⟩)); exact fun _ h => absurd h List.not_mem_nil) | exact Cel.one _ w _ (by first | assumption | exact trivial)) tk37 rfl rfl ?_
   refine WS.det rfl rfl rfl (det_assign rfl) rfl ?_
   refine N4 ?_
   refine CS.ret ?_
   refine QS.then_ret ?_
   exact outR (resct rfl (cell_rvN (j := 0) rfl rfl tk37) rfl) (by
     have hv : StepV r z.x m = (29, no3) := (if_pos hS).trans (if_neg (by rw [hc2]; decide))
     rw [hv]
     exact fun u hu => retNo (f := fun v => .tuple #[v, .int .i64 (29)]) hu)
  ·
   refine CS.skip ?_
   refine QS.then_code ?_
   refine N3 ?_
   refine WS.det rfl rfl rfl (det_loadb0 (j := 3) rfl rfl tk31) rfl ?_
   refine WS.det rfl rfl rfl (det_loadb0 (j := 2) rfl rfl tk37) rfl ?_
   refine WS.det rfl rfl rfl (det_loadb0 (j := 1) rfl rfl tk52) rfl ?_
   refine WS.callF rfl rfl ent72 (fun u hu => RPlayed_c r u (hr.st hu) z (hz.st hu) hR hI m hc2) (fun _ => rfl) ?_; rintro y ⟨hyx, uy, hyok⟩
   obtain ⟨hya, hyb, hyc⟩ := hyok.ones
   refine WS.det rfl rfl rfl (det_move rfl) rfl ?_
   refine WS.det rfl rfl rfl (det_extract rfl rfl) rfl ?_
   refine WS.det rfl rfl rfl (det_extract rfl rfl) rfl ?_
   refine WS.alloc zv37 (fun _ => rfl) ?_; intro b9 hb9
   first | refine WS.storeW (j := 0) rfl rfl rfl rfl (by first | (simp [Value.oneCell']; done) | ((repeat (refine List.forall_mem_cons.2 ⟨by first | rfl | assumption, ?_⟩)); exact fun _ h => absurd h List.not_mem_nil) | exact Cel.one _ w _ (by first | assumption | exact trivial)) tk37 rfl rfl ?_
   refine WS.det rfl rfl rfl (det_assign rfl) rfl ?_
   refine N4 ?_
   refine CS.seq ?_
   refine N3 ?_
   refine WS.det rfl rfl rfl (det_move rfl) rfl ?_
   refine WS.det rfl rfl rfl (det_not rfl) rfl ?_
   refine N4 ?_
   refine CS.cond rfl (fun hc3 => ?_) (fun hc3 => ?_) <;> (try simp only [bq] at hc3)
   ·
    refine N3 ?_
    refine WS.det rfl rfl rfl ((det_build1 plc37 zv37 rfl rfl (by first | (simp [Value.oneCell']; done) | ((repeat (refine List.forall_mem_cons.2 ⟨by first | rfl | assumption, ?_⟩)); exact fun _ h => absurd h List.not_mem_nil)))) rfl ?_
    first | refine WS.storeW (j := 2) rfl rfl rfl rfl (by first | (simp [Value.oneCell']; done) | ((repeat (refine List.forall_mem_cons.2 ⟨by first | rfl | assumption, ?_⟩)); exact fun _ h => absurd h List.not_mem_nil) | exact Cel.one _ w _ (by first | assumption | exact trivial)) tk37 rfl rfl ?_
    refine WS.det rfl rfl rfl (det_assign rfl) rfl ?_
    refine N4 ?_
    refine CS.ret ?_
    refine QS.then_ret ?_
    exact outR (resct rfl (cell_rvN (j := 2) rfl rfl tk37) rfl) (by
      have hv : StepV r z.x m = (27, no3) := (if_pos hS).trans ((if_pos hc2).trans (ansS_none hc3))
      rw [hv]
      exact fun u hu => retNo (f := fun v => .tuple #[v, .int .i64 (27)]) hu)
   ·
    refine CS.skip ?_
    refine QS.then_code ?_
    refine N3 ?_
    refine WS.det rfl rfl rfl (det_loadb0 (j := 0) rfl rfl tk37) rfl ?_
    first | refine WS.storeW (j := 2) rfl rfl rfl rfl (by first | (simp [Value.oneCell']; done) | ((repeat (refine List.forall_mem_cons.2 ⟨by first | rfl | assumption, ?_⟩)); exact fun _ h => absurd h List.not_mem_nil) | exact Cel.one _ w _ (by first | assumption | exact trivial)) tk37 rfl rfl ?_
    refine WS.det rfl rfl rfl (det_assign rfl) rfl ?_
    refine N4 ?_
    refine CS.ret ?_
    exact outR (resct rfl (cell_rvN (j := 2) rfl rfl tk37) rfl) (by
      have hv : StepV r z.x m = _ := (if_pos hS).trans ((if_pos hc2).trans (ansS_some hc3))
      rw [hv]
      exact fun u hu => retSr (f := fun v => .tuple #[v, .int .i64 0]) (j := 1) rfl hyx hu)
end Go.Proofs.YtgbofmnbakfalaaDoor
namespace Go.Proofs.YtgbofmnbakfalaaDoor
open Go.RowKit Go.Proofs
set_option maxRecDepth 100000
set_option linter.unusedVariables false
set_option linter.unusedSimpArgs false
theorem retS3 {w0 u : World} {L : List SA} {e1 e2 e3 : TypeId} {a b c : Value} {xs ys zs : List Int} {j k i : Nat} {e0 : Int} (h1 : L[i]? = some (oints e1 a xs)) (h2 : L[j]? = some (oints e2 b ys)) (h3 : L[k]? = some (oints e3 c zs)) (hu : St w0.heap.size w0 L u) :
  RetS3 w0 (xs, ys, zs) e0 (.returned (.tuple #[a, b, c, .int .i64 e0])) u :=
 ⟨⟨⟨a, xs⟩, ⟨b, ys⟩, ⟨c, zs⟩⟩, ⟨rfl, u, (oints_SlI hu h1).tree, (oints_SlI hu h2).tree, (oints_SlI hu h3).tree⟩, retR (fun S u h => ⟨SlI.tree (Star.oints h1 h), SlI.tree (Star.oints h2 h), SlI.tree (Star.oints h3 h)⟩) u hu⟩
theorem retS30 {w0 u : World} {L : List SA} {e0 : Int} (hu : St w0.heap.size w0 L u) : RetS3 w0 no3 e0 (.returned (.tuple #[.slice none 0 0, .slice none 0 0, .slice none 0 0, .int .i64 e0])) u :=
 ⟨⟨⟨_, []⟩, ⟨_, []⟩, ⟨_, []⟩⟩, ⟨rfl, u, SlT.nil _ _, SlT.nil _ _, SlT.nil _ _⟩, retR (fun S u h => ⟨SlT.nil _ _, SlT.nil _ _, SlT.nil _ _⟩) u hu⟩
theorem CopyStateR_c (z : Stt) (w : World) (hz : SttOk w z) (hm : z.ths.l.length ≤ 1000000 ∧ z.prs.l.length ≤ 1000000 ∧ z.pls.l.length ≤ 1000000) :
  Calls Tryd.prog 23 #[.agg #[z.ths.v, z.prs.v, z.pls.v]] w (RetS w z.x fun v => v) := by
 refine Calls.mono (CopyState_c z w hz hm) ?_
 rintro e u ⟨⟨a, b, c⟩, ho, h⟩
 have h2 : RetF w (.agg #[a, b, c]) (roS fun u => SttOk u ⟨⟨a, z.ths.l⟩, ⟨b, z.prs.l⟩, ⟨c, z.pls.l⟩⟩) e u := h.toRo fun S u h => ⟨SlI.tree (Star.oints (L := [oints 3 a z.ths.l, oints 3 b z.prs.l, oints 3 c z.pls.l]) (j := 0) rfl h.1), SlI.tree (Star.oints (L := [oints 3 a z.ths.l, oints 3 b z.prs.l, oints 3 c z.pls.l]) (j := 1) rfl h.1), SlI.tree (Star.oints (L := [oints 3 a z.ths.l, oints 3 b z.prs.l, oints 3 c z.pls.l]) (j := 2) rfl h.1)⟩
 exact ⟨⟨⟨a, z.ths.l⟩, ⟨b, z.prs.l⟩, ⟨c, z.pls.l⟩⟩, ⟨rfl, u, h2.now⟩, h2⟩
set_option maxHeartbeats 1000000 in
theorem RBegin_c (r : Room) (w : World) (hr : RoomOk w r) (hn : Near r) :
  Calls Tryd.prog 16 #[.agg #[r.pls.v, r.ths.v, r.prs.v, r.wys.v, r.acs.v, r.aus.v, .int .i64 r.ply, r.gl.v]] w (RetS w (BeginV r).2 fun v => .tuple #[v, .int .i64 (BeginV r).1]) := by
 have kpl := hr.pls
 have lpl := hr.pls.le
 have kth := hr.ths
 have lth := hr.ths.le
 have kpr := hr.prs
 have lpr := hr.prs.le
 have kwy := hr.wys
 have lwy := hr.wys.le
 have kac := hr.acs
 have lac := hr.acs.le
 have kau := hr.aus
 have lau := hr.aus.le
 have kgl := hr.gl
 have lgl := hr.gl.le
 refine enter Tryd.func16 rfl rfl (Nat.le_of_ble_eq_true rfl) ?_
 refine N3 ?_
 refine WS.box rfl rfl (fun _ => rfl) ?_; intro b1 hb1
 refine WS.alloc zv37 (fun _ => rfl) ?_; intro b2 hb2
 refine WS.det rfl rfl rfl (det_assign rfl) rfl ?_
 refine N1 ?_
 refine WS.det rfl rfl rfl (det_loadb0 (j := 1) rfl rfl tk31) rfl ?_
 refine WS.det rfl rfl rfl (det_callB rfl rfl ent18 (fun u hu => RCheck_c r u (hr.st hu) hn)) rfl ?_
 refine WS.det rfl rfl rfl (det_assign rfl) rfl ?_
 refine N4 ?_
 refine CS.seq ?_
 refine N3 ?_
 refine WS.det rfl rfl rfl (det_move rfl) rfl ?_
 refine WS.det rfl rfl rfl (det_ne rfl rfl) rfl ?_
 refine N4 ?_
 refine CS.cond rfl (fun hc1 => ?_) (fun hc1 => ?_) <;> (try simp only [bq] at hc1)
 ·
  refine N3 ?_
  refine WS.det rfl rfl rfl ((det_build1 plc37 zv37 rfl rfl (by first | (simp [Value.oneCell']; done) | ((repeat (refine List.forall_mem_cons.2 ⟨by first | rfl | assumption, ?_⟩)); exact fun _ h => absurd h List.not_mem_nil)))) rfl ?_
  refine WS.det rfl rfl rfl (det_move rfl) rfl ?_
  first | refine WS.storeW (j := 0) rfl rfl rfl rfl (by first | (simp [Value.oneCell']; done) | ((repeat (refine List.forall_mem_cons.2 ⟨by first | rfl | assumption, ?_⟩)); exact fun _ h => absurd h List.not_mem_nil) | exact Cel.one _ w _ (by first | assumption | exact trivial)) tk37 rfl rfl ?_
  refine WS.det rfl rfl rfl (det_assign rfl) rfl ?_
  refine N4 ?_
  refine CS.ret ?_
  refine QS.then_ret ?_
  exact outR (resct rfl (cell_rvN (j := 0) rfl rfl tk37) rfl) (by
    have hv : BeginV r = (checkE r, no3) := if_neg hc1
    rw [hv]
    exact fun u hu => retNo (f := fun v => .tuple #[v, .int .i64 (checkE r)]) hu)
 ·
  have hc1 : checkE r = 0 := hc1
  have hR := ready_of hc1
  have hlen := hR.lens
  have hply := hR.ply
  refine CS.skip ?_
  refine QS.then_code ?_
  refine N3 ?_
  refine WS.det rfl rfl rfl ((by first | exact det_fieldAddr rfl fo31_6 | exact det_fieldAddrS rfl fo31_6)) rfl ?_
  refine WS.det rfl rfl rfl (det_loadb (j := 1) rfl rfl rfl tk3) rfl ?_
  refine WS.makeInts sl35 rfl rfl zv3 (by omega) (by omega) (by omega) (fun _ => rfl) ?_; intro v16; refine WS.oc (j := 0) rfl (fun hv16 => ?_)
  refine WS.det rfl rfl rfl ((det_build1 plc37 zv37 rfl rfl (by first | (simp [Value.oneCell']; done) | ((repeat (refine List.forall_mem_cons.2 ⟨by first | rfl | assumption, ?_⟩)); exact fun _ h => absurd h List.not_mem_nil)))) rfl ?_
  refine WS.alloc zv37 (fun _ => rfl) ?_; intro b5 hb5
  first | refine WS.storeW (j := 0) rfl rfl rfl rfl (by first | (simp [Value.oneCell']; done) | ((repeat (refine List.forall_mem_cons.2 ⟨by first | rfl | assumption, ?_⟩)); exact fun _ h => absurd h List.not_mem_nil) | exact Cel.one _ w _ (by first | assumption | exact trivial)) tk37 rfl rfl ?_
  refine N4 ?_
  refine CS.seq ?_
  refine N3 ?_
  refine WS.det rfl rfl rfl (det_assign rfl) rfl ?_
  refine N4 ?_
  refine CS.block ?_
  refine CS.weak (fun _ hu => hu.osl0 (e := 3) (size := 1)) ?_
  refine CS.loopM (σ := Int × Value) [18, 19, 20, 21, 22, 23, 24, 25, 26, 27, 28, 29, 30, 31, 32, 33, 34, 35] (fun s => [(6, .int .i64 s.1)]) (fun s => [oints 3 s.2 ((r.ths.l.take s.1.toNat).map Thing.sr), blk b5 [s.2, .slice none 0 0, v16] 37, oints 3 v16 (List.replicate r.ply.toNat 0), blk b2 [.slice none 0 0, .slice none 0 0, .slice none 0 0] 37, blk b1 [r.pls.v, r.ths.v, r.prs.v, r.wys.v, r.acs.v, r.aus.v, .int .i64 r.ply, r.gl.v] 31]) (fun s => 0 ≤ s.1 ∧ s.1 ≤ r.ths.l.length) (fun s => (r.ths.l.length - s.1).toNat) (0, .slice none 0 0) (fun _ _ => rfl) rfl rfl ⟨by simp, by simp⟩ ?_
  intro a t hs
  obtain ⟨ha1, ha2⟩ := hs
  have htl := List.length_take_le a.1.toNat r.ths.l
  refine CS.seq ?_
  refine N3 ?_
  refine WS.det rfl rfl rfl (det_move rfl) rfl ?_
  refine WS.det rfl rfl rfl ((by first | exact det_fieldAddr rfl fo31_1 | exact det_fieldAddrS rfl fo31_1)) rfl ?_
  refine WS.det rfl rfl rfl (det_loadb (j := 4) rfl rfl rfl tk23) rfl ?_
  refine WS.det rfl rfl rfl (det_lenU sl23 rfl (by assumption)) rfl ?_
  refine WS.det rfl rfl rfl (det_lt rfl rfl) rfl ?_
  refine N4 ?_
  refine CS.cond rfl (fun hc2 => ?_) (fun hc2 => ?_) <;> (try simp only [bq] at hc2)
  ·
   refine CS.skip ?_
   refine QS.then_code ?_
   refine CS.seq ?_
   refine CS.block ?_
   refine CS.drawnTill 9 (k := 12) mixed rfl rfl ?_
   refine AT.take 0 rfl (by kernel_rfl) (na := 12) (by kernel_rfl) rfl (by kernel_rfl) (by kernel_rfl) (by kernel_rfl) rfl rfl ((by first | exact det_fieldAddr rfl fo37_0 | exact det_fieldAddrS rfl fo37_0)) rfl rfl ?_
   refine AT.take 1 rfl (by kernel_rfl) (na := 12) (by kernel_rfl) rfl (by kernel_rfl) (by kernel_rfl) (by kernel_rfl) rfl rfl (det_loadb (j := 1) rfl rfl rfl tk35) rfl rfl ?_
   refine AT.take 2 rfl (by kernel_rfl) (na := 12) (by kernel_rfl) rfl (by kernel_rfl) (by kernel_rfl) (by kernel_rfl) rfl rfl ((by first | exact det_fieldAddr rfl fo31_1 | exact det_fieldAddrS rfl fo31_1)) rfl rfl ?_
   refine AT.take 3 rfl (by kernel_rfl) (na := 12) (by kernel_rfl) rfl (by kernel_rfl) (by kernel_rfl) (by kernel_rfl) rfl rfl (det_loadb (j := 4) rfl rfl rfl tk23) rfl rfl ?_
   refine AT.take 4 rfl (by kernel_rfl) (na := 12) (by kernel_rfl) rfl (by kernel_rfl) (by kernel_rfl) (by kernel_rfl) rfl rfl (det_move rfl) rfl rfl ?_
   refine AT.take 5 rfl (by kernel_rfl) (na := 12) (by kernel_rfl) rfl (by kernel_rfl) (by kernel_rfl) (by kernel_rfl) rfl rfl (det_idxU sl23 rfl rfl (by assumption) rfl (by omega) (by omega)) rfl rfl ?_
   refine AT.take 6 rfl (by kernel_rfl) (na := 12) (by kernel_rfl) rfl (by kernel_rfl) (by kernel_rfl) (by kernel_rfl) rfl rfl ((by first | exact det_fieldAddr rfl fo70_3 | exact det_fieldAddrS rfl fo70_3)) rfl rfl ?_
   refine AT.take 7 rfl (by kernel_rfl) (na := 12) (by kernel_rfl) rfl (by kernel_rfl) (by kernel_rfl) (by kernel_rfl) rfl rfl ((by first | exact det_ldUc 4 3 rfl (by assumption) rfl ⟨(by omega), (by omega)⟩ (by decide) rfl tk3)) rfl rfl ?_
   refine AT.one (i := 8) (by kernel_rfl) rfl (by first | (intro h; exact absurd h (by decide)) | exact fun _ _ h => h | exact fun _ _ h => h.sub (by repeat first | exact List.Sublist.refl _ | apply List.Sublist.cons_cons | apply List.Sublist.cons)) rfl ?_
   refine WS.buildI1 sl35 zv3 rfl (fun _ => rfl) ?_; intro v33
   refine WS.done ?_
   refine QS.then_AT ?_
   refine AT.one (i := 9) (by kernel_rfl) rfl (by first | (intro h; exact absurd h (by decide)) | exact fun _ _ h => h | exact fun _ _ h => h.sub (by repeat first | exact List.Sublist.refl _ | apply List.Sublist.cons_cons | apply List.Sublist.cons)) rfl ?_
   refine WS.appendI (j := 1) sl35 zv3 rfl rfl rfl (fun u hu => oints_SlI hu (j := 0) rfl) (by first | omega | (simp; omega) | (simp only [List.length_append, List.length_singleton, List.length_map, List.length_cons, List.length_nil] at *; omega)) (by first | omega | (simp; omega) | (simp only [List.length_append, List.length_singleton, List.length_map, List.length_cons, List.length_nil] at *; omega)) (fun _ => rfl) (fun _ => rfl) ?_; intro v34; refine WS.oc (j := 1) rfl (fun hv34 => ?_)
   refine WS.done ?_
   refine QS.then_AT ?_
   refine AT.one (i := 10) (by kernel_rfl) rfl (by first | (intro h; exact absurd h (by decide)) | exact fun _ _ h => h | exact fun _ _ h => h.sub (by repeat first | exact List.Sublist.refl _ | apply List.Sublist.cons_cons | apply List.Sublist.cons)) rfl ?_
   refine WS.det rfl rfl rfl ((by first | exact det_fieldAddr rfl fo37_0 | exact det_fieldAddrS rfl fo37_0)) rfl ?_
   refine WS.done ?_
   refine QS.then_AT ?_
   refine AT.one (i := 11) (by kernel_rfl) rfl (by first | (intro h; exact absurd h (by decide)) | exact fun _ _ h => h | exact fun _ _ h => h.sub (by repeat first | exact List.Sublist.refl _ | apply List.Sublist.cons_cons | apply List.Sublist.cons)) rfl ?_
   refine WS.store (j := 2) rfl rfl (by first | decide | omega | (simp; done) | (simp; omega) | exact Nat.le_of_ble_eq_true rfl) rfl (by first | rfl | assumption) tk35 rfl rfl ?_
   refine WS.done ?_
   refine QS.then_AT ?_
   refine AT.done (by kernel_rfl) (by first | (intro h; exact absurd h (by decide)) | exact fun _ _ h => h | exact fun _ _ h => h.sub (by repeat first | exact List.Sublist.refl _ | apply List.Sublist.cons_cons | apply List.Sublist.cons)) ?_
   refine QS.block_normal ?_
   refine QS.then_code ?_
   refine CS.region ?_
   refine WS.det rfl rfl rfl (det_move rfl) rfl ?_
   refine WS.det rfl rfl rfl (det_add rfl rfl (by omega)) rfl ?_
   refine WS.det rfl rfl rfl (det_assign rfl) rfl ?_
   refine WS.done ?_
   refine QS.sel [1, 1, 1, 1, 1] rfl ?_
   exact QS.head ((a.1 + 1, v34)) rfl (by simp only [← map_snoc Thing.sr ha1 (by omega : a.1 < r.ths.l.length)]) ⟨⟨by simp; omega, by simp; omega⟩, by simp; omega⟩
  ·
   have hta : r.ths.l.take a.1.toNat = r.ths.l := List.take_of_length_le (by omega)
   rw [hta]
   refine CS.leave ?_
   iterate 2 refine QS.then_exit ?_
   refine QS.block_exit ?_
   refine QS.then_code ?_
   refine CS.seq ?_
   refine N3 ?_
   refine WS.det rfl rfl rfl (det_assign rfl) rfl ?_
   refine N4 ?_
   refine CS.block ?_
   refine CS.weak (fun _ hu => hu.osl0 (e := 3) (size := 1)) ?_
   refine CS.loopM (σ := Int × Value) [36, 37, 38, 39, 40, 41, 42, 43, 44, 45, 46, 47, 48, 49, 50, 51, 52, 53] (fun s => [(7, .int .i64 s.1)]) (fun s => [oints 3 s.2 ((r.prs.l.take s.1.toNat).map Pro.pl), oints 3 a.2 (r.ths.l.map Thing.sr), blk b5 [a.2, s.2, v16] 37, oints 3 v16 (List.replicate r.ply.toNat 0), blk b2 [.slice none 0 0, .slice none 0 0, .slice none 0 0] 37, blk b1 [r.pls.v, r.ths.v, r.prs.v, r.wys.v, r.acs.v, r.aus.v, .int .i64 r.ply, r.gl.v] 31]) (fun s => 0 ≤ s.1 ∧ s.1 ≤ r.prs.l.length) (fun s => (r.prs.l.length - s.1).toNat) (0, .slice none 0 0) (fun _ _ => rfl) rfl rfl ⟨by simp, by simp⟩ ?_
   intro d t hs
   obtain ⟨hd1, hd2⟩ := hs
   have htl := List.length_take_le d.1.toNat r.prs.l
   refine CS.seq ?_
   refine N3 ?_
   refine WS.det rfl rfl rfl (det_move rfl) rfl ?_
   refine WS.det rfl rfl rfl ((by first | exact det_fieldAddr rfl fo31_2 | exact det_fieldAddrS rfl fo31_2)) rfl ?_
   refine WS.det rfl rfl rfl (det_loadb (j := 5) rfl rfl rfl tk24) rfl ?_
   refine WS.det rfl rfl rfl (det_lenU sl24 rfl (by assumption)) rfl ?_
   refine WS.det rfl rfl rfl (det_lt rfl rfl) rfl ?_
   refine N4 ?_
   refine CS.cond rfl (fun hc3 => ?_) (fun hc3 => ?_) <;> (try simp only [bq] at hc3)
   ·
    refine CS.skip ?_
    refine QS.then_code ?_
    refine CS.seq ?_
    refine CS.block ?_
    refine CS.drawnTill 9 (k := 12) mixed rfl rfl ?_
    refine AT.take 0 rfl (by kernel_rfl) (na := 12) (by kernel_rfl) rfl (by kernel_rfl) (by kernel_rfl) (by kernel_rfl) rfl rfl ((by first | exact det_fieldAddr rfl fo37_1 | exact det_fieldAddrS rfl fo37_1)) rfl rfl ?_
    refine AT.take 1 rfl (by kernel_rfl) (na := 12) (by kernel_rfl) rfl (by kernel_rfl) (by kernel_rfl) (by kernel_rfl) rfl rfl (det_loadb (j := 2) rfl rfl rfl tk35) rfl rfl ?_
    refine AT.take 2 rfl (by kernel_rfl) (na := 12) (by kernel_rfl) rfl (by kernel_rfl) (by kernel_rfl) (by kernel_rfl) rfl rfl ((by first | exact det_fieldAddr rfl fo31_2 | exact det_fieldAddrS rfl fo31_2)) rfl rfl ?_
    refine AT.take 3 rfl (by kernel_rfl) (na := 12) (by kernel_rfl) rfl (by kernel_rfl) (by kernel_rfl) (by kernel_rfl) rfl rfl (det_loadb (j := 5) rfl rfl rfl tk24) rfl rfl ?_
    refine AT.take 4 rfl (by kernel_rfl) (na := 12) (by kernel_rfl) rfl (by kernel_rfl) (by kernel_rfl) (by kernel_rfl) rfl rfl (det_move rfl) rfl rfl ?_
    refine AT.take 5 rfl (by kernel_rfl) (na := 12) (by kernel_rfl) rfl (by kernel_rfl) (by kernel_rfl) (by kernel_rfl) rfl rfl (det_idxU sl24 rfl rfl (by assumption) rfl (by omega) (by omega)) rfl rfl ?_
    refine AT.take 6 rfl (by kernel_rfl) (na := 12) (by kernel_rfl) rfl (by kernel_rfl) (by kernel_rfl) (by kernel_rfl) rfl rfl ((by first | exact det_fieldAddr rfl fo72_1 | exact det_fieldAddrS rfl fo72_1)) rfl rfl ?_
    refine AT.take 7 rfl (by kernel_rfl) (na := 12) (by kernel_rfl) rfl (by kernel_rfl) (by kernel_rfl) (by kernel_rfl) rfl rfl ((by first | exact det_ldUc 3 1 rfl (by assumption) rfl ⟨(by omega), (by omega)⟩ (by decide) rfl tk3)) rfl rfl ?_
    refine AT.one (i := 8) (by kernel_rfl) rfl (by first | (intro h; exact absurd h (by decide)) | exact fun _ _ h => h | exact fun _ _ h => h.sub (by repeat first | exact List.Sublist.refl _ | apply List.Sublist.cons_cons | apply List.Sublist.cons)) rfl ?_
    refine WS.buildI1 sl35 zv3 rfl (fun _ => rfl) ?_; intro v51
    refine WS.done ?_
    refine QS.then_AT ?_
    refine AT.one (i := 9) (by kernel_rfl) rfl (by first | (intro h; exact absurd h (by decide)) | exact fun _ _ h => h | exact fun _ _ h => h.sub (by repeat first | exact List.Sublist.refl _ | apply List.Sublist.cons_cons | apply List.Sublist.cons)) rfl ?_
    refine WS.appendI (j := 1) sl35 zv3 rfl rfl rfl (fun u hu => oints_SlI hu (j := 0) rfl) (by first | omega | (simp; omega) | (simp only [List.length_append, List.length_singleton, List.length_map, List.length_cons, List.length_nil] at *; omega)) (by first | omega | (simp; omega) | (simp only [List.length_append, List.length_singleton, List.length_map, List.length_cons, List.length_nil] at *; omega)) (fun _ => rfl) (fun _ => rfl) ?_; intro v52; refine WS.oc (j := 1) rfl (fun hv52 => ?_)
    refine WS.done ?_
    refine QS.then_AT ?_
    refine AT.one (i := 10) (by kernel_rfl) rfl (by first | (intro h; exact absurd h (by decide)) | exact fun _ _ h => h | exact fun _ _ h => h.sub (by repeat first | exact List.Sublist.refl _ | apply List.Sublist.cons_cons | apply List.Sublist.cons)) rfl ?_
    refine WS.det rfl rfl rfl ((by first | exact det_fieldAddr rfl fo37_1 | exact det_fieldAddrS rfl fo37_1)) rfl ?_
    refine WS.done ?_
    refine QS.then_AT ?_
    refine AT.one (i := 11) (by kernel_rfl) rfl (by first | (intro h; exact absurd h (by decide)) | exact fun _ _ h => h | exact fun _ _ h => h.sub (by repeat first | exact List.Sublist.refl _ | apply List.Sublist.cons_cons | apply List.Sublist.cons)) rfl ?_
    refine WS.store (j := 3) rfl rfl (by first | decide | omega | (simp; done) | (simp; omega) | exact Nat.le_of_ble_eq_true rfl) rfl (by first | rfl | assumption) tk35 rfl rfl ?_
    refine WS.done ?_
    refine QS.then_AT ?_
    refine AT.done (by kernel_rfl) (by first | (intro h; exact absurd h (by decide)) | exact fun _ _ h => h | exact fun _ _ h => h.sub (by repeat first | exact List.Sublist.refl _ | apply List.Sublist.cons_cons | apply List.Sublist.cons)) ?_
    refine QS.block_normal ?_
    refine QS.then_code ?_
    refine CS.region ?_
    refine WS.det rfl rfl rfl (det_move rfl) rfl ?_
    refine WS.det rfl rfl rfl (det_add rfl rfl (by omega)) rfl ?_
    refine WS.det rfl rfl rfl (det_assign rfl) rfl ?_
    refine WS.done ?_
    refine QS.sel [1, 1, 1, 1, 1, 1] rfl ?_
    exact QS.head ((d.1 + 1, v52)) rfl (by simp only [← map_snoc Pro.pl hd1 (by omega : d.1 < r.prs.l.length)]) ⟨⟨by simp; omega, by simp; omega⟩, by simp; omega⟩
   ·
    have hta : r.prs.l.take d.1.toNat = r.prs.l := List.take_of_length_le (by omega)
    rw [hta]
    refine CS.leave ?_
    iterate 2 refine QS.then_exit ?_
    refine QS.block_exit ?_
    refine QS.then_code ?_
    refine N3 ?_
    refine WS.det rfl rfl rfl (det_loadb0 (j := 5) rfl rfl tk31) rfl ?_
    refine WS.det rfl rfl rfl (det_loadb0 (j := 2) rfl rfl tk37) rfl ?_
    refine WS.callF rfl rfl ent29 (fun u hu => RSettle_c r u (hr.st hu) hn ⟨⟨a.2, _⟩, ⟨d.2, _⟩, ⟨v16, _⟩⟩ ⟨(oints_SlI hu (j := 1) rfl).tree, (oints_SlI hu (j := 0) rfl).tree, (oints_SlI hu (j := 3) rfl).tree⟩) (fun _ => rfl) ?_; rintro y ⟨hyx, uy, hyok⟩
    obtain ⟨hya, hyb, hyc⟩ := hyok.ones
    refine WS.det rfl rfl rfl (det_extract rfl rfl) rfl ?_
    refine WS.det rfl rfl rfl (det_extract rfl rfl) rfl ?_
    first | refine WS.storeW (j := 5) rfl rfl rfl rfl (by first | (simp [Value.oneCell']; done) | ((repeat (refine List.forall_mem_cons.2 ⟨by first | rfl | assumption, ?_⟩)); exact fun _ h => absurd h List.not_mem_nil) | exact Cel.one _ w _ (by first | assumption | exact trivial)) tk37 rfl rfl ?_
    refine WS.det rfl rfl rfl (det_assign rfl) rfl ?_
    refine N4 ?_
    refine CS.ret ?_
    exact outR (resct rfl (cell_rvN (j := 5) rfl rfl tk37) rfl) (by
      have hv : BeginV r = SettleV r (beginX r) := if_pos hc1
      rw [hv]
      exact fun u hu => retSr (f := fun v => .tuple #[v, .int .i64 (SettleV r (beginX r)).1]) (j := 0) rfl hyx hu)
end Go.Proofs.YtgbofmnbakfalaaDoor
namespace Go.Proofs.YtgbofmnbakfalaaDoor
open Go.RowKit Go.Proofs
set_option maxRecDepth 100000
set_option linter.unusedVariables false
set_option linter.unusedSimpArgs false
set_option maxHeartbeats 2000000 in
theorem RRun_c (r : Room) (w : World) (hr : RoomOk w r) (hn : Near r) (z : Stt) (hz : SttOk w z) (ms : Sl Move) (hk : SlT cMove w ms) :
  Calls Tryd.prog 38 #[.agg #[r.pls.v, r.ths.v, r.prs.v, r.wys.v, r.acs.v, r.aus.v, .int .i64 r.ply, r.gl.v], .agg #[z.ths.v, z.prs.v, z.pls.v], ms.v] w (RetS w (RunV r z.x ms.l).2.2 fun v => .tuple #[v, .int .i64 (RunV r z.x ms.l).2.1, .int .i64 (RunV r z.x ms.l).1]) := by
 have lms := hk.le
 refine enter Tryd.func38 rfl rfl (Nat.le_of_ble_eq_true rfl) ?_
 refine N3 ?_
 refine WS.box rfl rfl (fun _ => rfl) ?_; intro b3 hb3
 refine WS.box rfl rfl (fun _ => rfl) ?_; intro b4 hb4
 refine WS.alloc zv37 (fun _ => rfl) ?_; intro b6 hb6
 refine WS.det rfl rfl rfl (det_assign rfl) rfl ?_
 refine WS.det rfl rfl rfl (det_assign rfl) rfl ?_
 refine N1 ?_
 refine WS.det rfl rfl rfl (det_loadb0 (j := 2) rfl rfl tk31) rfl ?_
 refine WS.det rfl rfl rfl (det_loadb0 (j := 1) rfl rfl tk37) rfl ?_
 refine WS.det rfl rfl rfl (det_callB rfl rfl ent30 (fun u hu => RCheckState_c r u (hr.st hu) hn z (hz.st hu))) rfl ?_
 refine WS.det rfl rfl rfl (det_assign rfl) rfl ?_
 refine N4 ?_
 refine CS.seq ?_
 refine N3 ?_
 refine WS.det rfl rfl rfl (det_move rfl) rfl ?_
 refine WS.det rfl rfl rfl (det_ne rfl rfl) rfl ?_
 refine N4 ?_
 refine CS.cond rfl (fun hc1 => ?_) (fun hc1 => ?_) <;> (try simp only [bq] at hc1)
 ·
  have hS : ¬ stL r z.x = 0 := hc1
  refine N3 ?_
  refine WS.det rfl rfl rfl ((det_build1 plc37 zv37 rfl rfl (by first | (simp [Value.oneCell']; done) | ((repeat (refine List.forall_mem_cons.2 ⟨by first | rfl | assumption, ?_⟩)); exact fun _ h => absurd h List.not_mem_nil)))) rfl ?_
  refine WS.det rfl rfl rfl (det_move rfl) rfl ?_
  first | refine WS.storeW (j := 0) rfl rfl rfl rfl (by first | (simp [Value.oneCell']; done) | ((repeat (refine List.forall_mem_cons.2 ⟨by first | rfl | assumption, ?_⟩)); exact fun _ h => absurd h List.not_mem_nil) | exact Cel.one _ w _ (by first | assumption | exact trivial)) tk37 rfl rfl ?_
  refine WS.det rfl rfl rfl (det_assign rfl) rfl ?_
  refine WS.det rfl rfl rfl (det_assign rfl) rfl ?_
  refine N4 ?_
  refine CS.ret ?_
  refine QS.then_ret ?_
  exact outR (resctt rfl (cell_rvN (j := 0) rfl rfl tk37) rfl rfl) (by
    have hv : RunV r z.x ms.l = (stL r z.x, 0, no3) := if_neg hS
    rw [hv]
    exact fun u hu => retNo (f := fun v => .tuple #[v, .int .i64 (0), .int .i64 (stL r z.x)]) hu)
 ·
  have hc1 : stateE r z = 0 := hc1
  have hc1 : stL r z.x = 0 := hc1
  have hS : stL r z.x = 0 := by omega
  obtain ⟨hC, hI⟩ := stL_in.1 hS
  have hR := ready_of hC
  have hlen := hR.lens
  have hply := hR.ply
  have hlt : z.ths.l.length = r.ths.l.length := hI.lt
  have hlp : z.prs.l.length = r.prs.l.length := hI.lp
  have hll : (z.pls.l.length : Int) = r.ply := hI.ll
  refine CS.skip ?_
  refine QS.then_code ?_
  refine CS.seq ?_
  refine N3 ?_
  refine WS.det rfl rfl rfl (det_move rfl) rfl ?_
  refine WS.det rfl rfl rfl (det_lenU sl45 rfl (by assumption)) rfl ?_
  refine WS.det rfl rfl rfl (det_gt rfl rfl) rfl ?_
  refine N4 ?_
  refine CS.cond rfl (fun hc2 => ?_) (fun hc2 => ?_) <;> (try simp only [bq] at hc2)
  ·
   refine N3 ?_
   refine WS.det rfl rfl rfl ((det_build1 plc37 zv37 rfl rfl (by first | (simp [Value.oneCell']; done) | ((repeat (refine List.forall_mem_cons.2 ⟨by first | rfl | assumption, ?_⟩)); exact fun _ h => absurd h List.not_mem_nil)))) rfl ?_
   first | refine WS.storeW (j := 0) rfl rfl rfl rfl (by first | (simp [Value.oneCell']; done) | ((repeat (refine List.forall_mem_cons.2 ⟨by first | rfl | assumption, ?_⟩)); exact fun _ h => absurd h List.not_mem_nil) | exact Cel.one _ w _ (by first | assumption | exact trivial)) tk37 rfl rfl ?_
   refine WS.det rfl rfl rfl (det_assign rfl) rfl ?_
   refine WS.det rfl rfl rfl (det_assign rfl) rfl ?_
   refine N4 ?_
   refine CS.ret ?_
   refine QS.then_ret ?_
   exact outR (resctt rfl (cell_rvN (j := 0) rfl rfl tk37) rfl rfl) (by
     have hv : RunV r z.x ms.l = (2, 0, no3) := (if_pos hS).trans (if_pos hc2)
     rw [hv]
     exact fun u hu => retNo (f := fun v => .tuple #[v, .int .i64 (0), .int .i64 (2)]) hu)
  ·
   refine CS.skip ?_
   refine QS.then_code ?_
   refine N3 ?_
   refine WS.det rfl rfl rfl (det_loadb0 (j := 1) rfl rfl tk37) rfl ?_
   refine WS.callF rfl rfl ent23 (fun u hu => CopyStateR_c z u (hz.st hu) (hI.small hR)) (fun _ => rfl) ?_; rintro y ⟨hyx, uy, hyok⟩
   obtain ⟨hya, hyb, hyc⟩ := hyok.ones
   refine WS.alloc zv37 (fun _ => rfl) ?_; intro b10 hb10
   first | refine WS.storeW (j := 0) rfl rfl rfl rfl (by first | (simp [Value.oneCell']; done) | ((repeat (refine List.forall_mem_cons.2 ⟨by first | rfl | assumption, ?_⟩)); exact fun _ h => absurd h List.not_mem_nil) | exact Cel.one _ w _ (by first | assumption | exact trivial)) tk37 rfl rfl ?_
   refine N4 ?_
   refine CS.seq ?_
   refine N3 ?_
   refine WS.det rfl rfl rfl (det_assign rfl) rfl ?_
   refine N4 ?_
   refine CS.block ?_
   refine CS.sel [1, 0, 0, 0, 0] rfl ?_
   refine CS.loopM (σ := Int × Stt) [7, 8, 12, 13, 27, 28, 29, 30, 31, 32, 33, 34, 35, 36, 37, 38, 39, 40, 41, 42, 43, 44, 45, 46, 47, 48] (fun s => [(11, .int .i64 s.1)]) (fun s => [roS fun u => SttOk u s.2, blk b10 [s.2.ths.v, s.2.prs.v, s.2.pls.v] 37, blk b6 [.slice none 0 0, .slice none 0 0, .slice none 0 0] 37, blk b4 [z.ths.v, z.prs.v, z.pls.v] 37, blk b3 [r.pls.v, r.ths.v, r.prs.v, r.wys.v, r.acs.v, r.aus.v, .int .i64 r.ply, r.gl.v] 31]) (fun s => 0 ≤ s.1 ∧ s.1 ≤ ms.l.length ∧ (∃ u0, SttOk u0 s.2) ∧ RunV r z.x ms.l = runL r (ms.l.drop s.1.toNat) s.1 s.2.x) (fun s => (ms.l.length - s.1).toNat) (0, y) (fun _ _ => rfl) rfl rfl ⟨by simp, by simp, ⟨_, hyok⟩, by rw [hyx]; exact (if_pos hS).trans (if_neg (by omega))⟩ ?_
   intro s t hs
   obtain ⟨hs1, hs2, ⟨us, hsok⟩, hs4⟩ := hs
   obtain ⟨hsa, hsb, hsc⟩ := hsok.ones
   refine CS.seq ?_
   refine N3 ?_
   refine WS.det rfl rfl rfl (det_move rfl) rfl ?_
   refine WS.det rfl rfl rfl (det_move rfl) rfl ?_
   refine WS.det rfl rfl rfl (det_lenU sl45 rfl (by assumption)) rfl ?_
   refine WS.det rfl rfl rfl (det_lt rfl rfl) rfl ?_
   refine N4 ?_
   refine CS.cond rfl (fun hc3 => ?_) (fun hc3 => ?_) <;> (try simp only [bq] at hc3)
   ·
    refine CS.skip ?_
    refine QS.then_code ?_
    refine CS.seq ?_
    refine CS.block ?_
    refine CS.seq ?_
    refine CS.drawnAll (k := 13) mixed rfl rfl ?_
    refine AS.take 0 rfl (by kernel_rfl) (by kernel_rfl) (by kernel_rfl) rfl rfl (det_loadb0 (j := 4) rfl rfl tk31) rfl rfl ?_
    refine AS.take 1 rfl (by kernel_rfl) (by kernel_rfl) (by kernel_rfl) rfl rfl (det_loadb0 (j := 1) rfl rfl tk37) rfl rfl ?_
    refine AS.take 2 rfl (by kernel_rfl) (by kernel_rfl) (by kernel_rfl) rfl rfl (det_move rfl) rfl rfl ?_
    refine AS.take 3 rfl (by kernel_rfl) (by kernel_rfl) (by kernel_rfl) rfl rfl (det_move rfl) rfl rfl ?_
    refine AS.take 4 rfl (by kernel_rfl) (by kernel_rfl) (by kernel_rfl) rfl rfl (det_idxU sl45 rfl rfl (by assumption) rfl (by omega) (by omega)) rfl rfl ?_
    refine AS.take 5 rfl (by kernel_rfl) (by kernel_rfl) (by kernel_rfl) rfl rfl (det_ldU rfl (by assumption) rfl ⟨(by omega), (by omega)⟩ rfl tk52) rfl rfl ?_
    refine AS.two (i := 6) (j := 10) (by kernel_rfl) rfl rfl (by first | exact fun _ h => h | exact fun _ h => h.sub (by repeat first | exact List.Sublist.refl _ | apply List.Sublist.cons_cons | apply List.Sublist.cons)) rfl rfl ?_ ?_
    ·
     refine WS.callF rfl rfl ent27 (fun u hu => RStep_c r u (hr.st hu) hn s.2 (hu.ro (j := 0) rfl) (nth ms.l s.1)) (fun _ => rfl) ?_; rintro t2 ⟨ht2x, ut2, ht2ok⟩
     obtain ⟨ht2a, ht2b, ht2c⟩ := ht2ok.ones
     refine WS.done ?_
     refine QS.then_AS ?_
     refine AS.take 7 rfl (by kernel_rfl) (by kernel_rfl) (by kernel_rfl) rfl rfl (det_move rfl) rfl rfl ?_
     refine AS.take 8 rfl (by kernel_rfl) (by kernel_rfl) (by kernel_rfl) rfl rfl (det_extract rfl rfl) rfl rfl ?_
     refine AS.take 9 rfl (by kernel_rfl) (by kernel_rfl) (by kernel_rfl) rfl rfl (det_extract rfl rfl) rfl rfl ?_
     refine AS.one (i := 10) (by kernel_rfl) rfl (by first | exact fun _ h => h | exact fun _ h => h.sub (by repeat first | exact List.Sublist.refl _ | apply List.Sublist.cons_cons | apply List.Sublist.cons)) rfl ?_
     refine WS.alloc zv37 (fun _ => rfl) ?_; intro b12 hb12
     refine WS.done ?_
     refine QS.then_AS ?_
     refine AS.one (i := 11) (by kernel_rfl) rfl (by first | exact fun _ h => h | exact fun _ h => h.sub (by repeat first | exact List.Sublist.refl _ | apply List.Sublist.cons_cons | apply List.Sublist.cons)) rfl ?_
     first | refine WS.storeW (j := 0) rfl rfl rfl rfl (by first | (simp [Value.oneCell']; done) | ((repeat (refine List.forall_mem_cons.2 ⟨by first | rfl | assumption, ?_⟩)); exact fun _ h => absurd h List.not_mem_nil) | exact Cel.one _ w _ (by first | assumption | exact trivial)) tk37 rfl rfl ?_
     refine WS.done ?_
     refine QS.then_AS ?_
     refine AS.take 12 rfl (by kernel_rfl) (by kernel_rfl) (by kernel_rfl) rfl rfl (det_assign rfl) rfl rfl ?_
     refine AS.done (by kernel_rfl) (by first | exact fun _ h => h | exact fun _ h => h.sub (by repeat first | exact List.Sublist.refl _ | apply List.Sublist.cons_cons | apply List.Sublist.cons)) ?_
     refine QS.then_code ?_
     refine CS.seq ?_
     refine N3 ?_
     refine WS.det rfl rfl rfl (det_move rfl) rfl ?_
     refine WS.det rfl rfl rfl (det_ne rfl rfl) rfl ?_
     refine N4 ?_
     refine CS.cond rfl (fun hc4 => ?_) (fun hc4 => ?_) <;> (try simp only [bq] at hc4)
     ·
      have hE := hc4
      refine N3 ?_
      refine WS.det rfl rfl rfl ((det_build1 plc37 zv37 rfl rfl (by first | (simp [Value.oneCell']; done) | ((repeat (refine List.forall_mem_cons.2 ⟨by first | rfl | assumption, ?_⟩)); exact fun _ h => absurd h List.not_mem_nil)))) rfl ?_
      refine WS.det rfl rfl rfl (det_move rfl) rfl ?_
      refine WS.det rfl rfl rfl (det_move rfl) rfl ?_
      first | refine WS.storeW (j := 4) rfl rfl rfl rfl (by first | (simp [Value.oneCell']; done) | ((repeat (refine List.forall_mem_cons.2 ⟨by first | rfl | assumption, ?_⟩)); exact fun _ h => absurd h List.not_mem_nil) | exact Cel.one _ w _ (by first | assumption | exact trivial)) tk37 rfl rfl ?_
      refine WS.det rfl rfl rfl (det_assign rfl) rfl ?_
      refine WS.det rfl rfl rfl (det_assign rfl) rfl ?_
      refine N4 ?_
      refine CS.ret ?_
      refine QS.then_ret ?_
      refine QS.block_ret ?_
      iterate 2 refine QS.then_ret ?_
      refine QS.block_ret ?_
      refine QS.then_ret ?_
      exact outR (resctt rfl (cell_rvN (j := 4) rfl rfl tk37) rfl rfl) (by
        have hv : RunV r z.x ms.l = ((StepV r s.2.x (nth ms.l s.1)).1, s.1, no3) := by rw [hs4, drop_cons hs1 (by omega), runL, if_neg hE]
        rw [hv]
        exact fun u hu => retNo (f := fun v => .tuple #[v, .int .i64 (s.1), .int .i64 ((StepV r s.2.x (nth ms.l s.1)).1)]) hu)
     ·
      have hE := hc4
      refine CS.skip ?_
      refine QS.then_code ?_
      refine CS.region ?_
      refine WS.det rfl rfl rfl (det_loadb0 (j := 0) rfl rfl tk37) rfl ?_
      first | refine WS.storeW (j := 3) rfl rfl rfl rfl (by first | (simp [Value.oneCell']; done) | ((repeat (refine List.forall_mem_cons.2 ⟨by first | rfl | assumption, ?_⟩)); exact fun _ h => absurd h List.not_mem_nil) | exact Cel.one _ w _ (by first | assumption | exact trivial)) tk37 rfl rfl ?_
      refine WS.done ?_
      refine QS.block_normal ?_
      refine QS.then_code ?_
      refine CS.region ?_
      refine WS.det rfl rfl rfl (det_move rfl) rfl ?_
      refine WS.det rfl rfl rfl (det_add rfl rfl (by omega)) rfl ?_
      refine WS.det rfl rfl rfl (det_assign rfl) rfl ?_
      refine WS.done ?_
      refine QS.sel [1, 2, 2, 2, 2] rfl ?_
      skip
      exact QS.head ((s.1 + 1, t2)) rfl rfl ⟨⟨by simp; omega, by simp; omega, ⟨_, ht2ok⟩, by
          rw [hs4, drop_cons hs1 (by omega), runL, if_pos hE, ht2x]⟩, by simp; omega⟩
    ·
     refine WS.alloc zv37 (fun _ => rfl) ?_; intro b12 hb12
     refine WS.done ?_
     refine QS.then_AS ?_
     refine AS.one (i := 6) (by kernel_rfl) rfl (by first | exact fun _ h => h | exact fun _ h => h.sub (by repeat first | exact List.Sublist.refl _ | apply List.Sublist.cons_cons | apply List.Sublist.cons)) rfl ?_
     refine WS.callF rfl rfl ent27 (fun u hu => RStep_c r u (hr.st hu) hn s.2 (hu.ro (j := 1) rfl) (nth ms.l s.1)) (fun _ => rfl) ?_; rintro t2 ⟨ht2x, ut2, ht2ok⟩
     obtain ⟨ht2a, ht2b, ht2c⟩ := ht2ok.ones
     refine WS.done ?_
     refine QS.then_AS ?_
     refine AS.take 7 rfl (by kernel_rfl) (by kernel_rfl) (by kernel_rfl) rfl rfl (det_move rfl) rfl rfl ?_
     refine AS.take 8 rfl (by kernel_rfl) (by kernel_rfl) (by kernel_rfl) rfl rfl (det_extract rfl rfl) rfl rfl ?_
     refine AS.take 9 rfl (by kernel_rfl) (by kernel_rfl) (by kernel_rfl) rfl rfl (det_extract rfl rfl) rfl rfl ?_
     refine AS.one (i := 11) (by kernel_rfl) rfl (by first | exact fun _ h => h | exact fun _ h => h.sub (by repeat first | exact List.Sublist.refl _ | apply List.Sublist.cons_cons | apply List.Sublist.cons)) rfl ?_
     first | refine WS.storeW (j := 1) rfl rfl rfl rfl (by first | (simp [Value.oneCell']; done) | ((repeat (refine List.forall_mem_cons.2 ⟨by first | rfl | assumption, ?_⟩)); exact fun _ h => absurd h List.not_mem_nil) | exact Cel.one _ w _ (by first | assumption | exact trivial)) tk37 rfl rfl ?_
     refine WS.done ?_
     refine QS.then_AS ?_
     refine AS.take 12 rfl (by kernel_rfl) (by kernel_rfl) (by kernel_rfl) rfl rfl (det_assign rfl) rfl rfl ?_
     refine AS.done (by kernel_rfl) (by first | exact fun _ h => h | exact fun _ h => h.sub (by repeat first | exact List.Sublist.refl _ | apply List.Sublist.cons_cons | apply List.Sublist.cons)) ?_
     refine QS.then_code ?_
     refine CS.seq ?_
     refine N3 ?_
     refine WS.det rfl rfl rfl (det_move rfl) rfl ?_
     refine WS.det rfl rfl rfl (det_ne rfl rfl) rfl ?_
     refine N4 ?_
     refine CS.cond rfl (fun hc5 => ?_) (fun hc5 => ?_) <;> (try simp only [bq] at hc5)
     ·
      have hE := hc5
      refine N3 ?_
      refine WS.det rfl rfl rfl ((det_build1 plc37 zv37 rfl rfl (by first | (simp [Value.oneCell']; done) | ((repeat (refine List.forall_mem_cons.2 ⟨by first | rfl | assumption, ?_⟩)); exact fun _ h => absurd h List.not_mem_nil)))) rfl ?_
      refine WS.det rfl rfl rfl (det_move rfl) rfl ?_
      refine WS.det rfl rfl rfl (det_move rfl) rfl ?_
      first | refine WS.storeW (j := 4) rfl rfl rfl rfl (by first | (simp [Value.oneCell']; done) | ((repeat (refine List.forall_mem_cons.2 ⟨by first | rfl | assumption, ?_⟩)); exact fun _ h => absurd h List.not_mem_nil) | exact Cel.one _ w _ (by first | assumption | exact trivial)) tk37 rfl rfl ?_
      refine WS.det rfl rfl rfl (det_assign rfl) rfl ?_
      refine WS.det rfl rfl rfl (det_assign rfl) rfl ?_
      refine N4 ?_
      refine CS.ret ?_
      refine QS.then_ret ?_
      refine QS.block_ret ?_
      iterate 2 refine QS.then_ret ?_
      refine QS.block_ret ?_
      refine QS.then_ret ?_
      exact outR (resctt rfl (cell_rvN (j := 4) rfl rfl tk37) rfl rfl) (by
        have hv : RunV r z.x ms.l = ((StepV r s.2.x (nth ms.l s.1)).1, s.1, no3) := by rw [hs4, drop_cons hs1 (by omega), runL, if_neg hE]
        rw [hv]
        exact fun u hu => retNo (f := fun v => .tuple #[v, .int .i64 (s.1), .int .i64 ((StepV r s.2.x (nth ms.l s.1)).1)]) hu)
     ·
      have hE := hc5
      refine CS.skip ?_
      refine QS.then_code ?_
      refine CS.region ?_
      refine WS.det rfl rfl rfl (det_loadb0 (j := 1) rfl rfl tk37) rfl ?_
      first | refine WS.storeW (j := 3) rfl rfl rfl rfl (by first | (simp [Value.oneCell']; done) | ((repeat (refine List.forall_mem_cons.2 ⟨by first | rfl | assumption, ?_⟩)); exact fun _ h => absurd h List.not_mem_nil) | exact Cel.one _ w _ (by first | assumption | exact trivial)) tk37 rfl rfl ?_
      refine WS.done ?_
      refine QS.block_normal ?_
      refine QS.then_code ?_
      refine CS.region ?_
      refine WS.det rfl rfl rfl (det_move rfl) rfl ?_
      refine WS.det rfl rfl rfl (det_add rfl rfl (by omega)) rfl ?_
      refine WS.det rfl rfl rfl (det_assign rfl) rfl ?_
      refine WS.done ?_
      refine QS.sel [0, 2, 2, 2, 2] rfl ?_
      skip
      exact QS.head ((s.1 + 1, t2)) rfl rfl ⟨⟨by simp; omega, by simp; omega, ⟨_, ht2ok⟩, by
          rw [hs4, drop_cons hs1 (by omega), runL, if_pos hE, ht2x]⟩, by simp; omega⟩
   ·
    refine CS.leave ?_
    iterate 2 refine QS.then_exit ?_
    refine QS.block_exit ?_
    refine QS.then_code ?_
    refine N3 ?_
    refine WS.det rfl rfl rfl (det_loadb0 (j := 1) rfl rfl tk37) rfl ?_
    first | refine WS.storeW (j := 2) rfl rfl rfl rfl (by first | (simp [Value.oneCell']; done) | ((repeat (refine List.forall_mem_cons.2 ⟨by first | rfl | assumption, ?_⟩)); exact fun _ h => absurd h List.not_mem_nil) | exact Cel.one _ w _ (by first | assumption | exact trivial)) tk37 rfl rfl ?_
    refine WS.det rfl rfl rfl (det_assign rfl) rfl ?_
    refine WS.det rfl rfl rfl (det_assign rfl) rfl ?_
    refine N4 ?_
    refine CS.ret ?_
    exact outR (resctt rfl (cell_rvN (j := 2) rfl rfl tk37) rfl rfl) (by
      have hv : RunV r z.x ms.l = (0, 0, s.2.x) := by rw [hs4, List.drop_of_length_le (by omega)]; rfl
      rw [hv]
      exact fun u hu => retSr (f := fun v => .tuple #[v, .int .i64 0, .int .i64 0]) (j := 0) rfl rfl hu)
end Go.Proofs.YtgbofmnbakfalaaDoor
namespace Go.Proofs.YtgbofmnbakfalaaDoor
open Go.RowKit Go.Proofs
set_option maxRecDepth 100000
set_option linter.unusedVariables false
set_option linter.unusedSimpArgs false
set_option maxHeartbeats 2000000 in
theorem RLook_c (r : Room) (w : World) (hr : RoomOk w r) (hn : Near r) (z : Stt) (hz : SttOk w z) (pl : Int) :
  Calls Tryd.prog 40 #[.agg #[r.pls.v, r.ths.v, r.prs.v, r.wys.v, r.acs.v, r.aus.v, .int .i64 r.ply, r.gl.v], .agg #[z.ths.v, z.prs.v, z.pls.v], .int .i64 pl] w (RetS3 w (LookV r z.x pl).2 (LookV r z.x pl).1) := by
 have kpl := hr.pls
 have lpl := hr.pls.le
 have kth := hr.ths
 have lth := hr.ths.le
 have kpr := hr.prs
 have lpr := hr.prs.le
 have kwy := hr.wys
 have lwy := hr.wys.le
 have kac := hr.acs
 have lac := hr.acs.le
 have kau := hr.aus
 have lau := hr.aus.le
 have kgl := hr.gl
 have lgl := hr.gl.le
 have zth := hz.ths.ints
 have zpr := hz.prs.ints
 have zpl := hz.pls.ints
 have lzt := zth.le
 have lzp := zpr.le
 have lzl := zpl.le
 refine enter Tryd.func40 rfl rfl (Nat.le_of_ble_eq_true rfl) ?_
 refine N3 ?_
 refine WS.box rfl rfl (fun _ => rfl) ?_; intro b3 hb3
 refine WS.box rfl rfl (fun _ => rfl) ?_; intro b4 hb4
 refine WS.det rfl rfl rfl (det_assign rfl) rfl ?_
 refine WS.det rfl rfl rfl (det_assign rfl) rfl ?_
 refine WS.det rfl rfl rfl (det_assign rfl) rfl ?_
 refine WS.det rfl rfl rfl (det_assign rfl) rfl ?_
 refine N1 ?_
 refine WS.det rfl rfl rfl (det_loadb0 (j := 1) rfl rfl tk31) rfl ?_
 refine WS.det rfl rfl rfl (det_loadb0 (j := 0) rfl rfl tk37) rfl ?_
 refine WS.det rfl rfl rfl (det_callB rfl rfl ent30 (fun u hu => RCheckState_c r u (hr.st hu) hn z (hz.st hu))) rfl ?_
 refine WS.det rfl rfl rfl (det_assign rfl) rfl ?_
 refine N4 ?_
 refine CS.seq ?_
 refine N3 ?_
 refine WS.det rfl rfl rfl (det_move rfl) rfl ?_
 refine WS.det rfl rfl rfl (det_ne rfl rfl) rfl ?_
 refine N4 ?_
 refine CS.cond rfl (fun hc1 => ?_) (fun hc1 => ?_) <;> (try simp only [bq] at hc1)
 ·
  have hS : ¬ stL r z.x = 0 := hc1
  refine N3 ?_
  refine WS.det rfl rfl rfl (det_move rfl) rfl ?_
  refine WS.det rfl rfl rfl (det_assign rfl) rfl ?_
  refine WS.det rfl rfl rfl (det_assign rfl) rfl ?_
  refine WS.det rfl rfl rfl (det_assign rfl) rfl ?_
  refine WS.det rfl rfl rfl (det_assign rfl) rfl ?_
  refine N4 ?_
  refine CS.ret ?_
  refine QS.then_ret ?_
  exact outR (res4 rfl rfl rfl rfl rfl) (by
    have hv : LookV r z.x pl = (stL r z.x, no3) := if_neg hS
    rw [hv]
    exact fun u hu => retS30 hu)
 ·
  have hc1 : stateE r z = 0 := hc1
  have hc1 : stL r z.x = 0 := hc1
  have hS : stL r z.x = 0 := by omega
  obtain ⟨hC, hI⟩ := stL_in.1 hS
  have hR := ready_of hC
  have hlen := hR.lens
  have hply := hR.ply
  have hlt : z.ths.l.length = r.ths.l.length := hI.lt
  have hlp : z.prs.l.length = r.prs.l.length := hI.lp
  have hll : (z.pls.l.length : Int) = r.ply := hI.ll
  refine CS.skip ?_
  refine QS.then_code ?_
  refine CS.seq ?_
  refine N3 ?_
  refine WS.det rfl rfl rfl (det_move rfl) rfl ?_
  refine WS.det rfl rfl rfl ((by first | exact det_fieldAddr rfl fo31_6 | exact det_fieldAddrS rfl fo31_6)) rfl ?_
  refine WS.det rfl rfl rfl (det_loadb (j := 1) rfl rfl rfl tk3) rfl ?_
  refine WS.det rfl rfl rfl (det_sub rfl rfl (by omega)) rfl ?_
  refine WS.det rfl rfl rfl (det_callB rfl rfl ent61 (fun u hu => from_c _ _ _ u)) rfl ?_
  refine WS.det rfl rfl rfl (det_not rfl) rfl ?_
  refine N4 ?_
  refine CS.cond rfl (fun hc2 => ?_) (fun hc2 => ?_) <;> (try simp only [bq] at hc2)
  ·
   refine N3 ?_
   refine WS.det rfl rfl rfl (det_assign rfl) rfl ?_
   refine WS.det rfl rfl rfl (det_assign rfl) rfl ?_
   refine WS.det rfl rfl rfl (det_assign rfl) rfl ?_
   refine WS.det rfl rfl rfl (det_assign rfl) rfl ?_
   refine N4 ?_
   refine CS.ret ?_
   refine QS.then_ret ?_
   exact outR (res4 rfl rfl rfl rfl rfl) (by
     have hv : LookV r z.x pl = (1, no3) := (if_pos hS).trans (if_neg (by simp only [Bool.and_eq_true, decide_eq_true_eq]; omega))
     rw [hv]
     exact fun u hu => retS30 hu)
  ·
   have hp : (decide (0 ≤ pl) && decide (pl ≤ r.ply - 1)) = true := by simp only [Bool.and_eq_true, decide_eq_true_eq]; omega
   refine CS.skip ?_
   refine QS.then_code ?_
   refine N3 ?_
   refine WS.det rfl rfl rfl ((by first | exact det_fieldAddr rfl fo37_2 | exact det_fieldAddrS rfl fo37_2)) rfl ?_
   refine WS.det rfl rfl rfl (det_loadb (j := 0) rfl rfl rfl tk35) rfl ?_
   refine WS.det rfl rfl rfl (det_move rfl) rfl ?_
   refine WS.det rfl rfl rfl (det_idxI sl35 rfl rfl (by assumption) (by omega) (by omega)) rfl ?_
   refine WS.det rfl rfl rfl (det_ldI rfl (by assumption) (by omega) tk3) rfl ?_
   refine WS.det rfl rfl rfl (det_assign rfl) rfl ?_
   refine N1 ?_
   refine WS.det rfl rfl rfl (det_assign rfl) rfl ?_
   refine WS.det rfl rfl rfl (det_assign rfl) rfl ?_
   refine WS.det rfl rfl rfl (det_assign rfl) rfl ?_
   refine N4 ?_
   refine CS.seq ?_
   refine N3 ?_
   refine WS.det rfl rfl rfl (det_assign rfl) rfl ?_
   refine N4 ?_
   refine CS.block ?_
   refine CS.weak (fun _ hu => hu.osl0 (e := 3) (size := 1)) ?_
   refine CS.loopM (σ := Int × Value) [36, 37, 38, 39, 40, 41, 42, 43, 44, 45, 46, 47, 48, 49, 50, 51, 52, 53, 54] (fun s => [(15, .int .i64 s.1), (12, s.2)]) (fun s => [oints 3 s.2 (filI s.1 (seeT r (nth z.pls.l pl))), blk b4 [z.ths.v, z.prs.v, z.pls.v] 37, blk b3 [r.pls.v, r.ths.v, r.prs.v, r.wys.v, r.acs.v, r.aus.v, .int .i64 r.ply, r.gl.v] 31]) (fun s => 0 ≤ s.1 ∧ s.1 ≤ r.ths.l.length) (fun s => (r.ths.l.length - s.1).toNat) (0, .slice none 0 0) (fun _ _ => rfl) rfl rfl ⟨by simp, by first | (simp; done) | (simp; omega)⟩ ?_
   intro a t hs
   obtain ⟨ha1, ha2⟩ := hs
   have hfl := fun p => filI_len (n := a.1) (p := p) ha1
   refine CS.seq ?_
   refine N3 ?_
   refine WS.det rfl rfl rfl (det_move rfl) rfl ?_
   refine WS.det rfl rfl rfl ((by first | exact det_fieldAddr rfl fo31_1 | exact det_fieldAddrS rfl fo31_1)) rfl ?_
   refine WS.det rfl rfl rfl (det_loadb (j := 2) rfl rfl rfl tk23) rfl ?_
   refine WS.det rfl rfl rfl (det_lenU sl23 rfl (by assumption)) rfl ?_
   refine WS.det rfl rfl rfl (det_lt rfl rfl) rfl ?_
   refine N4 ?_
   refine CS.cond rfl (fun hc3 => ?_) (fun hc3 => ?_) <;> (try simp only [bq] at hc3)
   ·
    have hfa := hfl (seeT r (nth z.pls.l pl))
    refine CS.skip ?_
    refine QS.then_code ?_
    refine CS.seq ?_
    refine CS.block ?_
    refine N3 ?_
    refine WS.det rfl rfl rfl ((by first | exact det_fieldAddr rfl fo31_1 | exact det_fieldAddrS rfl fo31_1)) rfl ?_
    refine WS.det rfl rfl rfl (det_loadb (j := 2) rfl rfl rfl tk23) rfl ?_
    refine WS.det rfl rfl rfl (det_move rfl) rfl ?_
    refine WS.det rfl rfl rfl (det_idxU sl23 rfl rfl (by assumption) rfl (by omega) (by omega)) rfl ?_
    refine WS.det rfl rfl rfl ((by first | exact det_fieldAddr rfl fo70_1 | exact det_fieldAddrS rfl fo70_1)) rfl ?_
    refine WS.det rfl rfl rfl ((by first | exact det_ldUc 4 1 rfl (by assumption) rfl ⟨(by omega), (by omega)⟩ (by decide) rfl tk3)) rfl ?_
    refine WS.det rfl rfl rfl (det_move rfl) rfl ?_
    refine WS.det rfl rfl rfl (det_eq rfl rfl) rfl ?_
    refine N4 ?_
    refine CS.cond rfl (fun hc4 => ?_) (fun hc4 => ?_) <;> (try simp only [bq] at hc4)
    ·
     refine CS.region ?_
     refine WS.det rfl rfl rfl (det_move rfl) rfl ?_
     refine WS.det rfl rfl rfl (det_move rfl) rfl ?_
     refine WS.buildI1 sl35 zv3 rfl (fun _ => rfl) ?_; intro v53
     refine WS.appendI (j := 1) sl35 zv3 rfl rfl rfl (fun u hu => oints_SlI hu (j := 0) rfl) (by first | omega | (simp; omega) | (simp only [List.length_append, List.length_singleton, List.length_map, List.length_cons, List.length_nil] at *; omega)) (by first | omega | (simp; omega) | (simp only [List.length_append, List.length_singleton, List.length_map, List.length_cons, List.length_nil] at *; omega)) (fun _ => rfl) (fun _ => rfl) ?_; intro v54; refine WS.oc (j := 1) rfl (fun hv54 => ?_)
     refine WS.det rfl rfl rfl (det_assign rfl) rfl ?_
     refine WS.done ?_
     refine QS.block_normal ?_
     refine QS.then_code ?_
     refine CS.region ?_
     refine WS.det rfl rfl rfl (det_move rfl) rfl ?_
     refine WS.det rfl rfl rfl (det_add rfl rfl (by omega)) rfl ?_
     refine WS.det rfl rfl rfl (det_assign rfl) rfl ?_
     refine WS.done ?_
     refine QS.sel [1, 1, 1] rfl ?_
     exact QS.head ((a.1 + 1, v54)) rfl (by first | simp only [filI_yes ha1 (show seeT r (nth z.pls.l pl) a.1 = true by exact decide_eq_true hc4)] | simp only [← filI_no ha1 (show seeT r (nth z.pls.l pl) a.1 = false by exact decide_eq_false hc4)]) ⟨⟨by simp; omega, by simp; omega⟩, by simp; omega⟩
    ·
     refine CS.skip ?_
     refine QS.block_normal ?_
     refine QS.then_code ?_
     refine CS.region ?_
     refine WS.det rfl rfl rfl (det_move rfl) rfl ?_
     refine WS.det rfl rfl rfl (det_add rfl rfl (by omega)) rfl ?_
     refine WS.det rfl rfl rfl (det_assign rfl) rfl ?_
     refine WS.done ?_
     exact QS.head ((a.1 + 1, a.2)) rfl (by first | simp only [filI_yes ha1 (show seeT r (nth z.pls.l pl) a.1 = true by exact decide_eq_true hc4)] | simp only [← filI_no ha1 (show seeT r (nth z.pls.l pl) a.1 = false by exact decide_eq_false hc4)]) ⟨⟨by simp; omega, by simp; omega⟩, by simp; omega⟩
   ·
    have hae : a.1 = r.ths.l.length := by omega
    refine CS.leave ?_
    iterate 2 refine QS.then_exit ?_
    refine QS.block_exit ?_
    refine QS.then_code ?_
    refine CS.seq ?_
    refine N3 ?_
    refine WS.det rfl rfl rfl (det_assign rfl) rfl ?_
    refine N4 ?_
    refine CS.block ?_
    refine CS.weak (fun _ hu => hu.osl0 (e := 3) (size := 1)) ?_
    refine CS.loopM (σ := Int × Value) [17, 55, 56, 57, 58, 59, 60, 61, 62, 63, 64, 65, 66, 67, 68, 69, 70, 71, 72, 73, 74, 75, 76, 77, 78, 79, 80, 81, 82, 83, 84, 85, 86, 87, 88, 89, 90, 91, 92, 93, 94, 95, 96, 97] (fun s => [(16, .int .i64 s.1), (13, s.2)]) (fun s => [oints 3 s.2 (filI s.1 (seeP r z.x (nth z.pls.l pl))), oints 3 a.2 (filI a.1 (seeT r (nth z.pls.l pl))), blk b4 [z.ths.v, z.prs.v, z.pls.v] 37, blk b3 [r.pls.v, r.ths.v, r.prs.v, r.wys.v, r.acs.v, r.aus.v, .int .i64 r.ply, r.gl.v] 31]) (fun s => 0 ≤ s.1 ∧ s.1 ≤ r.prs.l.length) (fun s => (r.prs.l.length - s.1).toNat) (0, .slice none 0 0) (fun _ _ => rfl) rfl rfl ⟨by simp, by first | (simp; done) | (simp; omega)⟩ ?_
    intro d t hs
    obtain ⟨hd1, hd2⟩ := hs
    have hfl := fun p => filI_len (n := d.1) (p := p) hd1
    refine CS.seq ?_
    refine N3 ?_
    refine WS.det rfl rfl rfl (det_move rfl) rfl ?_
    refine WS.det rfl rfl rfl ((by first | exact det_fieldAddr rfl fo31_2 | exact det_fieldAddrS rfl fo31_2)) rfl ?_
    refine WS.det rfl rfl rfl (det_loadb (j := 3) rfl rfl rfl tk24) rfl ?_
    refine WS.det rfl rfl rfl (det_lenU sl24 rfl (by assumption)) rfl ?_
    refine WS.det rfl rfl rfl (det_lt rfl rfl) rfl ?_
    refine N4 ?_
    refine CS.cond rfl (fun hc5 => ?_) (fun hc5 => ?_) <;> (try simp only [bq] at hc5)
    ·
     have hfa := hfl (seeP r z.x (nth z.pls.l pl))
     have hhe := hI.held (i := d.1) hd1 (show d.1 < z.prs.l.length by omega)
     simp only [Stt.x] at hhe
     have hwh : SlT cLit w (nth r.prs.l d.1).wh := hr.prs.at hd1 (by omega)
     have hwi := (hR.prs _ (nth_mem (i := d.1) (xs := r.prs.l) hd1 (by omega))).1
     refine CS.skip ?_
     refine QS.then_code ?_
     refine CS.seq ?_
     refine CS.block ?_
     refine N3 ?_
     refine WS.det rfl rfl rfl ((by first | exact det_fieldAddr rfl fo37_1 | exact det_fieldAddrS rfl fo37_1)) rfl ?_
     refine WS.det rfl rfl rfl (det_loadb (j := 2) rfl rfl rfl tk35) rfl ?_
     refine WS.det rfl rfl rfl (det_move rfl) rfl ?_
     refine WS.det rfl rfl rfl (det_idxI sl35 rfl rfl (by assumption) (by omega) (by omega)) rfl ?_
     refine WS.det rfl rfl rfl (det_ldI rfl (by assumption) (by omega) tk3) rfl ?_
     refine WS.det rfl rfl rfl (det_assign rfl) rfl ?_
     refine N4 ?_
     refine CS.seq ?_
     refine CS.draw mixed (by kernel_rfl) (by kernel_rfl) ?_
     refine DS.det rfl rfl (det_move rfl) rfl ?_
     refine DS.det rfl rfl (det_move rfl) rfl ?_
     refine DS.det rfl rfl (det_eq rfl rfl) rfl ?_
     refine DS.det rfl rfl (det_move rfl) rfl ?_
     refine DS.guardT rfl rfl rfl (fun hg => det_loadb0 (j := 2) rfl rfl tk37) rfl ?_
     refine DS.guardT rfl rfl rfl (fun hg => (by first | exact det_fieldAddr rfl fo31_2 | exact det_fieldAddrS rfl fo31_2)) rfl ?_
     refine DS.guardT rfl rfl rfl (fun hg => det_loadb (j := 3) (ev_cond hg rfl) rfl rfl tk24) rfl ?_
     refine DS.guardT rfl rfl rfl (fun hg => det_move rfl) rfl ?_
     refine DS.guardT rfl rfl rfl (fun hg => det_idxU sl24 (ev_cond hg rfl) (ev_cond hg rfl) (by assumption) rfl (by (try simp only [bq] at hg); omega) (by (try simp only [bq] at hg); omega)) rfl ?_
     refine DS.guardT rfl rfl rfl (fun hg => (by first | exact det_fieldAddr (ev_cond hg rfl) fo72_2 | exact det_fieldAddrS (ev_cond hg rfl) fo72_2)) rfl ?_
     refine DS.guardT rfl rfl rfl (fun hg => (by first | exact det_ldUc 3 2 (ev_cond hg rfl) (by assumption) rfl ⟨(by (try simp only [bq] at hg); omega), (by (try simp only [bq] at hg); omega)⟩ (by decide) rfl tk29)) rfl ?_
     refine DS.guardT rfl rfl rfl (fun hg => det_callB rfl (evs_cons (ev_cond hg rfl) (evs_cons (ev_cond hg rfl) evs_nil)) ent75 (fun u hu => Holding_c z u (hz.st hu) (nth r.prs.l d.1).wh (hwh.st hu) (by rw [hlt]; exact hwi))) rfl ?_
     refine DS.det rfl rfl (det_pick_and rfl rfl rfl) rfl ?_
     refine DS.det rfl rfl (det_move rfl) rfl ?_
     refine DS.guardF rfl rfl rfl (fun hg => det_move rfl) rfl ?_
     refine DS.guardF rfl rfl rfl (fun hg => det_le (ev_cond hg rfl) rfl) rfl ?_
     refine DS.guardF rfl rfl rfl (fun hg => det_move (ev_cond hg rfl)) rfl ?_
     refine DS.guardN rfl rfl rfl rfl (fun hg => (by first | exact det_fieldAddr rfl fo37_2 | exact det_fieldAddrS rfl fo37_2)) rfl ?_
     refine DS.guardN rfl rfl rfl rfl (fun hg => det_loadb (j := 2) (ev_cond hg rfl) rfl rfl tk35) rfl ?_
     refine DS.guardN rfl rfl rfl rfl (fun hg => det_move rfl) rfl ?_
     refine DS.guardN rfl rfl rfl rfl (fun hg => det_sub rfl (ev_cond hg rfl) (by (try simp only [bq] at hg); omega)) rfl ?_
     refine DS.guardN rfl rfl rfl rfl (fun hg => det_idxI sl35 (ev_cond hg rfl) (ev_cond hg rfl) (by assumption) (by (try simp only [bq] at hg); omega) (by (try simp only [bq] at hg); omega)) rfl ?_
     refine DS.guardN rfl rfl rfl rfl (fun hg => det_ldI (ev_cond hg rfl) (by assumption) (by (try simp only [bq] at hg); omega) tk3) rfl ?_
     refine DS.guardN rfl rfl rfl rfl (fun hg => det_move rfl) rfl ?_
     refine DS.guardN rfl rfl rfl rfl (fun hg => det_eq (ev_cond hg rfl) (ev_cond hg rfl)) rfl ?_
     refine DS.guardF rfl rfl rfl (fun hg => det_pick_and (ev_cond hg rfl) (ev_nestT hg rfl) rfl) rfl ?_
     refine DS.det rfl rfl (det_pick_or rfl rfl rfl) rfl ?_
     refine DS.done ?_
     refine QS.then_code ?_
     refine CS.cond rfl (fun hc6 => ?_) (fun hc6 => ?_) <;> (try simp only [bq] at hc6)
     ·
      refine CS.region ?_
      refine WS.det rfl rfl rfl (det_move rfl) rfl ?_
      refine WS.det rfl rfl rfl (det_move rfl) rfl ?_
      refine WS.buildI1 sl35 zv3 rfl (fun _ => rfl) ?_; intro v96
      refine WS.appendI (j := 1) sl35 zv3 rfl rfl rfl (fun u hu => oints_SlI hu (j := 0) rfl) (by first | omega | (simp; omega) | (simp only [List.length_append, List.length_singleton, List.length_map, List.length_cons, List.length_nil] at *; omega)) (by first | omega | (simp; omega) | (simp only [List.length_append, List.length_singleton, List.length_map, List.length_cons, List.length_nil] at *; omega)) (fun _ => rfl) (fun _ => rfl) ?_; intro v97; refine WS.oc (j := 1) rfl (fun hv97 => ?_)
      refine WS.det rfl rfl rfl (det_assign rfl) rfl ?_
      refine WS.done ?_
      refine QS.block_normal ?_
      refine QS.then_code ?_
      refine CS.region ?_
      refine WS.det rfl rfl rfl (det_move rfl) rfl ?_
      refine WS.det rfl rfl rfl (det_add rfl rfl (by omega)) rfl ?_
      refine WS.det rfl rfl rfl (det_assign rfl) rfl ?_
      refine WS.done ?_
      refine QS.sel [1, 1, 1, 1] rfl ?_
      exact QS.head ((d.1 + 1, v97)) rfl (by first | simp only [filI_yes hd1 (show seeP r z.x (nth z.pls.l pl) d.1 = true by (unfold seeP; simp only [Stt.x]; grind))] | simp only [← filI_no hd1 (show seeP r z.x (nth z.pls.l pl) d.1 = false by (unfold seeP; simp only [Stt.x]; grind))]) ⟨⟨by simp; omega, by simp; omega⟩, by simp; omega⟩
     ·
      refine CS.skip ?_
      refine QS.block_normal ?_
      refine QS.then_code ?_
      refine CS.region ?_
      refine WS.det rfl rfl rfl (det_move rfl) rfl ?_
      refine WS.det rfl rfl rfl (det_add rfl rfl (by omega)) rfl ?_
      refine WS.det rfl rfl rfl (det_assign rfl) rfl ?_
      refine WS.done ?_
      exact QS.head ((d.1 + 1, d.2)) rfl (by first | simp only [filI_yes hd1 (show seeP r z.x (nth z.pls.l pl) d.1 = true by (unfold seeP; simp only [Stt.x]; grind))] | simp only [← filI_no hd1 (show seeP r z.x (nth z.pls.l pl) d.1 = false by (unfold seeP; simp only [Stt.x]; grind))]) ⟨⟨by simp; omega, by simp; omega⟩, by simp; omega⟩
    ·
     have hde : d.1 = r.prs.l.length := by omega
     refine CS.leave ?_
     iterate 2 refine QS.then_exit ?_
     refine QS.block_exit ?_
     refine QS.then_code ?_
     refine CS.seq ?_
     refine N3 ?_
     refine WS.det rfl rfl rfl (det_assign rfl) rfl ?_
     refine N4 ?_
     refine CS.block ?_
     refine CS.weak (fun _ hu => hu.osl0 (e := 3) (size := 1)) ?_
     refine CS.loopM (σ := Int × Value) [98, 99, 100, 101, 102, 103, 104, 105, 106, 107, 108, 109, 110, 111, 112, 113, 114, 115, 116, 117, 118, 119] (fun s => [(18, .int .i64 s.1), (14, s.2)]) (fun s => [oints 3 s.2 (filI s.1 (seeL z.x (nth z.pls.l pl) pl)), oints 3 d.2 (filI d.1 (seeP r z.x (nth z.pls.l pl))), oints 3 a.2 (filI a.1 (seeT r (nth z.pls.l pl))), blk b4 [z.ths.v, z.prs.v, z.pls.v] 37, blk b3 [r.pls.v, r.ths.v, r.prs.v, r.wys.v, r.acs.v, r.aus.v, .int .i64 r.ply, r.gl.v] 31]) (fun s => 0 ≤ s.1 ∧ s.1 ≤ r.ply) (fun s => (r.ply - s.1).toNat) (0, .slice none 0 0) (fun _ _ => rfl) rfl rfl ⟨by simp, by first | (simp; done) | (simp; omega)⟩ ?_
     intro g t hs
     obtain ⟨hg1, hg2⟩ := hs
     have hfl := fun p => filI_len (n := g.1) (p := p) hg1
     refine CS.seq ?_
     refine N3 ?_
     refine WS.det rfl rfl rfl (det_move rfl) rfl ?_
     refine WS.det rfl rfl rfl ((by first | exact det_fieldAddr rfl fo31_6 | exact det_fieldAddrS rfl fo31_6)) rfl ?_
     refine WS.det rfl rfl rfl (det_loadb (j := 4) rfl rfl rfl tk3) rfl ?_
     refine WS.det rfl rfl rfl (det_lt rfl rfl) rfl ?_
     refine N4 ?_
     refine CS.cond rfl (fun hc7 => ?_) (fun hc7 => ?_) <;> (try simp only [bq] at hc7)
     ·
      have hfa := hfl (seeL z.x (nth z.pls.l pl) pl)
      refine CS.skip ?_
      refine QS.then_code ?_
      refine CS.seq ?_
      refine CS.block ?_
      refine N3 ?_
      refine WS.det rfl rfl rfl (det_move rfl) rfl ?_
      refine WS.det rfl rfl rfl (det_move rfl) rfl ?_
      refine WS.det rfl rfl rfl (det_ne rfl rfl) rfl ?_
      refine WS.det rfl rfl rfl (det_move rfl) rfl ?_
      refine WS.guardT rfl rfl rfl rfl (fun hg => (by first | exact det_fieldAddr rfl fo37_2 | exact det_fieldAddrS rfl fo37_2)) rfl ?_
      refine WS.guardT rfl rfl rfl rfl (fun hg => det_loadb (j := 3) (ev_cond hg rfl) rfl rfl tk35) rfl ?_
      refine WS.guardT rfl rfl rfl rfl (fun hg => det_move rfl) rfl ?_
      refine WS.guardT rfl rfl rfl rfl (fun hg => det_idxI sl35 (ev_cond hg rfl) (ev_cond hg rfl) (by assumption) (by (try simp only [bq] at hg); omega) (by (try simp only [bq] at hg); omega)) rfl ?_
      refine WS.guardT rfl rfl rfl rfl (fun hg => det_ldI (ev_cond hg rfl) (by assumption) (by (try simp only [bq] at hg); omega) tk3) rfl ?_
      refine WS.guardT rfl rfl rfl rfl (fun hg => det_move rfl) rfl ?_
      refine WS.guardT rfl rfl rfl rfl (fun hg => det_eq (ev_cond hg rfl) (ev_cond hg rfl)) rfl ?_
      refine WS.det rfl rfl rfl (det_pick_and rfl rfl rfl) rfl ?_
      refine N4 ?_
      refine CS.cond rfl (fun hc8 => ?_) (fun hc8 => ?_) <;> (try simp only [bq] at hc8)
      ·
       refine CS.region ?_
       refine WS.det rfl rfl rfl (det_move rfl) rfl ?_
       refine WS.det rfl rfl rfl (det_move rfl) rfl ?_
       refine WS.buildI1 sl35 zv3 rfl (fun _ => rfl) ?_; intro v118
       refine WS.appendI (j := 1) sl35 zv3 rfl rfl rfl (fun u hu => oints_SlI hu (j := 0) rfl) (by first | omega | (simp; omega) | (simp only [List.length_append, List.length_singleton, List.length_map, List.length_cons, List.length_nil] at *; omega)) (by first | omega | (simp; omega) | (simp only [List.length_append, List.length_singleton, List.length_map, List.length_cons, List.length_nil] at *; omega)) (fun _ => rfl) (fun _ => rfl) ?_; intro v119; refine WS.oc (j := 1) rfl (fun hv119 => ?_)
       refine WS.det rfl rfl rfl (det_assign rfl) rfl ?_
       refine WS.done ?_
       refine QS.block_normal ?_
       refine QS.then_code ?_
       refine CS.region ?_
       refine WS.det rfl rfl rfl (det_move rfl) rfl ?_
       refine WS.det rfl rfl rfl (det_add rfl rfl (by omega)) rfl ?_
       refine WS.det rfl rfl rfl (det_assign rfl) rfl ?_
       refine WS.done ?_
       refine QS.sel [1, 1, 1, 1, 1] rfl ?_
       exact QS.head ((g.1 + 1, v119)) rfl (by first | simp only [filI_yes hg1 (show seeL z.x (nth z.pls.l pl) pl g.1 = true by (unfold seeL; simp only [Stt.x]; grind))] | simp only [← filI_no hg1 (show seeL z.x (nth z.pls.l pl) pl g.1 = false by (unfold seeL; simp only [Stt.x]; grind))]) ⟨⟨by simp; omega, by simp; omega⟩, by simp; omega⟩
      ·
       refine CS.skip ?_
       refine QS.block_normal ?_
       refine QS.then_code ?_
       refine CS.region ?_
       refine WS.det rfl rfl rfl (det_move rfl) rfl ?_
       refine WS.det rfl rfl rfl (det_add rfl rfl (by omega)) rfl ?_
       refine WS.det rfl rfl rfl (det_assign rfl) rfl ?_
       refine WS.done ?_
       exact QS.head ((g.1 + 1, g.2)) rfl (by first | simp only [filI_yes hg1 (show seeL z.x (nth z.pls.l pl) pl g.1 = true by (unfold seeL; simp only [Stt.x]; grind))] | simp only [← filI_no hg1 (show seeL z.x (nth z.pls.l pl) pl g.1 = false by (unfold seeL; simp only [Stt.x]; grind))]) ⟨⟨by simp; omega, by simp; omega⟩, by simp; omega⟩
     ·
      have hge : g.1 = r.ply := by omega
      refine CS.leave ?_
      iterate 2 refine QS.then_exit ?_
      refine QS.block_exit ?_
      refine QS.then_code ?_
      refine N3 ?_
      refine WS.det rfl rfl rfl (det_move rfl) rfl ?_
      refine WS.det rfl rfl rfl (det_move rfl) rfl ?_
      refine WS.det rfl rfl rfl (det_move rfl) rfl ?_
      refine WS.det rfl rfl rfl (det_assign rfl) rfl ?_
      refine WS.det rfl rfl rfl (det_assign rfl) rfl ?_
      refine WS.det rfl rfl rfl (det_assign rfl) rfl ?_
      refine WS.det rfl rfl rfl (det_assign rfl) rfl ?_
      refine N4 ?_
      refine CS.ret ?_
      exact outR (res4 rfl rfl rfl rfl rfl) (by
        have hv : LookV r z.x pl = (0, filI r.ths.l.length (seeT r (nth z.x.2.2 pl)), filI r.prs.l.length (seeP r z.x (nth z.x.2.2 pl)), filI r.ply (seeL z.x (nth z.x.2.2 pl) pl)) := (if_pos hS).trans (if_pos hp)
        rw [hv, ← hae, ← hde, ← hge]
        exact fun u hu => retS3 (i := 2) (j := 1) (k := 0) rfl rfl rfl hu)
end Go.Proofs.YtgbofmnbakfalaaDoor
