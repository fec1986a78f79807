/- Merged texts of this proof (walks and plain laws), printed by a program of the prover. -/
import Derived.Test.YtgbofmnbakfalaaDoorKg
import Derived.Test.YtgbofmnbakfalaaDoorKb
namespace Go.Proofs.YtgbofmnbakfalaaDoor
open Go.RowKit Go.Proofs
set_option maxRecDepth 100000
set_option linter.unusedVariables false
set_option linter.unusedSimpArgs false
structure TabOk (w : World) (tb : Nat) (r : Room) (z : Stt) : Prop where
 blk : BlkAt w tb [r.pls.v, r.ths.v, r.prs.v, r.wys.v, r.acs.v, r.aus.v, .int .i64 r.ply, r.gl.v, z.ths.v, z.prs.v, z.pls.v] 115
 room : RoomOk w r
 st : SttOk w z
theorem TabOk.ext {w u : World} {tb : Nat} {r : Room} {z : Stt} (h : TabOk w tb r z) (hb : Below w.heap.size w u) : TabOk u tb r z := ⟨h.blk.ext hb, h.room.ext hb, h.st.ext hb⟩
theorem TabOk.stt {w u : World} {L : List SA} {tb : Nat} {r : Room} {z : Stt} (h : TabOk w tb r z) (hu : St w.heap.size w L u) : TabOk u tb r z := h.ext hu.below
theorem CloneI_c (xs : List Int) (v : Value) (w : World) (h1 : SlI w v xs) (hm : xs.length ≤ 1000000) :
  Calls Tryd.prog 77 #[v] w (fun e w' => ∃ v' : Value, v'.oneCell' = true ∧ RetF w v' (oints 3 v' xs) e w') := by
 obtain ⟨hl, p, cap, rfl, hcap, hp⟩ := h1
 have h1 : SlI w (.slice p xs.length cap) xs := ⟨hl, p, cap, rfl, hcap, hp⟩
 clear hl hcap hp
 refine enter Tryd.func77 rfl rfl (Nat.le_of_ble_eq_true rfl) ?_
 refine N3 ?_
 refine WS.det rfl rfl rfl (det_assign rfl) rfl ?_
 refine N4 ?_
 refine CS.seq ?_
 refine N3 ?_
 refine WS.det rfl rfl rfl (det_move rfl) rfl ?_
 refine WS.det rfl rfl rfl (det_eqnil sl35 rfl rfl) rfl ?_
 refine N4 ?_
 refine CS.cond rfl (fun hc1 => ?_) (fun hc1 => ?_) <;> (try simp only [bq] at hc1)
 ·
  have hx0 : xs = [] := by
   have : p = none := by simpa using hc1
   subst this
   exact List.eq_nil_of_length_eq_zero (SlC.nil h1)
  subst hx0
  refine N3 ?_
  refine WS.det rfl rfl rfl (det_assign rfl) rfl ?_
  refine N4 ?_
  refine CS.ret ?_
  refine QS.then_ret ?_
  exact out1 rfl rfl (fun u hu => ⟨_, rfl, retF (j := 0) rfl u hu.osl0⟩)
 ·
  refine CS.skip ?_
  refine QS.then_code ?_
  refine N3 ?_
  refine WS.build0 sl35 zv3 (fun _ => rfl) ?_; intro v5
  refine WS.det rfl rfl rfl (det_move rfl) rfl ?_
  refine WS.append0 (j := 0) (news := ints xs) (m := xs.length) sl35 zv3 rfl (by decide) rfl rfl rfl (fun u hu => h1.st hu) (by simp [ints, Value.oneCell']) (by omega) (by omega) (fun _ => rfl) (fun _ => rfl) ?_; intro v7; refine WS.oc (j := 0) rfl (fun hv7 => ?_)
  refine WS.det rfl rfl rfl (det_assign rfl) rfl ?_
  refine N4 ?_
  refine CS.ret ?_
  exact out1 rfl rfl (fun u hu => ⟨v7, hv7, retF (j := 0) rfl u hu⟩)
theorem lay_c (r : Room) (w : World) (hr : RoomOk w r) (z : Stt) (hz : SttOk w z) (hm : z.ths.l.length ≤ 1000000 ∧ z.prs.l.length ≤ 1000000 ∧ z.pls.l.length ≤ 1000000) :
  Calls Tryd.prog 45 #[.agg #[r.pls.v, r.ths.v, r.prs.v, r.wys.v, r.acs.v, r.aus.v, .int .i64 r.ply, r.gl.v], .agg #[z.ths.v, z.prs.v, z.pls.v]] w (fun e w' => ∃ x : Nat × Value × Value × Value, (x.2.1.oneCell' = true ∧ x.2.2.1.oneCell' = true ∧ x.2.2.2.oneCell' = true) ∧
   RetF w (.pointer (some ⟨x.1, 0, none⟩)) (star [blk x.1 [r.pls.v, r.ths.v, r.prs.v, r.wys.v, r.acs.v, r.aus.v, .int .i64 r.ply, r.gl.v, x.2.1, x.2.2.1, x.2.2.2] 115, oints 3 x.2.1 z.ths.l, oints 3 x.2.2.1 z.prs.l, oints 3 x.2.2.2 z.pls.l]) e w') := by
 have zth := hz.ths.ints
 have zpr := hz.prs.ints
 have zpl := hz.pls.ints
 have o1 := Sl.one hr.pls
 have o2 := Sl.one hr.ths
 have o3 := Sl.one hr.prs
 have o4 := Sl.one hr.wys
 have o5 := Sl.one hr.acs
 have o6 := Sl.one hr.aus
 have o7 := Sl.one hr.gl
 refine enter Tryd.func45 rfl rfl (Nat.le_of_ble_eq_true rfl) ?_
 refine N3 ?_
 refine WS.box rfl rfl (fun _ => rfl) ?_; intro b2 hb2
 refine WS.box rfl rfl (fun _ => rfl) ?_; intro b3 hb3
 refine WS.det rfl rfl rfl (det_assign rfl) rfl ?_
 refine N4 ?_
 refine CS.seq ?_
 refine CS.drawnAll (k := 14) mixed rfl rfl ?_
 refine AS.take 0 rfl (by kernel_rfl) (by kernel_rfl) (by kernel_rfl) rfl rfl ((by first | exact det_loadb0 (j := 1) rfl rfl tk31 | exact det_loadbN (j := 1) rfl rfl (by rfl) tk31 | exact det_loadwN rfl (by assumption) (by rfl) tk31 | exact det_loadbK (n := 8) (j := 1) rfl rfl rfl rfl tk31)) rfl rfl ?_
 refine AS.take 1 rfl (by kernel_rfl) (by kernel_rfl) (by kernel_rfl) rfl rfl ((by first | exact det_fieldAddr rfl fo37_0 | exact det_fieldAddrS rfl fo37_0)) rfl rfl ?_
 refine AS.take 2 rfl (by kernel_rfl) (by kernel_rfl) (by kernel_rfl) rfl rfl ((by first | exact det_loadb (j := 0) rfl rfl rfl tk35 | exact det_loadw rfl (by assumption) rfl tk35)) rfl rfl ?_
 refine AS.take 4 rfl (by kernel_rfl) (by kernel_rfl) (by kernel_rfl) rfl rfl ((by first | exact det_fieldAddr rfl fo37_1 | exact det_fieldAddrS rfl fo37_1)) rfl rfl ?_
 refine AS.take 5 rfl (by kernel_rfl) (by kernel_rfl) (by kernel_rfl) rfl rfl ((by first | exact det_loadb (j := 0) rfl rfl rfl tk35 | exact det_loadw rfl (by assumption) rfl tk35)) rfl rfl ?_
 refine AS.take 7 rfl (by kernel_rfl) (by kernel_rfl) (by kernel_rfl) rfl rfl ((by first | exact det_fieldAddr rfl fo37_2 | exact det_fieldAddrS rfl fo37_2)) rfl rfl ?_
 refine AS.take 8 rfl (by kernel_rfl) (by kernel_rfl) (by kernel_rfl) rfl rfl ((by first | exact det_loadb (j := 0) rfl rfl rfl tk35 | exact det_loadw rfl (by assumption) rfl tk35)) rfl rfl ?_
 refine AS.one (i := 3) (by kernel_rfl) rfl (by first | exact fun _ h => h | exact fun _ h => h.sub (by repeat first | exact List.Sublist.refl _ | apply List.Sublist.cons_cons | apply List.Sublist.cons)) rfl ?_
 refine WS.callF rfl rfl ent77 (fun u hu => CloneI_c _ _ u (zth.st hu) (by omega)) (fun _ => rfl) ?_; intro v8 hv8
 refine WS.done ?_
 refine QS.then_AS ?_
 refine AS.one (i := 6) (by kernel_rfl) rfl (by first | exact fun _ h => h | exact fun _ h => h.sub (by repeat first | exact List.Sublist.refl _ | apply List.Sublist.cons_cons | apply List.Sublist.cons)) rfl ?_
 refine WS.callF rfl rfl ent77 (fun u hu => CloneI_c _ _ u (zpr.st hu) (by omega)) (fun _ => rfl) ?_; intro v11 hv11
 refine WS.done ?_
 refine QS.then_AS ?_
 refine AS.one (i := 9) (by kernel_rfl) rfl (by first | exact fun _ h => h | exact fun _ h => h.sub (by repeat first | exact List.Sublist.refl _ | apply List.Sublist.cons_cons | apply List.Sublist.cons)) rfl ?_
 refine WS.callF rfl rfl ent77 (fun u hu => CloneI_c _ _ u (zpl.st hu) (by omega)) (fun _ => rfl) ?_; intro v14 hv14
 refine WS.done ?_
 refine QS.then_AS ?_
 refine AS.take 10 rfl (by kernel_rfl) (by kernel_rfl) (by kernel_rfl) rfl rfl ((det_build1 plc37 zv37 rfl rfl (by first | (simp [Value.oneCell']; done) | ((repeat (refine List.forall_mem_cons.2 ⟨by first | rfl | assumption, ?_⟩)); exact fun _ h => absurd h List.not_mem_nil)))) rfl rfl ?_
 refine AS.take 11 rfl (by kernel_rfl) (by kernel_rfl) (by kernel_rfl) rfl rfl (det_buildF plc115 zv115 (parts := [(0, .agg (List.toArray [r.pls.v, r.ths.v, r.prs.v, r.wys.v, r.acs.v, r.aus.v, .int .i64 r.ply, r.gl.v])), (1, .agg (List.toArray [v8, v11, v14]))]) rfl (fill2 (p := [r.pls.v, r.ths.v, r.prs.v, r.wys.v, r.acs.v, r.aus.v, .int .i64 r.ply, r.gl.v]) (q := [v8, v11, v14]) rfl rfl rfl rfl)) rfl rfl ?_
 refine AS.one (i := 12) (by kernel_rfl) rfl (by first | exact fun _ h => h | exact fun _ h => h.sub (by repeat first | exact List.Sublist.refl _ | apply List.Sublist.cons_cons | apply List.Sublist.cons)) rfl ?_
 refine WS.box rfl rfl (fun _ => rfl) ?_; intro b17 hb17
 refine WS.done ?_
 refine QS.then_AS ?_
 refine AS.take 13 rfl (by kernel_rfl) (by kernel_rfl) (by kernel_rfl) rfl rfl (det_assign rfl) rfl rfl ?_
 refine AS.done (by kernel_rfl) (by first | exact fun _ h => h | exact fun _ h => h.sub (by repeat first | exact List.Sublist.refl _ | apply List.Sublist.cons_cons | apply List.Sublist.cons)) ?_
 refine QS.then_code ?_
 refine CS.ret ?_
 exact out1 rfl rfl (fun u hu => ⟨(b17, v8, v11, v14), ⟨hv8, hv11, hv14⟩, retFs (hu.sel [0, 2, 1, 0] rfl) (List.Perm.refl _)⟩)
end Go.Proofs.YtgbofmnbakfalaaDoor
namespace Go.Proofs.YtgbofmnbakfalaaDoor
open Go.RowKit Go.Proofs
set_option maxRecDepth 100000
set_option linter.unusedVariables false
set_option linter.unusedSimpArgs false
theorem holdsF_c (tb : Nat) (r : Room) (z : Stt) (w : World) (hT : TabOk w tb r z) (b1 : Nat) (e1 : TypeId) (h1 : BlkAt w b1 [.pointer (some ⟨tb, 0, none⟩)] e1) (x : Lit) (hb : 0 ≤ x.t ∧ x.t < z.ths.l.length) :
  Calls Tryd.prog 103 #[.agg #[.int .i64 x.t, .int .i64 x.s, .bool x.nt], .pointer (some ⟨b1, 0, none⟩)] w (RetB w (.bool (decide (nth z.ths.l x.t = x.s) == x.nt))) := by
 have hTb := hT.blk
 have hr := hT.room
 have zth := hT.st.ths.ints
 have zpr := hT.st.prs.ints
 have zpl := hT.st.pls.ints
 have mth := zth.le
 have mpr := zpr.le
 have mpl := zpl.le
 refine enter Tryd.func103 rfl rfl (Nat.le_of_ble_eq_true rfl) ?_
 refine N3 ?_
 refine WS.box rfl rfl (fun _ => rfl) ?_; intro b2 hb2
 refine WS.det rfl rfl rfl (det_assign rfl) rfl ?_
 refine N4 ?_
 refine CS.seq ?_
 refine CS.draw mixed (by kernel_rfl) (by kernel_rfl) ?_
 refine DS.det rfl rfl ((by first | exact det_loadb (j := 0) rfl rfl rfl tk85 | exact det_loadb (j := 1) rfl rfl rfl tk85 | exact det_loadb (j := 2) rfl rfl rfl tk85 | exact det_loadb (j := 3) rfl rfl rfl tk85 | exact det_loadw rfl (by assumption) rfl tk85)) rfl ?_
 refine DS.det rfl rfl (det_nilCheck rfl) rfl ?_
 refine DS.det rfl rfl ((by first | exact det_fieldAddr rfl fo115_1 | exact det_fieldAddrS rfl fo115_1)) rfl ?_
 refine DS.det rfl rfl ((by first | exact det_fieldAddr rfl fo37_0 | exact det_fieldAddrS rfl fo37_0)) rfl ?_
 refine DS.det rfl rfl ((by first | exact det_ldL rfl (by assumption) (by omega) tk35 | exact det_loadb (j := 0) rfl rfl rfl tk35 | exact det_loadb (j := 1) rfl rfl rfl tk35 | exact det_loadb (j := 2) rfl rfl rfl tk35 | exact det_loadb (j := 3) rfl rfl rfl tk35 | exact det_loadw rfl (by assumption) rfl tk35)) rfl ?_
 refine DS.det rfl rfl ((by first | exact det_fieldAddr rfl fo117_0 | exact det_fieldAddrS rfl fo117_0)) rfl ?_
 refine DS.det rfl rfl ((by first | exact det_loadb (j := 0) rfl rfl rfl tk3 | exact det_loadw rfl (by assumption) rfl tk3)) rfl ?_
 refine DS.det rfl rfl ((by first | exact det_idxI sl35 rfl rfl (by assumption) (by omega) (by omega) | exact det_idxO sl35 rfl rfl (by omega) (by omega))) rfl ?_
 refine DS.det rfl rfl ((by first | exact det_ldI rfl (by assumption) (by omega) tk3 | exact det_loadb (j := 0) rfl rfl rfl tk3 | exact det_loadb (j := 1) rfl rfl rfl tk3 | exact det_loadb (j := 2) rfl rfl rfl tk3 | exact det_loadb (j := 3) rfl rfl rfl tk3 | exact det_loadw rfl (by assumption) rfl tk3)) rfl ?_
 refine DS.det rfl rfl ((by first | exact det_fieldAddr rfl fo117_1 | exact det_fieldAddrS rfl fo117_1)) rfl ?_
 refine DS.det rfl rfl ((by first | exact det_loadb (j := 0) rfl rfl rfl tk3 | exact det_loadw rfl (by assumption) rfl tk3)) rfl ?_
 refine DS.det rfl rfl (det_eq rfl rfl) rfl ?_
 refine DS.det rfl rfl ((by first | exact det_fieldAddr rfl fo117_2 | exact det_fieldAddrS rfl fo117_2)) rfl ?_
 refine DS.det rfl rfl ((by first | exact det_loadb (j := 0) rfl rfl rfl tk4 | exact det_loadw rfl (by assumption) rfl tk4)) rfl ?_
 refine DS.det rfl rfl (det_eqb rfl rfl Tryd.underlying4) rfl ?_
 refine DS.det rfl rfl (det_assign rfl) rfl ?_
 refine DS.done ?_
 refine QS.then_code ?_
 refine CS.ret ?_
 exact out1 rfl rfl retB
theorem holds_c (tb : Nat) (r : Room) (z : Stt) (w : World) (hT : TabOk w tb r z) (c : Sl Lit) (hk : SlT cLit w c) (hb : condIn z.ths.l.length c.l) :
  Calls Tryd.prog 74 #[.pointer (some ⟨tb, 0, none⟩), c.v] w (RetB w (.bool (holdB z.ths.l c.l))) := by
 refine enter Tryd.func74 rfl rfl (Nat.le_of_ble_eq_true rfl) ?_
 refine N3 ?_
 refine WS.box rfl rfl (fun _ => rfl) ?_; intro b2 hb2
 refine WS.det rfl rfl rfl (det_assign rfl) rfl ?_
 refine N1 ?_
 refine WS.det rfl rfl rfl (det_move rfl) rfl ?_
 refine WS.det rfl rfl rfl (det_makeFunc rfl) rfl ?_
 refine WS.det rfl rfl rfl (det_callB rfl rfl ent83 (fun u hu => ContainsLi_c c u (hk.st hu) _ [.pointer (some ⟨b2, 0, none⟩)] (fun x => decide (nth z.ths.l x.t = x.s) == x.nt) ent103 (fun u2 h2 i a0 a1 => holdsF_c tb r z u2 ((hT.stt hu).ext h2) _ _ ((st_blk hu (j := 0) rfl).ext h2) _ (hb _ (nth_mem a0 a1))))) rfl ?_
 refine WS.det rfl rfl rfl (det_not rfl) rfl ?_
 refine WS.det rfl rfl rfl (det_assign rfl) rfl ?_
 refine N4 ?_
 refine CS.ret ?_
 exact out1 rfl rfl (retBe (by unfold holdB; rw [List.all_eq_not_any_not]; simp))
theorem ihand_c (tb : Nat) (r : Room) (z : Stt) (w : World) (hT : TabOk w tb r z) (p : Int) (h0 : 0 ≤ p) (h1 : p ≤ 3) (hl : z.prs.l.length ≤ 1000000) :
  Calls Tryd.prog 101 #[.pointer (some ⟨tb, 0, none⟩), .int .i64 p] w (RetB w (.int .i64 (cnt z.prs.l (-2 - p)))) := by
 have hTb := hT.blk
 have hr := hT.room
 have zth := hT.st.ths.ints
 have zpr := hT.st.prs.ints
 have zpl := hT.st.pls.ints
 have mth := zth.le
 have mpr := zpr.le
 have mpl := zpl.le
 refine enter Tryd.func101 rfl rfl (Nat.le_of_ble_eq_true rfl) ?_
 refine N3 ?_
 refine WS.det rfl rfl rfl (det_assign rfl) rfl ?_
 refine N4 ?_
 refine CS.seq ?_
 refine N3 ?_
 refine WS.det rfl rfl rfl (det_move rfl) rfl ?_
 refine WS.det rfl rfl rfl (det_nilCheck rfl) rfl ?_
 refine WS.det rfl rfl rfl ((by first | exact det_fieldAddr rfl fo115_1 | exact det_fieldAddrS rfl fo115_1)) rfl ?_
 refine WS.det rfl rfl rfl ((by first | exact det_fieldAddr rfl fo37_1 | exact det_fieldAddrS rfl fo37_1)) rfl ?_
 refine WS.det rfl rfl rfl ((by first | exact det_ldL rfl (by assumption) (by omega) tk35 | exact det_loadb (j := 0) rfl rfl rfl tk35 | exact det_loadb (j := 1) rfl rfl rfl tk35 | exact det_loadb (j := 2) rfl rfl rfl tk35 | exact det_loadb (j := 3) rfl rfl rfl tk35 | exact det_loadw rfl (by assumption) rfl tk35)) rfl ?_
 refine WS.det rfl rfl rfl ((by first | exact det_lenS sl35 rfl (by assumption) | exact det_lenS sl35 rfl (by first | exact SlL.sp (by assumption) | exact ClS.sp (by assumption)) | exact det_lenO sl35 rfl | exact det_lenV sl35 rfl ⟨_, _, rfl⟩)) rfl ?_
 refine WS.det rfl rfl rfl (det_move rfl) rfl ?_
 refine N4 ?_
 refine CS.block ?_
 refine CS.loopM (σ := Int × Int) [6, 14, 15, 16, 17, 18, 19, 20, 21, 22, 23] (fun s => [(13, .int .i64 s.1), (4, .int .i64 s.2)]) (fun _ => _) (fun s => 0 ≤ s.1 ∧ s.1 ≤ z.prs.l.length ∧ s.2 = cnt (z.prs.l.take s.1.toNat) (-2 - p)) (fun s => (z.prs.l.length - s.1).toNat) (0, 0) (fun _ _ => rfl) rfl rfl ⟨by simp, by simp, rfl⟩ ?_
 intro s t hs
 obtain ⟨hs1, hs2, hs3⟩ := hs
 have hcl := cnt_le (z.prs.l.take s.1.toNat) (-2 - p)
 have htl := List.length_take_le s.1.toNat z.prs.l
 refine N3 ?_
 refine WS.det rfl rfl rfl (det_lt rfl rfl) rfl ?_
 refine N4 ?_
 refine CS.seq ?_
 refine CS.cond rfl (fun hc1 => ?_) (fun hc1 => ?_) <;> (try simp only [bq] at hc1)
 ·
  refine CS.skip ?_
  refine QS.then_code ?_
  refine CS.seq ?_
  refine CS.block ?_
  refine N3 ?_
  refine WS.det rfl rfl rfl ((by first | exact det_idxI sl35 rfl rfl (by assumption) (by omega) (by omega) | exact det_idxO sl35 rfl rfl (by omega) (by omega))) rfl ?_
  refine WS.det rfl rfl rfl ((by first | exact det_ldI rfl (by assumption) (by omega) tk3 | exact det_loadb (j := 0) rfl rfl rfl tk3 | exact det_loadb (j := 1) rfl rfl rfl tk3 | exact det_loadb (j := 2) rfl rfl rfl tk3 | exact det_loadb (j := 3) rfl rfl rfl tk3 | exact det_loadw rfl (by assumption) rfl tk3)) rfl ?_
  refine WS.det rfl rfl rfl (det_assign rfl) rfl ?_
  refine N1 ?_
  refine WS.det rfl rfl rfl (det_move rfl) rfl ?_
  refine WS.det rfl rfl rfl (det_move rfl) rfl ?_
  refine WS.det rfl rfl rfl (det_sub rfl rfl (by omega)) rfl ?_
  refine WS.det rfl rfl rfl (det_eq rfl rfl) rfl ?_
  refine N4 ?_
  refine CS.cond rfl (fun hc2 => ?_) (fun hc2 => ?_) <;> (try simp only [bq] at hc2)
  ·
   refine CS.region ?_
   refine WS.det rfl rfl rfl (det_move rfl) rfl ?_
   refine WS.det rfl rfl rfl (det_add rfl rfl (by omega)) rfl ?_
   refine WS.det rfl rfl rfl (det_assign rfl) rfl ?_
   refine WS.done ?_
   refine QS.block_normal ?_
   refine QS.then_code ?_
   refine CS.region ?_
   refine WS.det rfl rfl rfl (det_add rfl rfl (by omega)) rfl ?_
   refine WS.det rfl rfl rfl (det_move rfl) rfl ?_
   refine WS.done ?_
   exact QS.head ((s.1 + 1, s.2 + 1)) rfl rfl ⟨⟨by simp; omega, by simp; omega, by simp only; rw [cnt_takeS hs1 (by omega), if_pos hc2, hs3]⟩, by simp; omega⟩
  ·
   refine CS.skip ?_
   refine QS.block_normal ?_
   refine QS.then_code ?_
   refine CS.region ?_
   refine WS.det rfl rfl rfl (det_add rfl rfl (by omega)) rfl ?_
   refine WS.det rfl rfl rfl (det_move rfl) rfl ?_
   refine WS.done ?_
   exact QS.head ((s.1 + 1, s.2)) rfl rfl ⟨⟨by simp; omega, by simp; omega, by simp only; rw [cnt_takeS hs1 (by omega), if_neg hc2, hs3, Int.add_zero]⟩, by simp; omega⟩
 ·
  refine CS.leave ?_
  iterate 2 refine QS.then_exit ?_
  refine QS.block_exit ?_
  refine QS.then_code ?_
  refine N3 ?_
  refine WS.det rfl rfl rfl (det_move rfl) rfl ?_
  refine WS.det rfl rfl rfl (det_assign rfl) rfl ?_
  refine N4 ?_
  refine CS.ret ?_
  exact out1 rfl rfl (retBe (by rw [hs3, List.take_of_length_le (by omega)]))
theorem settleF_c (tb : Nat) (r : Room) (z : Stt) (w : World) (hT : TabOk w tb r z) (b1 : Nat) (e1 : TypeId) (h1 : BlkAt w b1 [.pointer (some ⟨tb, 0, none⟩)] e1) (a : Auto) (ha : SlT cLit w a.wh) (hb : (0 ≤ a.t ∧ a.t < z.ths.l.length) ∧ condIn z.ths.l.length a.wh.l) :
  Calls Tryd.prog 105 #[.agg #[a.wh.v, .int .i64 a.t, .int .i64 a.s], .pointer (some ⟨b1, 0, none⟩)] w (RetB w (.bool (!decide (nth z.ths.l a.t = a.s) && holdB z.ths.l a.wh.l))) := by
 have hTb := hT.blk
 have hr := hT.room
 have zth := hT.st.ths.ints
 have zpr := hT.st.prs.ints
 have zpl := hT.st.pls.ints
 have mth := zth.le
 have mpr := zpr.le
 have mpl := zpl.le
 have oa := Sl.one ha
 refine enter Tryd.func105 rfl rfl (Nat.le_of_ble_eq_true rfl) ?_
 refine N3 ?_
 refine WS.box rfl rfl (fun _ => rfl) ?_; intro b2 hb2
 refine WS.det rfl rfl rfl (det_assign rfl) rfl ?_
 refine N4 ?_
 refine CS.seq ?_
 refine CS.draw mixed (by kernel_rfl) (by kernel_rfl) ?_
 refine DS.det rfl rfl ((by first | exact det_loadb (j := 0) rfl rfl rfl tk85 | exact det_loadb (j := 1) rfl rfl rfl tk85 | exact det_loadb (j := 2) rfl rfl rfl tk85 | exact det_loadb (j := 3) rfl rfl rfl tk85 | exact det_loadw rfl (by assumption) rfl tk85)) rfl ?_
 refine DS.det rfl rfl (det_nilCheck rfl) rfl ?_
 refine DS.det rfl rfl ((by first | exact det_fieldAddr rfl fo115_1 | exact det_fieldAddrS rfl fo115_1)) rfl ?_
 refine DS.det rfl rfl ((by first | exact det_fieldAddr rfl fo37_0 | exact det_fieldAddrS rfl fo37_0)) rfl ?_
 refine DS.det rfl rfl ((by first | exact det_ldL rfl (by assumption) (by omega) tk35 | exact det_loadb (j := 0) rfl rfl rfl tk35 | exact det_loadb (j := 1) rfl rfl rfl tk35 | exact det_loadb (j := 2) rfl rfl rfl tk35 | exact det_loadb (j := 3) rfl rfl rfl tk35 | exact det_loadw rfl (by assumption) rfl tk35)) rfl ?_
 refine DS.det rfl rfl ((by first | exact det_fieldAddr rfl fo81_1 | exact det_fieldAddrS rfl fo81_1)) rfl ?_
 refine DS.det rfl rfl ((by first | exact det_fieldAddr rfl fo79_0 | exact det_fieldAddrS rfl fo79_0)) rfl ?_
 refine DS.det rfl rfl ((by first | exact det_loadb (j := 0) rfl rfl rfl tk3 | exact det_loadw rfl (by assumption) rfl tk3)) rfl ?_
 refine DS.det rfl rfl ((by first | exact det_idxI sl35 rfl rfl (by assumption) (by omega) (by omega) | exact det_idxO sl35 rfl rfl (by omega) (by omega))) rfl ?_
 refine DS.det rfl rfl ((by first | exact det_ldI rfl (by assumption) (by omega) tk3 | exact det_loadb (j := 0) rfl rfl rfl tk3 | exact det_loadb (j := 1) rfl rfl rfl tk3 | exact det_loadb (j := 2) rfl rfl rfl tk3 | exact det_loadb (j := 3) rfl rfl rfl tk3 | exact det_loadw rfl (by assumption) rfl tk3)) rfl ?_
 refine DS.det rfl rfl ((by first | exact det_fieldAddr rfl fo81_1 | exact det_fieldAddrS rfl fo81_1)) rfl ?_
 refine DS.det rfl rfl ((by first | exact det_fieldAddr rfl fo79_1 | exact det_fieldAddrS rfl fo79_1)) rfl ?_
 refine DS.det rfl rfl ((by first | exact det_loadb (j := 0) rfl rfl rfl tk3 | exact det_loadw rfl (by assumption) rfl tk3)) rfl ?_
 refine DS.det rfl rfl (det_ne rfl rfl) rfl ?_
 refine DS.det rfl rfl (det_move rfl) rfl ?_
 refine DS.guardT rfl rfl rfl (fun hg => (by first | exact det_loadb (j := 0) rfl rfl rfl tk85 | exact det_loadb (j := 1) rfl rfl rfl tk85 | exact det_loadb (j := 2) rfl rfl rfl tk85 | exact det_loadb (j := 3) rfl rfl rfl tk85 | exact det_loadw rfl (by assumption) rfl tk85)) rfl ?_
 refine DS.guardT rfl rfl rfl (fun hg => (by first | exact det_fieldAddr rfl fo81_0 | exact det_fieldAddrS rfl fo81_0)) rfl ?_
 refine DS.guardT rfl rfl rfl (fun hg => (by first | exact det_loadb (j := 0) (ev_cond hg rfl) rfl rfl tk29 | exact det_loadw (ev_cond hg rfl) (by assumption) rfl tk29)) rfl ?_
 refine DS.guardT rfl rfl rfl (fun hg => det_callB rfl (evs_cons (ev_cond hg rfl) (evs_cons (ev_cond hg rfl) evs_nil)) ent74 (fun u hu => holds_c tb r z u (hT.stt hu) a.wh (ha.st hu) hb.2)) rfl ?_
 refine DS.det rfl rfl (det_pick_and rfl rfl rfl) rfl ?_
 refine DS.det rfl rfl (det_assign rfl) rfl ?_
 refine DS.done ?_
 refine QS.then_code ?_
 refine CS.ret ?_
 exact out1 rfl rfl (retBe (by simp))
theorem autoI_eq (aus : List Auto) (ths : List Int) : idxF (fun a => !decide (nth ths a.t = a.s) && holdB ths a.wh.l) aus = autoI aus ths := by
 unfold autoI
 congr 1
 funext a
 exact Bool.and_comm _ _
set_option maxHeartbeats 1000000 in
theorem isettle_c {w u : World} (R : SA) (r : Room) (hr : RoomOk w r) (tb : Nat) (va vb vc : Value) (ths prs pls : List Int) (ha : autosIn r.aus.l ths.length) (hu : St w.heap.size w [blk tb [r.pls.v, r.ths.v, r.prs.v, r.wys.v, r.acs.v, r.aus.v, .int .i64 r.ply, r.gl.v, va, vb, vc] 115, oints 3 va (ths), oints 3 vb prs, oints 3 vc pls, R] u) :
  Calls Tryd.prog 76 #[.pointer (some ⟨tb, 0, none⟩)] u (fun e u' => ∃ o : List Int, ((∀ t, settleN r.aus.l 101 ths = some t → o = t) ∧ o.length = ths.length) ∧ e = .returned (.bool (settleN r.aus.l 101 ths).isSome) ∧ St w.heap.size w [blk tb [r.pls.v, r.ths.v, r.prs.v, r.wys.v, r.acs.v, r.aus.v, .int .i64 r.ply, r.gl.v, va, vb, vc] 115, oints 3 va (o), oints 3 vb prs, oints 3 vc pls, R] u') := by
 have kau := hr.aus
 have lau := kau.le
 refine enterI hu Tryd.func76 rfl rfl (Nat.le_of_ble_eq_true rfl) ?_
 refine N3 ?_
 refine WS.box rfl rfl (fun _ => rfl) ?_; intro b1 hb1
 refine WS.det rfl rfl rfl (det_assign rfl) rfl ?_
 refine N4 ?_
 refine CS.seq ?_
 refine N3 ?_
 refine WS.det rfl rfl rfl (det_move rfl) rfl ?_
 refine N4 ?_
 refine CS.block ?_
 refine CS.loopM (σ := Int × List Int) [2, 3, 5, 6, 7, 8, 9, 10, 11, 12, 13, 14, 15, 16, 17, 18, 19, 20, 21, 22, 23, 24, 25, 26, 27, 28, 29, 30, 31, 32, 33, 34, 35, 36, 37, 38, 39, 40, 41] (fun s => [(4, .int .i64 s.1)]) (fun s => blk b1 [.pointer (some ⟨tb, 0, none⟩)] 85 :: [blk tb [r.pls.v, r.ths.v, r.prs.v, r.wys.v, r.acs.v, r.aus.v, .int .i64 r.ply, r.gl.v, va, vb, vc] 115, oints 3 va (s.2), oints 3 vb prs, oints 3 vc pls, R]) (fun s => 0 ≤ s.1 ∧ s.1 ≤ 101 ∧ s.2.length = ths.length ∧ settleN r.aus.l 101 ths = settleN r.aus.l (101 - s.1).toNat s.2) (fun s => (101 - s.1).toNat) (0, ths) (fun _ _ => rfl) rfl rfl ⟨by simp, by simp, rfl, rfl⟩ ?_
 intro s t hs
 obtain ⟨hs1, hs2, hsl, hs4⟩ := hs
 refine N3 ?_
 refine WS.det rfl rfl rfl (det_lt rfl rfl) rfl ?_
 refine N4 ?_
 refine CS.seq ?_
 refine CS.cond rfl (fun hc1 => ?_) (fun hc1 => ?_) <;> (try simp only [bq] at hc1)
 ·
  refine CS.skip ?_
  refine QS.then_code ?_
  refine CS.seq ?_
  refine CS.block ?_
  refine N3 ?_
  refine WS.det rfl rfl rfl ((by first | exact det_loadb (j := 0) rfl rfl rfl tk85 | exact det_loadw rfl (by assumption) rfl tk85)) rfl ?_
  refine WS.det rfl rfl rfl (det_nilCheck rfl) rfl ?_
  refine WS.det rfl rfl rfl ((by first | exact det_fieldAddr rfl fo115_0 | exact det_fieldAddrS rfl fo115_0)) rfl ?_
  refine WS.det rfl rfl rfl ((by first | exact det_fieldAddr rfl fo31_5 | exact det_fieldAddrS rfl fo31_5)) rfl ?_
  refine WS.det rfl rfl rfl ((by first | exact det_loadb (j := 0) rfl rfl rfl tk27 | exact det_loadb (j := 1) rfl rfl rfl tk27 | exact det_loadb (j := 2) rfl rfl rfl tk27 | exact det_loadb (j := 3) rfl rfl rfl tk27 | exact det_loadw rfl (by assumption) rfl tk27)) rfl ?_
  refine WS.det rfl rfl rfl (det_makeFunc rfl) rfl ?_
  refine WS.det rfl rfl rfl (det_callB rfl rfl ent104 (fun u hu => IndexAu_c r.aus u (hr.aus.st hu) _ [.pointer (some ⟨b1, 0, none⟩)] (fun a => !decide (nth s.2 a.t = a.s) && holdB s.2 a.wh.l) ent105 (fun u2 h2 i a0 a1 => settleF_c tb r ⟨⟨va, s.2⟩, ⟨vb, prs⟩, ⟨vc, pls⟩⟩ u2 (TabOk.ext ⟨st_blk hu (j := 1) rfl, hr.st hu, (oints_SlI hu (j := 2) rfl).tree, (oints_SlI hu (j := 3) rfl).tree, (oints_SlI hu (j := 4) rfl).tree⟩ h2) _ _ ((st_blk hu (j := 0) rfl).ext h2) _ (((hr.st hu).aus.ext h2).at a0 a1) (by have hh := ha _ (nth_mem a0 a1); rw [← hsl] at hh; exact hh)))) rfl ?_
  refine WS.det rfl rfl rfl (det_assign rfl) rfl ?_
  refine N4 ?_
  refine CS.seq ?_
  refine N3 ?_
  refine WS.det rfl rfl rfl (det_move rfl) rfl ?_
  refine WS.det rfl rfl rfl (det_lt rfl rfl) rfl ?_
  refine N4 ?_
  refine CS.cond rfl (fun hc2 => ?_) (fun hc2 => ?_) <;> (try simp only [bq] at hc2)
  ·
   have hqa := autoI_eq r.aus.l s.2
   have hz : autoI r.aus.l s.2 < 0 := by rw [← hqa]; exact hc2
   refine N3 ?_
   refine WS.det rfl rfl rfl (det_assign rfl) rfl ?_
   refine N4 ?_
   refine CS.ret ?_
   refine QS.then_ret ?_
   refine QS.block_ret ?_
   iterate 2 refine QS.then_ret ?_
   refine QS.block_ret ?_
   refine QS.then_ret ?_
   have hv : settleN r.aus.l 101 ths = some s.2 := by rw [hs4, show (101 - s.1).toNat = (100 - s.1).toNat + 1 by omega, settleN, if_pos hz]
   exact out1 rfl rfl (fun u hu => ⟨s.2, ⟨fun t ht => (by rw [hv] at ht; exact Option.some.inj ht), hsl⟩, by rw [hv]; rfl, hu.sel [1, 1, 1, 1, 1] rfl⟩)
  ·
   have hqa := autoI_eq r.aus.l s.2
   have hau2 := autoI_lt (aus := r.aus.l) (ths := s.2) (by rw [← hqa]; exact hc2)
   rw [← hqa] at hau2
   have hat := (ha _ (nth_mem hau2.1 hau2.2)).1
   generalize idxF (fun a : Auto => !decide (nth s.2 a.t = a.s) && holdB s.2 a.wh.l) r.aus.l = q at hc2 hqa hau2 hat ⊢
   refine CS.skip ?_
   refine QS.then_code ?_
   refine CS.drawnTill 26 (k := 27) mixed rfl rfl ?_
   refine AT.take 0 rfl (by kernel_rfl) (na := 27) (by kernel_rfl) rfl (by kernel_rfl) (by kernel_rfl) (by kernel_rfl) rfl rfl ((by first | exact det_loadb (j := 0) rfl rfl rfl tk85 | exact det_loadw rfl (by assumption) rfl tk85)) rfl rfl ?_
   refine AT.take 1 rfl (by kernel_rfl) (na := 27) (by kernel_rfl) rfl (by kernel_rfl) (by kernel_rfl) (by kernel_rfl) rfl rfl (det_nilCheck rfl) rfl rfl ?_
   refine AT.take 2 rfl (by kernel_rfl) (na := 27) (by kernel_rfl) rfl (by kernel_rfl) (by kernel_rfl) (by kernel_rfl) rfl rfl ((by first | exact det_fieldAddr rfl fo115_1 | exact det_fieldAddrS rfl fo115_1)) rfl rfl ?_
   refine AT.take 3 rfl (by kernel_rfl) (na := 27) (by kernel_rfl) rfl (by kernel_rfl) (by kernel_rfl) (by kernel_rfl) rfl rfl ((by first | exact det_fieldAddr rfl fo37_0 | exact det_fieldAddrS rfl fo37_0)) rfl rfl ?_
   refine AT.take 4 rfl (by kernel_rfl) (na := 27) (by kernel_rfl) rfl (by kernel_rfl) (by kernel_rfl) (by kernel_rfl) rfl rfl ((by first | exact det_ldL rfl (by assumption) (by omega) tk35 | exact det_loadb (j := 0) rfl rfl rfl tk35 | exact det_loadb (j := 1) rfl rfl rfl tk35 | exact det_loadb (j := 2) rfl rfl rfl tk35 | exact det_loadb (j := 3) rfl rfl rfl tk35 | exact det_loadw rfl (by assumption) rfl tk35)) rfl rfl ?_
   refine AT.take 5 rfl (by kernel_rfl) (na := 27) (by kernel_rfl) rfl (by kernel_rfl) (by kernel_rfl) (by kernel_rfl) rfl rfl ((by first | exact det_loadb (j := 0) rfl rfl rfl tk85 | exact det_loadw rfl (by assumption) rfl tk85)) rfl rfl ?_
   refine AT.take 6 rfl (by kernel_rfl) (na := 27) (by kernel_rfl) rfl (by kernel_rfl) (by kernel_rfl) (by kernel_rfl) rfl rfl (det_nilCheck rfl) rfl rfl ?_
   refine AT.take 7 rfl (by kernel_rfl) (na := 27) (by kernel_rfl) rfl (by kernel_rfl) (by kernel_rfl) (by kernel_rfl) rfl rfl ((by first | exact det_fieldAddr rfl fo115_0 | exact det_fieldAddrS rfl fo115_0)) rfl rfl ?_
   refine AT.take 8 rfl (by kernel_rfl) (na := 27) (by kernel_rfl) rfl (by kernel_rfl) (by kernel_rfl) (by kernel_rfl) rfl rfl ((by first | exact det_fieldAddr rfl fo31_5 | exact det_fieldAddrS rfl fo31_5)) rfl rfl ?_
   refine AT.take 9 rfl (by kernel_rfl) (na := 27) (by kernel_rfl) rfl (by kernel_rfl) (by kernel_rfl) (by kernel_rfl) rfl rfl ((by first | exact det_loadb (j := 0) rfl rfl rfl tk27 | exact det_loadb (j := 1) rfl rfl rfl tk27 | exact det_loadb (j := 2) rfl rfl rfl tk27 | exact det_loadb (j := 3) rfl rfl rfl tk27 | exact det_loadw rfl (by assumption) rfl tk27)) rfl rfl ?_
   refine AT.take 10 rfl (by kernel_rfl) (na := 27) (by kernel_rfl) rfl (by kernel_rfl) (by kernel_rfl) (by kernel_rfl) rfl rfl (det_move rfl) rfl rfl ?_
   refine AT.take 11 rfl (by kernel_rfl) (na := 27) (by kernel_rfl) rfl (by kernel_rfl) (by kernel_rfl) (by kernel_rfl) rfl rfl (det_idxU sl27 rfl rfl (by assumption) rfl (by omega) (by omega)) rfl rfl ?_
   refine AT.take 12 rfl (by kernel_rfl) (na := 27) (by kernel_rfl) rfl (by kernel_rfl) (by kernel_rfl) (by kernel_rfl) rfl rfl ((by first | exact det_fieldAddr rfl fo81_1 | exact det_fieldAddrS rfl fo81_1)) rfl rfl ?_
   refine AT.take 13 rfl (by kernel_rfl) (na := 27) (by kernel_rfl) rfl (by kernel_rfl) (by kernel_rfl) (by kernel_rfl) rfl rfl ((by first | exact det_fieldAddr rfl fo79_0 | exact det_fieldAddrS rfl fo79_0)) rfl rfl ?_
   refine AT.take 14 rfl (by kernel_rfl) (na := 27) (by kernel_rfl) rfl (by kernel_rfl) (by kernel_rfl) (by kernel_rfl) rfl rfl ((by first | exact det_ldUc 3 1 rfl (by assumption) rfl ⟨(by omega), (by omega)⟩ (by decide) rfl tk3)) rfl rfl ?_
   refine AT.take 15 rfl (by kernel_rfl) (na := 27) (by kernel_rfl) rfl (by kernel_rfl) (by kernel_rfl) (by kernel_rfl) rfl rfl ((by first | exact det_loadb (j := 0) rfl rfl rfl tk85 | exact det_loadw rfl (by assumption) rfl tk85)) rfl rfl ?_
   refine AT.take 16 rfl (by kernel_rfl) (na := 27) (by kernel_rfl) rfl (by kernel_rfl) (by kernel_rfl) (by kernel_rfl) rfl rfl (det_nilCheck rfl) rfl rfl ?_
   refine AT.take 17 rfl (by kernel_rfl) (na := 27) (by kernel_rfl) rfl (by kernel_rfl) (by kernel_rfl) (by kernel_rfl) rfl rfl ((by first | exact det_fieldAddr rfl fo115_0 | exact det_fieldAddrS rfl fo115_0)) rfl rfl ?_
   refine AT.take 18 rfl (by kernel_rfl) (na := 27) (by kernel_rfl) rfl (by kernel_rfl) (by kernel_rfl) (by kernel_rfl) rfl rfl ((by first | exact det_fieldAddr rfl fo31_5 | exact det_fieldAddrS rfl fo31_5)) rfl rfl ?_
   refine AT.take 19 rfl (by kernel_rfl) (na := 27) (by kernel_rfl) rfl (by kernel_rfl) (by kernel_rfl) (by kernel_rfl) rfl rfl ((by first | exact det_loadb (j := 0) rfl rfl rfl tk27 | exact det_loadb (j := 1) rfl rfl rfl tk27 | exact det_loadb (j := 2) rfl rfl rfl tk27 | exact det_loadb (j := 3) rfl rfl rfl tk27 | exact det_loadw rfl (by assumption) rfl tk27)) rfl rfl ?_
   refine AT.take 20 rfl (by kernel_rfl) (na := 27) (by kernel_rfl) rfl (by kernel_rfl) (by kernel_rfl) (by kernel_rfl) rfl rfl (det_move rfl) rfl rfl ?_
   refine AT.take 21 rfl (by kernel_rfl) (na := 27) (by kernel_rfl) rfl (by kernel_rfl) (by kernel_rfl) (by kernel_rfl) rfl rfl (det_idxU sl27 rfl rfl (by assumption) rfl (by omega) (by omega)) rfl rfl ?_
   refine AT.take 22 rfl (by kernel_rfl) (na := 27) (by kernel_rfl) rfl (by kernel_rfl) (by kernel_rfl) (by kernel_rfl) rfl rfl ((by first | exact det_fieldAddr rfl fo81_1 | exact det_fieldAddrS rfl fo81_1)) rfl rfl ?_
   refine AT.take 23 rfl (by kernel_rfl) (na := 27) (by kernel_rfl) rfl (by kernel_rfl) (by kernel_rfl) (by kernel_rfl) rfl rfl ((by first | exact det_fieldAddr rfl fo79_1 | exact det_fieldAddrS rfl fo79_1)) rfl rfl ?_
   refine AT.take 24 rfl (by kernel_rfl) (na := 27) (by kernel_rfl) rfl (by kernel_rfl) (by kernel_rfl) (by kernel_rfl) rfl rfl ((by first | exact det_ldUc 3 2 rfl (by assumption) rfl ⟨(by omega), (by omega)⟩ (by decide) rfl tk3)) rfl rfl ?_
   refine AT.take 25 rfl (by kernel_rfl) (na := 27) (by kernel_rfl) rfl (by kernel_rfl) (by kernel_rfl) (by kernel_rfl) rfl rfl (det_idxOI (j := 2) sl35 rfl rfl rfl (by omega) (by omega)) rfl rfl ?_
   refine AT.one (i := 26) (by kernel_rfl) rfl (by first | (intro h; exact absurd h (by decide)) | exact fun _ _ h => h | exact fun _ _ h => h.sub (by repeat first | exact List.Sublist.refl _ | apply List.Sublist.cons_cons | apply List.Sublist.cons)) rfl ?_
   refine WS.storeOI (j := 2) rfl rfl (by omega) rfl tk3 rfl ?_
   refine WS.done ?_
   refine QS.then_AT ?_
   refine AT.done (by kernel_rfl) (by first | (intro h; exact absurd h (by decide)) | exact fun _ _ h => h | exact fun _ _ h => h.sub (by repeat first | exact List.Sublist.refl _ | apply List.Sublist.cons_cons | apply List.Sublist.cons)) ?_
   refine QS.block_normal ?_
   refine QS.then_code ?_
   refine CS.region ?_
   refine WS.det rfl rfl rfl (det_add rfl rfl (by omega)) rfl ?_
   refine WS.det rfl rfl rfl (det_move rfl) rfl ?_
   refine WS.done ?_
   exact QS.head ((s.1 + 1, s.2.set (nth r.aus.l q).t.toNat (nth r.aus.l q).s)) rfl rfl ⟨⟨by simp; omega, by simp; omega, by simp [hsl], by
       rw [hs4, show (101 - s.1).toNat = (101 - (s.1 + 1)).toNat + 1 by omega, settleN, if_neg (by rw [← hqa]; exact hc2), ← hqa]⟩, by simp; omega⟩
 ·
  refine CS.leave ?_
  iterate 2 refine QS.then_exit ?_
  refine QS.block_exit ?_
  refine QS.then_code ?_
  refine N3 ?_
  refine WS.det rfl rfl rfl (det_assign rfl) rfl ?_
  refine N4 ?_
  refine CS.ret ?_
  have hv : settleN r.aus.l 101 ths = none := by rw [hs4, show (101 - s.1).toNat = 0 by omega]; rfl
  exact out1 rfl rfl (fun u hu => ⟨s.2, ⟨fun t ht => (by rw [hv] at ht; cases ht), hsl⟩, by rw [hv]; rfl, hu.sel [1, 1, 1, 1, 1] rfl⟩)
end Go.Proofs.YtgbofmnbakfalaaDoor
namespace Go.Proofs.YtgbofmnbakfalaaDoor
open Go.RowKit Go.Proofs
set_option maxRecDepth 100000
set_option linter.unusedVariables false
set_option linter.unusedSimpArgs false
set_option maxHeartbeats 2000000 in
theorem imove_c {w u : World} (R : SA) (r : Room) (hr : RoomOk w r) (hR : Ready r) (tb : Nat) (va vb vc : Value) (x : P3) (hI : StIn r x) (m : Move) (hL : legalB r x m = true) (hu : St w.heap.size w [blk tb [r.pls.v, r.ths.v, r.prs.v, r.wys.v, r.acs.v, r.aus.v, .int .i64 r.ply, r.gl.v, va, vb, vc] 115, oints 3 va (x.1), oints 3 vb (x.2.1), oints 3 vc (x.2.2), R] u) :
  Calls Tryd.prog 70 #[.pointer (some ⟨tb, 0, none⟩), .agg #[.int .i64 m.p, .int .i64 m.k, .int .i64 m.n]] u (fun e u' => ∃ _q : Unit, True ∧ e = .returned (.tuple #[]) ∧ St w.heap.size w [blk tb [r.pls.v, r.ths.v, r.prs.v, r.wys.v, r.acs.v, r.aus.v, .int .i64 r.ply, r.gl.v, va, vb, vc] 115, oints 3 va ((moveX r x m).1), oints 3 vb ((moveX r x m).2.1), oints 3 vc ((moveX r x m).2.2), R] u') := by
 have kpl := hr.pls
 have lpl := hr.pls.le
 have kth := hr.ths
 have lth := hr.ths.le
 have kpr := hr.prs
 have lpr := hr.prs.le
 have kwy := hr.wys
 have lwy := hr.wys.le
 have kac := hr.acs
 have lac := hr.acs.le
 have kau := hr.aus
 have lau := hr.aus.le
 have kgl := hr.gl
 have lgl := hr.gl.le
 have hlen := hR.lens
 have hply := hR.ply
 have hlt := hI.lt
 have hlp := hI.lp
 have hll := hI.ll
 have hM := move_in hR hI hL
 have hMp := hM.p
 have hat := hI.at (i := m.p) (by omega) (by omega)
 refine enterI hu Tryd.func70 rfl rfl (Nat.le_of_ble_eq_true rfl) ?_
 refine N3 ?_
 refine WS.box rfl rfl (fun _ => rfl) ?_; intro b3 hb3
 refine N1 ?_
 refine WS.det rfl rfl rfl ((by first | exact det_fieldAddr rfl fo52_0 | exact det_fieldAddrS rfl fo52_0)) rfl ?_
 refine WS.det rfl rfl rfl ((by first | exact det_loadb (j := 0) rfl rfl rfl tk3 | exact det_loadw rfl (by assumption) rfl tk3)) rfl ?_
 refine WS.det rfl rfl rfl (det_sub rfl rfl (by omega)) rfl ?_
 refine WS.det rfl rfl rfl (det_assign rfl) rfl ?_
 refine N1 ?_
 refine WS.det rfl rfl rfl ((by first | exact det_fieldAddr rfl fo52_1 | exact det_fieldAddrS rfl fo52_1)) rfl ?_
 refine WS.det rfl rfl rfl ((by first | exact det_loadb (j := 0) rfl rfl rfl tk3 | exact det_loadw rfl (by assumption) rfl tk3)) rfl ?_
 refine N4 ?_
 refine CS.block ?_
 refine N3 ?_
 refine WS.det rfl rfl rfl (det_eq rfl rfl) rfl ?_
 refine WS.det rfl rfl rfl (det_assign rfl) rfl ?_
 refine N4 ?_
 refine CS.cond rfl (fun hc1 => ?_) (fun hc1 => ?_) <;> (try simp only [bq] at hc1)
 ·
  have hn := hM.go hc1
  have hwy := hR.wys _ (nth_mem hn.1 hn.2)
  have hwh : SlT cLit w (nth r.wys.l m.n).wh := hr.wys.at hn.1 hn.2
  have hmv : moveX r x m = (x.1, x.2.1, x.2.2.set m.p.toNat ((nth r.wys.l m.n).a + (nth r.wys.l m.n).b - nth x.2.2 m.p)) := if_pos hc1
  refine CS.seq ?_
  refine CS.drawnAll (k := 11) mixed rfl rfl ?_
  refine AS.take 0 rfl (by kernel_rfl) (by kernel_rfl) (by kernel_rfl) rfl rfl (det_move rfl) rfl rfl ?_
  refine AS.take 1 rfl (by kernel_rfl) (by kernel_rfl) (by kernel_rfl) rfl rfl (det_nilCheck rfl) rfl rfl ?_
  refine AS.take 2 rfl (by kernel_rfl) (by kernel_rfl) (by kernel_rfl) rfl rfl ((by first | exact det_fieldAddr rfl fo115_0 | exact det_fieldAddrS rfl fo115_0)) rfl rfl ?_
  refine AS.take 3 rfl (by kernel_rfl) (by kernel_rfl) (by kernel_rfl) rfl rfl ((by first | exact det_fieldAddr rfl fo31_3 | exact det_fieldAddrS rfl fo31_3)) rfl rfl ?_
  refine AS.take 4 rfl (by kernel_rfl) (by kernel_rfl) (by kernel_rfl) rfl rfl ((by first | exact det_loadb (j := 0) rfl rfl rfl tk25 | exact det_loadb (j := 1) rfl rfl rfl tk25 | exact det_loadb (j := 2) rfl rfl rfl tk25 | exact det_loadb (j := 3) rfl rfl rfl tk25 | exact det_loadb (j := 4) rfl rfl rfl tk25 | exact det_loadb (j := 5) rfl rfl rfl tk25 | exact det_loadb (j := 6) rfl rfl rfl tk25 | exact det_loadb (j := 7) rfl rfl rfl tk25 | exact det_loadb (j := 8) rfl rfl rfl tk25 | exact det_loadw rfl (by assumption) rfl tk25)) rfl rfl ?_
  refine AS.take 5 rfl (by kernel_rfl) (by kernel_rfl) (by kernel_rfl) rfl rfl ((by first | exact det_fieldAddr rfl fo52_2 | exact det_fieldAddrS rfl fo52_2)) rfl rfl ?_
  refine AS.take 6 rfl (by kernel_rfl) (by kernel_rfl) (by kernel_rfl) rfl rfl ((by first | exact det_loadb (j := 0) rfl rfl rfl tk3 | exact det_loadw rfl (by assumption) rfl tk3)) rfl rfl ?_
  refine AS.take 7 rfl (by kernel_rfl) (by kernel_rfl) (by kernel_rfl) rfl rfl (det_idxU sl25 rfl rfl (by assumption) rfl (by omega) (by omega)) rfl rfl ?_
  refine AS.take 8 rfl (by kernel_rfl) (by kernel_rfl) (by kernel_rfl) rfl rfl ((by first | exact det_ldU rfl (by assumption) rfl ⟨(by omega), (by omega)⟩ rfl tk74)) rfl rfl ?_
  refine AS.one (i := 9) (by kernel_rfl) rfl (by first | exact fun _ h => h | exact fun _ h => h.sub (by repeat first | exact List.Sublist.refl _ | apply List.Sublist.cons_cons | apply List.Sublist.cons)) rfl ?_
  refine WS.alloc zv74 (fun _ => rfl) ?_; intro b5 hb5
  refine WS.done ?_
  refine QS.then_AS ?_
  refine AS.one (i := 10) (by kernel_rfl) rfl (by first | exact fun _ h => h | exact fun _ h => h.sub (by repeat first | exact List.Sublist.refl _ | apply List.Sublist.cons_cons | apply List.Sublist.cons)) rfl ?_
  first | refine WS.storeW (j := 0) rfl rfl rfl rfl (by first | (simp [Value.oneCell']; done) | ((repeat (refine List.forall_mem_cons.2 ⟨by first | rfl | assumption, ?_⟩)); exact fun _ h => absurd h List.not_mem_nil) | exact Cel.one _ w _ (by first | assumption | exact trivial)) tk74 rfl rfl ?_
  refine WS.done ?_
  refine QS.then_AS ?_
  refine AS.done (by kernel_rfl) (by first | exact fun _ h => h | exact fun _ h => h.sub (by repeat first | exact List.Sublist.refl _ | apply List.Sublist.cons_cons | apply List.Sublist.cons)) ?_
  refine QS.then_code ?_
  refine CS.drawnTill 23 (k := 24) mixed rfl rfl ?_
  refine AT.take 0 rfl (by kernel_rfl) (na := 24) (by kernel_rfl) rfl (by kernel_rfl) (by kernel_rfl) (by kernel_rfl) rfl rfl (det_move rfl) rfl rfl ?_
  refine AT.take 1 rfl (by kernel_rfl) (na := 24) (by kernel_rfl) rfl (by kernel_rfl) (by kernel_rfl) (by kernel_rfl) rfl rfl (det_nilCheck rfl) rfl rfl ?_
  refine AT.take 2 rfl (by kernel_rfl) (na := 24) (by kernel_rfl) rfl (by kernel_rfl) (by kernel_rfl) (by kernel_rfl) rfl rfl ((by first | exact det_fieldAddr rfl fo115_1 | exact det_fieldAddrS rfl fo115_1)) rfl rfl ?_
  refine AT.take 3 rfl (by kernel_rfl) (na := 24) (by kernel_rfl) rfl (by kernel_rfl) (by kernel_rfl) (by kernel_rfl) rfl rfl ((by first | exact det_fieldAddr rfl fo37_2 | exact det_fieldAddrS rfl fo37_2)) rfl rfl ?_
  refine AT.take 4 rfl (by kernel_rfl) (na := 24) (by kernel_rfl) rfl (by kernel_rfl) (by kernel_rfl) (by kernel_rfl) rfl rfl ((by first | exact det_ldL rfl (by assumption) (by omega) tk35 | exact det_loadb (j := 0) rfl rfl rfl tk35 | exact det_loadb (j := 1) rfl rfl rfl tk35 | exact det_loadb (j := 2) rfl rfl rfl tk35 | exact det_loadb (j := 3) rfl rfl rfl tk35 | exact det_loadb (j := 4) rfl rfl rfl tk35 | exact det_loadb (j := 5) rfl rfl rfl tk35 | exact det_loadb (j := 6) rfl rfl rfl tk35 | exact det_loadb (j := 7) rfl rfl rfl tk35 | exact det_loadb (j := 8) rfl rfl rfl tk35 | exact det_loadw rfl (by assumption) rfl tk35)) rfl rfl ?_
  refine AT.take 5 rfl (by kernel_rfl) (na := 24) (by kernel_rfl) rfl (by kernel_rfl) (by kernel_rfl) (by kernel_rfl) rfl rfl ((by first | exact det_fieldAddr rfl fo52_0 | exact det_fieldAddrS rfl fo52_0)) rfl rfl ?_
  refine AT.take 6 rfl (by kernel_rfl) (na := 24) (by kernel_rfl) rfl (by kernel_rfl) (by kernel_rfl) (by kernel_rfl) rfl rfl ((by first | exact det_loadb (j := 1) rfl rfl rfl tk3 | exact det_loadw rfl (by assumption) rfl tk3)) rfl rfl ?_
  refine AT.take 7 rfl (by kernel_rfl) (na := 24) (by kernel_rfl) rfl (by kernel_rfl) (by kernel_rfl) (by kernel_rfl) rfl rfl ((by first | exact det_fieldAddr rfl fo74_0 | exact det_fieldAddrS rfl fo74_0)) rfl rfl ?_
  refine AT.take 8 rfl (by kernel_rfl) (na := 24) (by kernel_rfl) rfl (by kernel_rfl) (by kernel_rfl) (by kernel_rfl) rfl rfl ((by first | exact det_loadb (j := 0) rfl rfl rfl tk3 | exact det_loadw rfl (by assumption) rfl tk3)) rfl rfl ?_
  refine AT.take 9 rfl (by kernel_rfl) (na := 24) (by kernel_rfl) rfl (by kernel_rfl) (by kernel_rfl) (by kernel_rfl) rfl rfl ((by first | exact det_fieldAddr rfl fo74_1 | exact det_fieldAddrS rfl fo74_1)) rfl rfl ?_
  refine AT.take 10 rfl (by kernel_rfl) (na := 24) (by kernel_rfl) rfl (by kernel_rfl) (by kernel_rfl) (by kernel_rfl) rfl rfl ((by first | exact det_loadb (j := 0) rfl rfl rfl tk3 | exact det_loadw rfl (by assumption) rfl tk3)) rfl rfl ?_
  refine AT.take 11 rfl (by kernel_rfl) (na := 24) (by kernel_rfl) rfl (by kernel_rfl) (by kernel_rfl) (by kernel_rfl) rfl rfl (det_add rfl rfl (by omega)) rfl rfl ?_
  refine AT.take 12 rfl (by kernel_rfl) (na := 24) (by kernel_rfl) rfl (by kernel_rfl) (by kernel_rfl) (by kernel_rfl) rfl rfl (det_move rfl) rfl rfl ?_
  refine AT.take 13 rfl (by kernel_rfl) (na := 24) (by kernel_rfl) rfl (by kernel_rfl) (by kernel_rfl) (by kernel_rfl) rfl rfl (det_nilCheck rfl) rfl rfl ?_
  refine AT.take 14 rfl (by kernel_rfl) (na := 24) (by kernel_rfl) rfl (by kernel_rfl) (by kernel_rfl) (by kernel_rfl) rfl rfl ((by first | exact det_fieldAddr rfl fo115_1 | exact det_fieldAddrS rfl fo115_1)) rfl rfl ?_
  refine AT.take 15 rfl (by kernel_rfl) (na := 24) (by kernel_rfl) rfl (by kernel_rfl) (by kernel_rfl) (by kernel_rfl) rfl rfl ((by first | exact det_fieldAddr rfl fo37_2 | exact det_fieldAddrS rfl fo37_2)) rfl rfl ?_
  refine AT.take 16 rfl (by kernel_rfl) (na := 24) (by kernel_rfl) rfl (by kernel_rfl) (by kernel_rfl) (by kernel_rfl) rfl rfl ((by first | exact det_ldL rfl (by assumption) (by omega) tk35 | exact det_loadb (j := 0) rfl rfl rfl tk35 | exact det_loadb (j := 1) rfl rfl rfl tk35 | exact det_loadb (j := 2) rfl rfl rfl tk35 | exact det_loadb (j := 3) rfl rfl rfl tk35 | exact det_loadb (j := 4) rfl rfl rfl tk35 | exact det_loadb (j := 5) rfl rfl rfl tk35 | exact det_loadb (j := 6) rfl rfl rfl tk35 | exact det_loadb (j := 7) rfl rfl rfl tk35 | exact det_loadb (j := 8) rfl rfl rfl tk35 | exact det_loadw rfl (by assumption) rfl tk35)) rfl rfl ?_
  refine AT.take 17 rfl (by kernel_rfl) (na := 24) (by kernel_rfl) rfl (by kernel_rfl) (by kernel_rfl) (by kernel_rfl) rfl rfl ((by first | exact det_fieldAddr rfl fo52_0 | exact det_fieldAddrS rfl fo52_0)) rfl rfl ?_
  refine AT.take 18 rfl (by kernel_rfl) (na := 24) (by kernel_rfl) rfl (by kernel_rfl) (by kernel_rfl) (by kernel_rfl) rfl rfl ((by first | exact det_loadb (j := 1) rfl rfl rfl tk3 | exact det_loadw rfl (by assumption) rfl tk3)) rfl rfl ?_
  refine AT.take 19 rfl (by kernel_rfl) (na := 24) (by kernel_rfl) rfl (by kernel_rfl) (by kernel_rfl) (by kernel_rfl) rfl rfl (det_idxOI (j := 5) sl35 rfl rfl rfl (by omega) (by omega)) rfl rfl ?_
  refine AT.take 20 rfl (by kernel_rfl) (na := 24) (by kernel_rfl) rfl (by kernel_rfl) (by kernel_rfl) (by kernel_rfl) rfl rfl (det_ldOI (j := 5) rfl rfl (by omega) tk3) rfl rfl ?_
  refine AT.take 21 rfl (by kernel_rfl) (na := 24) (by kernel_rfl) rfl (by kernel_rfl) (by kernel_rfl) (by kernel_rfl) rfl rfl (det_sub rfl rfl (by omega)) rfl rfl ?_
  refine AT.take 22 rfl (by kernel_rfl) (na := 24) (by kernel_rfl) rfl (by kernel_rfl) (by kernel_rfl) (by kernel_rfl) rfl rfl (det_idxOI (j := 5) sl35 rfl rfl rfl (by omega) (by omega)) rfl rfl ?_
  refine AT.one (i := 23) (by kernel_rfl) rfl (by first | (intro h; exact absurd h (by decide)) | exact fun _ _ h => h | exact fun _ _ h => h.sub (by repeat first | exact List.Sublist.refl _ | apply List.Sublist.cons_cons | apply List.Sublist.cons)) rfl ?_
  refine WS.storeOI (j := 5) rfl rfl (by omega) rfl tk3 rfl ?_
  refine WS.done ?_
  refine QS.then_AT ?_
  refine AT.done (by kernel_rfl) (by first | (intro h; exact absurd h (by decide)) | exact fun _ _ h => h | exact fun _ _ h => h.sub (by repeat first | exact List.Sublist.refl _ | apply List.Sublist.cons_cons | apply List.Sublist.cons)) ?_
  refine QS.block_normal ?_
  refine QS.sel [2, 2, 2, 2, 2] rfl ?_
  exact out0 (Or.inr rfl) rfl (by rw [hmv]; exact fun u hu => ⟨(), trivial, rfl, hu⟩)
 ·
  refine N3 ?_
  refine WS.det rfl rfl rfl (det_eq rfl rfl) rfl ?_
  refine WS.det rfl rfl rfl (det_assign rfl) rfl ?_
  refine N4 ?_
  refine CS.cond rfl (fun hc2 => ?_) (fun hc2 => ?_) <;> (try simp only [bq] at hc2)
  ·
   have hn := hM.pr (.inl hc2)
   have hmv : moveX r x m = (x.1, x.2.1.set m.n.toNat (-2 - m.p), x.2.2) := (if_neg hc1).trans (if_pos hc2)
   refine CS.drawnTill 9 (k := 10) mixed rfl rfl ?_
   refine AT.take 0 rfl (by kernel_rfl) (na := 10) (by kernel_rfl) rfl (by kernel_rfl) (by kernel_rfl) (by kernel_rfl) rfl rfl (det_move rfl) rfl rfl ?_
   refine AT.take 1 rfl (by kernel_rfl) (na := 10) (by kernel_rfl) rfl (by kernel_rfl) (by kernel_rfl) (by kernel_rfl) rfl rfl (det_nilCheck rfl) rfl rfl ?_
   refine AT.take 2 rfl (by kernel_rfl) (na := 10) (by kernel_rfl) rfl (by kernel_rfl) (by kernel_rfl) (by kernel_rfl) rfl rfl ((by first | exact det_fieldAddr rfl fo115_1 | exact det_fieldAddrS rfl fo115_1)) rfl rfl ?_
   refine AT.take 3 rfl (by kernel_rfl) (na := 10) (by kernel_rfl) rfl (by kernel_rfl) (by kernel_rfl) (by kernel_rfl) rfl rfl ((by first | exact det_fieldAddr rfl fo37_1 | exact det_fieldAddrS rfl fo37_1)) rfl rfl ?_
   refine AT.take 4 rfl (by kernel_rfl) (na := 10) (by kernel_rfl) rfl (by kernel_rfl) (by kernel_rfl) (by kernel_rfl) rfl rfl ((by first | exact det_ldL rfl (by assumption) (by omega) tk35 | exact det_loadb (j := 0) rfl rfl rfl tk35 | exact det_loadb (j := 1) rfl rfl rfl tk35 | exact det_loadb (j := 2) rfl rfl rfl tk35 | exact det_loadb (j := 3) rfl rfl rfl tk35 | exact det_loadb (j := 4) rfl rfl rfl tk35 | exact det_loadb (j := 5) rfl rfl rfl tk35 | exact det_loadb (j := 6) rfl rfl rfl tk35 | exact det_loadb (j := 7) rfl rfl rfl tk35 | exact det_loadb (j := 8) rfl rfl rfl tk35 | exact det_loadw rfl (by assumption) rfl tk35)) rfl rfl ?_
   refine AT.take 5 rfl (by kernel_rfl) (na := 10) (by kernel_rfl) rfl (by kernel_rfl) (by kernel_rfl) (by kernel_rfl) rfl rfl ((by first | exact det_fieldAddr rfl fo52_2 | exact det_fieldAddrS rfl fo52_2)) rfl rfl ?_
   refine AT.take 6 rfl (by kernel_rfl) (na := 10) (by kernel_rfl) rfl (by kernel_rfl) (by kernel_rfl) (by kernel_rfl) rfl rfl ((by first | exact det_loadb (j := 0) rfl rfl rfl tk3 | exact det_loadw rfl (by assumption) rfl tk3)) rfl rfl ?_
   refine AT.take 7 rfl (by kernel_rfl) (na := 10) (by kernel_rfl) rfl (by kernel_rfl) (by kernel_rfl) (by kernel_rfl) rfl rfl (det_move rfl) rfl rfl ?_
   refine AT.take 8 rfl (by kernel_rfl) (na := 10) (by kernel_rfl) rfl (by kernel_rfl) (by kernel_rfl) (by kernel_rfl) rfl rfl (det_idxOI (j := 3) sl35 rfl rfl rfl (by omega) (by omega)) rfl rfl ?_
   refine AT.one (i := 9) (by kernel_rfl) rfl (by first | (intro h; exact absurd h (by decide)) | exact fun _ _ h => h | exact fun _ _ h => h.sub (by repeat first | exact List.Sublist.refl _ | apply List.Sublist.cons_cons | apply List.Sublist.cons)) rfl ?_
   refine WS.storeOI (j := 3) rfl rfl (by omega) rfl tk3 rfl ?_
   refine WS.done ?_
   refine QS.then_AT ?_
   refine AT.done (by kernel_rfl) (by first | (intro h; exact absurd h (by decide)) | exact fun _ _ h => h | exact fun _ _ h => h.sub (by repeat first | exact List.Sublist.refl _ | apply List.Sublist.cons_cons | apply List.Sublist.cons)) ?_
   refine QS.block_normal ?_
   refine QS.sel [1, 1, 1, 1, 1] rfl ?_
   exact out0 (Or.inr rfl) rfl (by rw [hmv]; exact fun u hu => ⟨(), trivial, rfl, hu⟩)
  ·
   refine N3 ?_
   refine WS.det rfl rfl rfl (det_eq rfl rfl) rfl ?_
   refine WS.det rfl rfl rfl (det_assign rfl) rfl ?_
   refine N4 ?_
   refine CS.cond rfl (fun hc3 => ?_) (fun hc3 => ?_) <;> (try simp only [bq] at hc3)
   ·
    have hn := hM.pr (.inr hc3)
    have hmv : moveX r x m = (x.1, x.2.1.set m.n.toNat (nth x.2.2 m.p), x.2.2) := (if_neg hc1).trans ((if_neg hc2).trans (if_pos hc3))
    refine CS.drawnTill 17 (k := 18) mixed rfl rfl ?_
    refine AT.take 0 rfl (by kernel_rfl) (na := 18) (by kernel_rfl) rfl (by kernel_rfl) (by kernel_rfl) (by kernel_rfl) rfl rfl (det_move rfl) rfl rfl ?_
    refine AT.take 1 rfl (by kernel_rfl) (na := 18) (by kernel_rfl) rfl (by kernel_rfl) (by kernel_rfl) (by kernel_rfl) rfl rfl (det_nilCheck rfl) rfl rfl ?_
    refine AT.take 2 rfl (by kernel_rfl) (na := 18) (by kernel_rfl) rfl (by kernel_rfl) (by kernel_rfl) (by kernel_rfl) rfl rfl ((by first | exact det_fieldAddr rfl fo115_1 | exact det_fieldAddrS rfl fo115_1)) rfl rfl ?_
    refine AT.take 3 rfl (by kernel_rfl) (na := 18) (by kernel_rfl) rfl (by kernel_rfl) (by kernel_rfl) (by kernel_rfl) rfl rfl ((by first | exact det_fieldAddr rfl fo37_1 | exact det_fieldAddrS rfl fo37_1)) rfl rfl ?_
    refine AT.take 4 rfl (by kernel_rfl) (na := 18) (by kernel_rfl) rfl (by kernel_rfl) (by kernel_rfl) (by kernel_rfl) rfl rfl ((by first | exact det_ldL rfl (by assumption) (by omega) tk35 | exact det_loadb (j := 0) rfl rfl rfl tk35 | exact det_loadb (j := 1) rfl rfl rfl tk35 | exact det_loadb (j := 2) rfl rfl rfl tk35 | exact det_loadb (j := 3) rfl rfl rfl tk35 | exact det_loadb (j := 4) rfl rfl rfl tk35 | exact det_loadb (j := 5) rfl rfl rfl tk35 | exact det_loadb (j := 6) rfl rfl rfl tk35 | exact det_loadb (j := 7) rfl rfl rfl tk35 | exact det_loadb (j := 8) rfl rfl rfl tk35 | exact det_loadw rfl (by assumption) rfl tk35)) rfl rfl ?_
    refine AT.take 5 rfl (by kernel_rfl) (na := 18) (by kernel_rfl) rfl (by kernel_rfl) (by kernel_rfl) (by kernel_rfl) rfl rfl ((by first | exact det_fieldAddr rfl fo52_2 | exact det_fieldAddrS rfl fo52_2)) rfl rfl ?_
    refine AT.take 6 rfl (by kernel_rfl) (na := 18) (by kernel_rfl) rfl (by kernel_rfl) (by kernel_rfl) (by kernel_rfl) rfl rfl ((by first | exact det_loadb (j := 0) rfl rfl rfl tk3 | exact det_loadw rfl (by assumption) rfl tk3)) rfl rfl ?_
    refine AT.take 7 rfl (by kernel_rfl) (na := 18) (by kernel_rfl) rfl (by kernel_rfl) (by kernel_rfl) (by kernel_rfl) rfl rfl (det_move rfl) rfl rfl ?_
    refine AT.take 8 rfl (by kernel_rfl) (na := 18) (by kernel_rfl) rfl (by kernel_rfl) (by kernel_rfl) (by kernel_rfl) rfl rfl (det_nilCheck rfl) rfl rfl ?_
    refine AT.take 9 rfl (by kernel_rfl) (na := 18) (by kernel_rfl) rfl (by kernel_rfl) (by kernel_rfl) (by kernel_rfl) rfl rfl ((by first | exact det_fieldAddr rfl fo115_1 | exact det_fieldAddrS rfl fo115_1)) rfl rfl ?_
    refine AT.take 10 rfl (by kernel_rfl) (na := 18) (by kernel_rfl) rfl (by kernel_rfl) (by kernel_rfl) (by kernel_rfl) rfl rfl ((by first | exact det_fieldAddr rfl fo37_2 | exact det_fieldAddrS rfl fo37_2)) rfl rfl ?_
    refine AT.take 11 rfl (by kernel_rfl) (na := 18) (by kernel_rfl) rfl (by kernel_rfl) (by kernel_rfl) (by kernel_rfl) rfl rfl ((by first | exact det_ldL rfl (by assumption) (by omega) tk35 | exact det_loadb (j := 0) rfl rfl rfl tk35 | exact det_loadb (j := 1) rfl rfl rfl tk35 | exact det_loadb (j := 2) rfl rfl rfl tk35 | exact det_loadb (j := 3) rfl rfl rfl tk35 | exact det_loadb (j := 4) rfl rfl rfl tk35 | exact det_loadb (j := 5) rfl rfl rfl tk35 | exact det_loadb (j := 6) rfl rfl rfl tk35 | exact det_loadb (j := 7) rfl rfl rfl tk35 | exact det_loadb (j := 8) rfl rfl rfl tk35 | exact det_loadw rfl (by assumption) rfl tk35)) rfl rfl ?_
    refine AT.take 12 rfl (by kernel_rfl) (na := 18) (by kernel_rfl) rfl (by kernel_rfl) (by kernel_rfl) (by kernel_rfl) rfl rfl ((by first | exact det_fieldAddr rfl fo52_0 | exact det_fieldAddrS rfl fo52_0)) rfl rfl ?_
    refine AT.take 13 rfl (by kernel_rfl) (na := 18) (by kernel_rfl) rfl (by kernel_rfl) (by kernel_rfl) (by kernel_rfl) rfl rfl ((by first | exact det_loadb (j := 0) rfl rfl rfl tk3 | exact det_loadw rfl (by assumption) rfl tk3)) rfl rfl ?_
    refine AT.take 14 rfl (by kernel_rfl) (na := 18) (by kernel_rfl) rfl (by kernel_rfl) (by kernel_rfl) (by kernel_rfl) rfl rfl (det_idxOI (j := 4) sl35 rfl rfl rfl (by omega) (by omega)) rfl rfl ?_
    refine AT.take 15 rfl (by kernel_rfl) (na := 18) (by kernel_rfl) rfl (by kernel_rfl) (by kernel_rfl) (by kernel_rfl) rfl rfl (det_ldOI (j := 4) rfl rfl (by omega) tk3) rfl rfl ?_
    refine AT.take 16 rfl (by kernel_rfl) (na := 18) (by kernel_rfl) rfl (by kernel_rfl) (by kernel_rfl) (by kernel_rfl) rfl rfl (det_idxOI (j := 3) sl35 rfl rfl rfl (by omega) (by omega)) rfl rfl ?_
    refine AT.one (i := 17) (by kernel_rfl) rfl (by first | (intro h; exact absurd h (by decide)) | exact fun _ _ h => h | exact fun _ _ h => h.sub (by repeat first | exact List.Sublist.refl _ | apply List.Sublist.cons_cons | apply List.Sublist.cons)) rfl ?_
    refine WS.storeOI (j := 3) rfl rfl (by omega) rfl tk3 rfl ?_
    refine WS.done ?_
    refine QS.then_AT ?_
    refine AT.done (by kernel_rfl) (by first | (intro h; exact absurd h (by decide)) | exact fun _ _ h => h | exact fun _ _ h => h.sub (by repeat first | exact List.Sublist.refl _ | apply List.Sublist.cons_cons | apply List.Sublist.cons)) ?_
    refine QS.block_normal ?_
    refine QS.sel [1, 1, 1, 1, 1] rfl ?_
    exact out0 (Or.inr rfl) rfl (by rw [hmv]; exact fun u hu => ⟨(), trivial, rfl, hu⟩)
   ·
    refine N3 ?_
    refine WS.det rfl rfl rfl (det_eq rfl rfl) rfl ?_
    refine WS.det rfl rfl rfl (det_assign rfl) rfl ?_
    refine N4 ?_
    refine CS.cond rfl (fun hc4 => ?_) (fun hc4 => ?_) <;> (try simp only [bq] at hc4)
    ·
     have hn := hM.ac hc4
     have hmv : moveX r x m = (setAll x.1 (nth r.acs.l m.n).se.l, putAll (-2 - m.p) (putAll (-1) x.2.1 (nth r.acs.l m.n).sp.l) (nth r.acs.l m.n).br.l, x.2.2) := (if_neg hc1).trans ((if_neg hc2).trans ((if_neg hc3).trans (if_pos hc4)))
     have ha := hR.acs _ (nth_mem hn.1 hn.2)
     have hak : ActOk w (nth r.acs.l m.n) := hr.acs.at hn.1 hn.2
     have hsp := hak.sp.ints
     have hbr := hak.br.ints
     have kse := hak.se
     have lbr := ha.lbr
     have lsp := ha.lsp
     have lse := ha.lse
     refine CS.seq ?_
     refine CS.drawnAll (k := 11) mixed rfl rfl ?_
     refine AS.take 0 rfl (by kernel_rfl) (by kernel_rfl) (by kernel_rfl) rfl rfl (det_move rfl) rfl rfl ?_
     refine AS.take 1 rfl (by kernel_rfl) (by kernel_rfl) (by kernel_rfl) rfl rfl (det_nilCheck rfl) rfl rfl ?_
     refine AS.take 2 rfl (by kernel_rfl) (by kernel_rfl) (by kernel_rfl) rfl rfl ((by first | exact det_fieldAddr rfl fo115_0 | exact det_fieldAddrS rfl fo115_0)) rfl rfl ?_
     refine AS.take 3 rfl (by kernel_rfl) (by kernel_rfl) (by kernel_rfl) rfl rfl ((by first | exact det_fieldAddr rfl fo31_4 | exact det_fieldAddrS rfl fo31_4)) rfl rfl ?_
     refine AS.take 4 rfl (by kernel_rfl) (by kernel_rfl) (by kernel_rfl) rfl rfl ((by first | exact det_loadb (j := 0) rfl rfl rfl tk26 | exact det_loadb (j := 1) rfl rfl rfl tk26 | exact det_loadb (j := 2) rfl rfl rfl tk26 | exact det_loadb (j := 3) rfl rfl rfl tk26 | exact det_loadb (j := 4) rfl rfl rfl tk26 | exact det_loadb (j := 5) rfl rfl rfl tk26 | exact det_loadb (j := 6) rfl rfl rfl tk26 | exact det_loadb (j := 7) rfl rfl rfl tk26 | exact det_loadb (j := 8) rfl rfl rfl tk26 | exact det_loadw rfl (by assumption) rfl tk26)) rfl rfl ?_
     refine AS.take 5 rfl (by kernel_rfl) (by kernel_rfl) (by kernel_rfl) rfl rfl ((by first | exact det_fieldAddr rfl fo52_2 | exact det_fieldAddrS rfl fo52_2)) rfl rfl ?_
     refine AS.take 6 rfl (by kernel_rfl) (by kernel_rfl) (by kernel_rfl) rfl rfl ((by first | exact det_loadb (j := 0) rfl rfl rfl tk3 | exact det_loadw rfl (by assumption) rfl tk3)) rfl rfl ?_
     refine AS.take 7 rfl (by kernel_rfl) (by kernel_rfl) (by kernel_rfl) rfl rfl (det_idxU sl26 rfl rfl (by assumption) rfl (by omega) (by omega)) rfl rfl ?_
     refine AS.take 8 rfl (by kernel_rfl) (by kernel_rfl) (by kernel_rfl) rfl rfl ((by first | exact det_ldU rfl (by assumption) rfl ⟨(by omega), (by omega)⟩ rfl tk77)) rfl rfl ?_
     refine AS.one (i := 9) (by kernel_rfl) rfl (by first | exact fun _ h => h | exact fun _ h => h.sub (by repeat first | exact List.Sublist.refl _ | apply List.Sublist.cons_cons | apply List.Sublist.cons)) rfl ?_
     refine WS.alloc zv77 (fun _ => rfl) ?_; intro b6 hb6
     refine WS.done ?_
     refine QS.then_AS ?_
     refine AS.one (i := 10) (by kernel_rfl) rfl (by first | exact fun _ h => h | exact fun _ h => h.sub (by repeat first | exact List.Sublist.refl _ | apply List.Sublist.cons_cons | apply List.Sublist.cons)) rfl ?_
     first | refine WS.storeW (j := 0) rfl rfl rfl rfl (by first | (simp [Value.oneCell']; done) | ((repeat (refine List.forall_mem_cons.2 ⟨by first | rfl | assumption, ?_⟩)); exact fun _ h => absurd h List.not_mem_nil) | exact Cel.one _ w _ (by first | assumption | exact trivial)) tk77 rfl rfl ?_
     refine WS.done ?_
     refine QS.then_AS ?_
     refine AS.done (by kernel_rfl) (by first | exact fun _ h => h | exact fun _ h => h.sub (by repeat first | exact List.Sublist.refl _ | apply List.Sublist.cons_cons | apply List.Sublist.cons)) ?_
     refine QS.then_code ?_
     refine CS.seq ?_
     refine N3 ?_
     refine WS.det rfl rfl rfl ((by first | exact det_fieldAddr rfl fo77_6 | exact det_fieldAddrS rfl fo77_6)) rfl ?_
     refine WS.det rfl rfl rfl ((by first | exact det_loadb (j := 0) rfl rfl rfl tk35 | exact det_loadw rfl (by assumption) rfl tk35)) rfl ?_
     refine WS.det rfl rfl rfl ((by first | exact det_lenS sl35 rfl (by assumption) | exact det_lenS sl35 rfl (by first | exact SlL.sp (by assumption) | exact ClS.sp (by assumption)) | exact det_lenO sl35 rfl | exact det_lenV sl35 rfl ⟨_, _, rfl⟩)) rfl ?_
     refine WS.det rfl rfl rfl (det_move rfl) rfl ?_
     refine N4 ?_
     refine CS.block ?_
     refine CS.loopM (σ := Int) [8, 97, 98, 99, 100, 101, 102, 103, 104, 105, 106, 107] (fun s => [(96, .int .i64 s)]) (fun s => [blk b6 (cAct.cells (nth r.acs.l m.n)) 77, blk b3 [.int .i64 m.p, .int .i64 m.k, .int .i64 m.n] 52, blk tb [r.pls.v, r.ths.v, r.prs.v, r.wys.v, r.acs.v, r.aus.v, .int .i64 r.ply, r.gl.v, va, vb, vc] 115, oints 3 va (x.1), oints 3 vb (putAll (-1) x.2.1 ((nth r.acs.l m.n).sp.l.take s.toNat)), oints 3 vc x.2.2, R]) (fun s => 0 ≤ s ∧ s ≤ (nth r.acs.l m.n).sp.l.length) (fun s => ((nth r.acs.l m.n).sp.l.length - s).toNat) 0 (fun _ _ => rfl) rfl rfl ⟨by omega, by omega⟩ ?_
     intro d t hs
     obtain ⟨hd1, hd2⟩ := hs
     refine N3 ?_
     refine WS.det rfl rfl rfl (det_lt rfl rfl) rfl ?_
     refine N4 ?_
     refine CS.seq ?_
     refine CS.cond rfl (fun hc5 => ?_) (fun hc5 => ?_) <;> (try simp only [bq] at hc5)
     ·
      have hin := ha.sp _ (nth_mem hd1 (by omega))
      have hln := putAll_len (v := -1) (ps := (nth r.acs.l m.n).sp.l.take d.toNat) (l := x.2.1)
      refine CS.skip ?_
      refine QS.then_code ?_
      refine CS.seq ?_
      refine CS.block ?_
      refine N3 ?_
      refine WS.det rfl rfl rfl ((by first | exact det_idxI sl35 rfl rfl (by assumption) (by omega) (by omega) | exact det_idxO sl35 rfl rfl (by omega) (by omega))) rfl ?_
      refine WS.det rfl rfl rfl ((by first | exact det_ldI rfl (by assumption) (by omega) tk3 | exact det_loadb (j := 0) rfl rfl rfl tk3 | exact det_loadb (j := 1) rfl rfl rfl tk3 | exact det_loadb (j := 2) rfl rfl rfl tk3 | exact det_loadb (j := 3) rfl rfl rfl tk3 | exact det_loadb (j := 4) rfl rfl rfl tk3 | exact det_loadb (j := 5) rfl rfl rfl tk3 | exact det_loadb (j := 6) rfl rfl rfl tk3 | exact det_loadb (j := 7) rfl rfl rfl tk3 | exact det_loadb (j := 8) rfl rfl rfl tk3 | exact det_loadw rfl (by assumption) rfl tk3)) rfl ?_
      refine WS.det rfl rfl rfl (det_assign rfl) rfl ?_
      refine N2 ?_
      refine WS.det rfl rfl rfl (det_move rfl) rfl ?_
      refine WS.det rfl rfl rfl (det_nilCheck rfl) rfl ?_
      refine WS.det rfl rfl rfl ((by first | exact det_fieldAddr rfl fo115_1 | exact det_fieldAddrS rfl fo115_1)) rfl ?_
      refine WS.det rfl rfl rfl ((by first | exact det_fieldAddr rfl fo37_1 | exact det_fieldAddrS rfl fo37_1)) rfl ?_
      refine WS.det rfl rfl rfl ((by first | exact det_ldL rfl (by assumption) (by omega) tk35 | exact det_loadb (j := 0) rfl rfl rfl tk35 | exact det_loadb (j := 1) rfl rfl rfl tk35 | exact det_loadb (j := 2) rfl rfl rfl tk35 | exact det_loadb (j := 3) rfl rfl rfl tk35 | exact det_loadb (j := 4) rfl rfl rfl tk35 | exact det_loadb (j := 5) rfl rfl rfl tk35 | exact det_loadb (j := 6) rfl rfl rfl tk35 | exact det_loadb (j := 7) rfl rfl rfl tk35 | exact det_loadb (j := 8) rfl rfl rfl tk35 | exact det_loadw rfl (by assumption) rfl tk35)) rfl ?_
      refine WS.det rfl rfl rfl (det_move rfl) rfl ?_
      refine WS.det rfl rfl rfl (det_idxOI (j := 4) sl35 rfl rfl rfl (by omega) (by omega)) rfl ?_
      refine WS.storeOI (j := 4) rfl rfl (by omega) rfl tk3 rfl ?_
      refine WS.done ?_
      refine QS.block_normal ?_
      refine QS.then_code ?_
      refine CS.region ?_
      refine WS.det rfl rfl rfl (det_add rfl rfl (by omega)) rfl ?_
      refine WS.det rfl rfl rfl (det_move rfl) rfl ?_
      refine WS.done ?_
      exact QS.head (d + 1) rfl (by simp only [putAll_snoc hd1 (by omega)]) ⟨⟨by omega, by omega⟩, by omega⟩
     ·
      have hta : (nth r.acs.l m.n).sp.l.take d.toNat = (nth r.acs.l m.n).sp.l := List.take_of_length_le (by omega)
      rw [hta]
      refine CS.leave ?_
      iterate 2 refine QS.then_exit ?_
      refine QS.block_exit ?_
      refine QS.then_code ?_
      refine CS.seq ?_
      refine N3 ?_
      refine WS.det rfl rfl rfl ((by first | exact det_fieldAddr rfl fo77_7 | exact det_fieldAddrS rfl fo77_7)) rfl ?_
      refine WS.det rfl rfl rfl ((by first | exact det_loadb (j := 0) rfl rfl rfl tk35 | exact det_loadw rfl (by assumption) rfl tk35)) rfl ?_
      refine WS.det rfl rfl rfl ((by first | exact det_lenS sl35 rfl (by assumption) | exact det_lenS sl35 rfl (by first | exact SlL.sp (by assumption) | exact ClS.sp (by assumption)) | exact det_lenO sl35 rfl | exact det_lenV sl35 rfl ⟨_, _, rfl⟩)) rfl ?_
      refine WS.det rfl rfl rfl (det_move rfl) rfl ?_
      refine N4 ?_
      refine CS.block ?_
      refine CS.loopM (σ := Int) [10, 112, 113, 114, 115, 116, 117, 118, 119, 120, 121, 122, 123] (fun s => [(111, .int .i64 s)]) (fun s => [blk b6 (cAct.cells (nth r.acs.l m.n)) 77, blk b3 [.int .i64 m.p, .int .i64 m.k, .int .i64 m.n] 52, blk tb [r.pls.v, r.ths.v, r.prs.v, r.wys.v, r.acs.v, r.aus.v, .int .i64 r.ply, r.gl.v, va, vb, vc] 115, oints 3 va (x.1), oints 3 vb (putAll (-2 - m.p) (putAll (-1) x.2.1 (nth r.acs.l m.n).sp.l) ((nth r.acs.l m.n).br.l.take s.toNat)), oints 3 vc x.2.2, R]) (fun s => 0 ≤ s ∧ s ≤ (nth r.acs.l m.n).br.l.length) (fun s => ((nth r.acs.l m.n).br.l.length - s).toNat) 0 (fun _ _ => rfl) rfl rfl ⟨by omega, by omega⟩ ?_
      intro e t hs
      obtain ⟨he1, he2⟩ := hs
      refine N3 ?_
      refine WS.det rfl rfl rfl (det_lt rfl rfl) rfl ?_
      refine N4 ?_
      refine CS.seq ?_
      refine CS.cond rfl (fun hc6 => ?_) (fun hc6 => ?_) <;> (try simp only [bq] at hc6)
      ·
       have hin := ha.br _ (nth_mem he1 (by omega))
       have hln := putAll_len (v := -1) (ps := (nth r.acs.l m.n).sp.l) (l := x.2.1)
       have hln2 := putAll_len (v := -2 - m.p) (ps := (nth r.acs.l m.n).br.l.take e.toNat) (l := putAll (-1) x.2.1 (nth r.acs.l m.n).sp.l)
       refine CS.skip ?_
       refine QS.then_code ?_
       refine CS.seq ?_
       refine CS.block ?_
       refine N3 ?_
       refine WS.det rfl rfl rfl ((by first | exact det_idxI sl35 rfl rfl (by assumption) (by omega) (by omega) | exact det_idxO sl35 rfl rfl (by omega) (by omega))) rfl ?_
       refine WS.det rfl rfl rfl ((by first | exact det_ldI rfl (by assumption) (by omega) tk3 | exact det_loadb (j := 0) rfl rfl rfl tk3 | exact det_loadb (j := 1) rfl rfl rfl tk3 | exact det_loadb (j := 2) rfl rfl rfl tk3 | exact det_loadb (j := 3) rfl rfl rfl tk3 | exact det_loadb (j := 4) rfl rfl rfl tk3 | exact det_loadb (j := 5) rfl rfl rfl tk3 | exact det_loadb (j := 6) rfl rfl rfl tk3 | exact det_loadb (j := 7) rfl rfl rfl tk3 | exact det_loadb (j := 8) rfl rfl rfl tk3 | exact det_loadw rfl (by assumption) rfl tk3)) rfl ?_
       refine WS.det rfl rfl rfl (det_assign rfl) rfl ?_
       refine N2 ?_
       refine WS.det rfl rfl rfl (det_move rfl) rfl ?_
       refine WS.det rfl rfl rfl (det_nilCheck rfl) rfl ?_
       refine WS.det rfl rfl rfl ((by first | exact det_fieldAddr rfl fo115_1 | exact det_fieldAddrS rfl fo115_1)) rfl ?_
       refine WS.det rfl rfl rfl ((by first | exact det_fieldAddr rfl fo37_1 | exact det_fieldAddrS rfl fo37_1)) rfl ?_
       refine WS.det rfl rfl rfl ((by first | exact det_ldL rfl (by assumption) (by omega) tk35 | exact det_loadb (j := 0) rfl rfl rfl tk35 | exact det_loadb (j := 1) rfl rfl rfl tk35 | exact det_loadb (j := 2) rfl rfl rfl tk35 | exact det_loadb (j := 3) rfl rfl rfl tk35 | exact det_loadb (j := 4) rfl rfl rfl tk35 | exact det_loadb (j := 5) rfl rfl rfl tk35 | exact det_loadb (j := 6) rfl rfl rfl tk35 | exact det_loadb (j := 7) rfl rfl rfl tk35 | exact det_loadb (j := 8) rfl rfl rfl tk35 | exact det_loadw rfl (by assumption) rfl tk35)) rfl ?_
       refine WS.det rfl rfl rfl (det_move rfl) rfl ?_
       refine WS.det rfl rfl rfl (det_move rfl) rfl ?_
       refine WS.det rfl rfl rfl (det_idxOI (j := 4) sl35 rfl rfl rfl (by omega) (by omega)) rfl ?_
       refine WS.storeOI (j := 4) rfl rfl (by omega) rfl tk3 rfl ?_
       refine WS.done ?_
       refine QS.block_normal ?_
       refine QS.then_code ?_
       refine CS.region ?_
       refine WS.det rfl rfl rfl (det_add rfl rfl (by omega)) rfl ?_
       refine WS.det rfl rfl rfl (det_move rfl) rfl ?_
       refine WS.done ?_
       exact QS.head (e + 1) rfl (by simp only [putAll_snoc he1 (by omega)]) ⟨⟨by omega, by omega⟩, by omega⟩
      ·
       have hta : (nth r.acs.l m.n).br.l.take e.toNat = (nth r.acs.l m.n).br.l := List.take_of_length_le (by omega)
       rw [hta]
       refine CS.leave ?_
       iterate 2 refine QS.then_exit ?_
       refine QS.block_exit ?_
       refine QS.then_code ?_
       refine N3 ?_
       refine WS.det rfl rfl rfl ((by first | exact det_fieldAddr rfl fo77_5 | exact det_fieldAddrS rfl fo77_5)) rfl ?_
       refine WS.det rfl rfl rfl ((by first | exact det_loadb (j := 0) rfl rfl rfl tk75 | exact det_loadw rfl (by assumption) rfl tk75)) rfl ?_
       refine WS.det rfl rfl rfl (det_lenU sl75 rfl (by assumption)) rfl ?_
       refine WS.det rfl rfl rfl (det_move rfl) rfl ?_
       refine N4 ?_
       refine CS.block ?_
       refine CS.loopM (σ := Int) [12, 128, 129, 130, 131, 132, 133, 134, 135, 136, 137, 138, 139, 140, 141] (fun s => [(127, .int .i64 s)]) (fun s => [blk b6 (cAct.cells (nth r.acs.l m.n)) 77, blk b3 [.int .i64 m.p, .int .i64 m.k, .int .i64 m.n] 52, blk tb [r.pls.v, r.ths.v, r.prs.v, r.wys.v, r.acs.v, r.aus.v, .int .i64 r.ply, r.gl.v, va, vb, vc] 115, oints 3 va (setAll x.1 ((nth r.acs.l m.n).se.l.take s.toNat)), oints 3 vb (putAll (-2 - m.p) (putAll (-1) x.2.1 (nth r.acs.l m.n).sp.l) (nth r.acs.l m.n).br.l), oints 3 vc x.2.2, R]) (fun s => 0 ≤ s ∧ s ≤ (nth r.acs.l m.n).se.l.length) (fun s => ((nth r.acs.l m.n).se.l.length - s).toNat) 0 (fun _ _ => rfl) rfl rfl ⟨by omega, by omega⟩ ?_
       intro g t hs
       obtain ⟨hg1, hg2⟩ := hs
       refine N3 ?_
       refine WS.det rfl rfl rfl (det_lt rfl rfl) rfl ?_
       refine N4 ?_
       refine CS.seq ?_
       refine CS.cond rfl (fun hc7 => ?_) (fun hc7 => ?_) <;> (try simp only [bq] at hc7)
       ·
        have hin := putB_t (ha.se _ (nth_mem hg1 (by omega)))
        have hln := setAll_len (ss := (nth r.acs.l m.n).se.l.take g.toNat) (l := x.1)
        refine CS.skip ?_
        refine QS.then_code ?_
        refine CS.seq ?_
        refine CS.block ?_
        refine N3 ?_
        refine WS.det rfl rfl rfl (det_idxU sl75 rfl rfl (by assumption) rfl (by omega) (by omega)) rfl ?_
        refine WS.det rfl rfl rfl ((by first | exact det_ldU rfl (by assumption) rfl ⟨(by omega), (by omega)⟩ rfl tk79)) rfl ?_
        refine WS.alloc zv79 (fun _ => rfl) ?_; intro b12 hb12
        first | refine WS.storeW (j := 0) rfl rfl rfl rfl (by first | (simp [Value.oneCell']; done) | ((repeat (refine List.forall_mem_cons.2 ⟨by first | rfl | assumption, ?_⟩)); exact fun _ h => absurd h List.not_mem_nil) | exact Cel.one _ w _ (by first | assumption | exact trivial)) tk79 rfl rfl ?_
        refine N4 ?_
        refine CS.drawnTill 10 (k := 11) mixed rfl rfl ?_
        refine AT.take 0 rfl (by kernel_rfl) (na := 11) (by kernel_rfl) rfl (by kernel_rfl) (by kernel_rfl) (by kernel_rfl) rfl rfl (det_move rfl) rfl rfl ?_
        refine AT.take 1 rfl (by kernel_rfl) (na := 11) (by kernel_rfl) rfl (by kernel_rfl) (by kernel_rfl) (by kernel_rfl) rfl rfl (det_nilCheck rfl) rfl rfl ?_
        refine AT.take 2 rfl (by kernel_rfl) (na := 11) (by kernel_rfl) rfl (by kernel_rfl) (by kernel_rfl) (by kernel_rfl) rfl rfl ((by first | exact det_fieldAddr rfl fo115_1 | exact det_fieldAddrS rfl fo115_1)) rfl rfl ?_
        refine AT.take 3 rfl (by kernel_rfl) (na := 11) (by kernel_rfl) rfl (by kernel_rfl) (by kernel_rfl) (by kernel_rfl) rfl rfl ((by first | exact det_fieldAddr rfl fo37_0 | exact det_fieldAddrS rfl fo37_0)) rfl rfl ?_
        refine AT.take 4 rfl (by kernel_rfl) (na := 11) (by kernel_rfl) rfl (by kernel_rfl) (by kernel_rfl) (by kernel_rfl) rfl rfl ((by first | exact det_ldL rfl (by assumption) (by omega) tk35 | exact det_loadb (j := 0) rfl rfl rfl tk35 | exact det_loadb (j := 1) rfl rfl rfl tk35 | exact det_loadb (j := 2) rfl rfl rfl tk35 | exact det_loadb (j := 3) rfl rfl rfl tk35 | exact det_loadb (j := 4) rfl rfl rfl tk35 | exact det_loadb (j := 5) rfl rfl rfl tk35 | exact det_loadb (j := 6) rfl rfl rfl tk35 | exact det_loadb (j := 7) rfl rfl rfl tk35 | exact det_loadb (j := 8) rfl rfl rfl tk35 | exact det_loadw rfl (by assumption) rfl tk35)) rfl rfl ?_
        refine AT.take 5 rfl (by kernel_rfl) (na := 11) (by kernel_rfl) rfl (by kernel_rfl) (by kernel_rfl) (by kernel_rfl) rfl rfl ((by first | exact det_fieldAddr rfl fo79_0 | exact det_fieldAddrS rfl fo79_0)) rfl rfl ?_
        refine AT.take 6 rfl (by kernel_rfl) (na := 11) (by kernel_rfl) rfl (by kernel_rfl) (by kernel_rfl) (by kernel_rfl) rfl rfl ((by first | exact det_loadb (j := 0) rfl rfl rfl tk3 | exact det_loadw rfl (by assumption) rfl tk3)) rfl rfl ?_
        refine AT.take 7 rfl (by kernel_rfl) (na := 11) (by kernel_rfl) rfl (by kernel_rfl) (by kernel_rfl) (by kernel_rfl) rfl rfl ((by first | exact det_fieldAddr rfl fo79_1 | exact det_fieldAddrS rfl fo79_1)) rfl rfl ?_
        refine AT.take 8 rfl (by kernel_rfl) (na := 11) (by kernel_rfl) rfl (by kernel_rfl) (by kernel_rfl) (by kernel_rfl) rfl rfl ((by first | exact det_loadb (j := 0) rfl rfl rfl tk3 | exact det_loadw rfl (by assumption) rfl tk3)) rfl rfl ?_
        refine AT.take 9 rfl (by kernel_rfl) (na := 11) (by kernel_rfl) rfl (by kernel_rfl) (by kernel_rfl) (by kernel_rfl) rfl rfl (det_idxOI (j := 4) sl35 rfl rfl rfl (by omega) (by omega)) rfl rfl ?_
        refine AT.one (i := 10) (by kernel_rfl) rfl (by first | (intro h; exact absurd h (by decide)) | exact fun _ _ h => h | exact fun _ _ h => h.sub (by repeat first | exact List.Sublist.refl _ | apply List.Sublist.cons_cons | apply List.Sublist.cons)) rfl ?_
        refine WS.storeOI (j := 4) rfl rfl (by omega) rfl tk3 rfl ?_
        refine WS.done ?_
        refine QS.then_AT ?_
        refine AT.done (by kernel_rfl) (by first | (intro h; exact absurd h (by decide)) | exact fun _ _ h => h | exact fun _ _ h => h.sub (by repeat first | exact List.Sublist.refl _ | apply List.Sublist.cons_cons | apply List.Sublist.cons)) ?_
        refine QS.block_normal ?_
        refine QS.then_code ?_
        refine CS.region ?_
        refine WS.det rfl rfl rfl (det_add rfl rfl (by omega)) rfl ?_
        refine WS.det rfl rfl rfl (det_move rfl) rfl ?_
        refine WS.done ?_
        refine QS.sel [1, 1, 1, 1, 1, 1, 1] rfl ?_
        exact QS.head (g + 1) rfl (by simp only [setAll_snoc hg1 (by omega)]) ⟨⟨by omega, by omega⟩, by omega⟩
       ·
        have hta : (nth r.acs.l m.n).se.l.take g.toNat = (nth r.acs.l m.n).se.l := List.take_of_length_le (by omega)
        rw [hta]
        refine CS.leave ?_
        iterate 2 refine QS.then_exit ?_
        refine QS.block_exit ?_
        refine QS.block_normal ?_
        refine QS.sel [2, 2, 2, 2, 2] rfl ?_
        exact out0 (Or.inr rfl) rfl (by rw [hmv]; exact fun u hu => ⟨(), trivial, rfl, hu⟩)
    ·
     have hmv : moveX r x m = (x.1, x.2.1, x.2.2) := (if_neg hc1).trans ((if_neg hc2).trans ((if_neg hc3).trans (if_neg hc4)))
     refine CS.skip ?_
     refine QS.block_normal ?_
     refine QS.sel [1, 1, 1, 1, 1] rfl ?_
     exact out0 (Or.inr rfl) rfl (by rw [hmv]; exact fun u hu => ⟨(), trivial, rfl, hu⟩)
end Go.Proofs.YtgbofmnbakfalaaDoor
