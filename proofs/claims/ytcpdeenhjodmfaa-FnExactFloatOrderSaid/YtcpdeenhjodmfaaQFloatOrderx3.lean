-- Written by wip/tools/mkprint.py (my program) out of the translation, for this claim. Not trusted: Lean checks it.
import Derived.Test.YtcpdeenhjodmfaaQFloatOrderx0
import Derived.Test.YtcpdeenhjodmfaaQFloatOrderx1
import Derived.Test.YtcpdeenhjodmfaaQFloatOrderx2
namespace Go.Proofs.Ytcpdeenhjodmfaa.QFloatOrder
open Go.RowKit Go.Proofs.YtcpdeenhjodmfaaW.PrintWords Go.Proofs.YtcpdeenhjodmfaaW.PrintLast Go.Proofs.YtcpdeenhjodmfaaW.PrintMore
attribute [local go_sem] max2_int min2_int max_two min_two max_three min_three max_four min_four   -- for this text's walks alone
set_option linter.unusedVariables false
set_option linter.unusedSimpArgs false

/-! ### spec_l1add: function 149 -/
def spec_l1add.f (k : Nat) (a0_0 : Bool) (l0_1 : List Int) (a1_0 : Bool) (l1_1 : List Int) : Option (Bool × List Int) := if (a0_0 == a1_0) = true then ((spec_l1addMag.f k l0_1 l1_1).bind fun t203 => ((spec_l1make.f k a0_0 t203).bind fun bt206 => (some (bt206.1, bt206.2)))) else ((spec_l1cmpMag.f k l0_1 l1_1).bind fun t210 => (if t210 ≥ 0 then ((spec_l1subMag.f k l0_1 l1_1).bind fun t211 => ((spec_l1make.f k a0_0 t211).bind fun bt214 => (some (bt214.1, bt214.2)))) else ((spec_l1subMag.f k l1_1 l0_1).bind fun t218 => ((spec_l1make.f k a1_0 t218).bind fun bt221 => (some (bt221.1, bt221.2))))))
theorem spec_l1add.mono : ∀ a0 a1 a2 a3 k, LeO (spec_l1add.f k a0 a1 a2 a3) (spec_l1add.f (k + 1) a0 a1 a2 a3) := by
 intro a0 a1 a2 a3 k
 unfold spec_l1add.f
 repeat' with_reducible first | exact spec_l1addMag.mono _ _ _ | exact spec_l1cmpMag.mono _ _ _ | exact spec_l1make.mono _ _ _ | exact spec_l1subMag.mono _ _ _ | exact LeO.refl _ | exact LeO.none _ | refine LeO.ite ?_ ?_ | refine LeO.bind ?_ (fun _ => ?_)
def spec_l1add.T2 : Bool × List (List Nat × List Nat) := (true, [([], []), ([0], [0]), ([], []), ([2], [2]), ([], []), ([4], [4]), ([3, 5], [3, 5]), ([1, 6, 6], [1, 6]), ([7, 7, 0, 1, 2, 3, 4, 5, 6, 7], [7])])
def spec_l1add.B2 : List Nat := [0, 1, 0, 4, 0, 16, 60, 127, 255]
theorem spec_l1add.tab2 : rtab .any (opsOf Try.f149 2) = spec_l1add.T2 := by kernel_rfl
theorem spec_l1add.bits2 : waitsOk spec_l1add.T2.2 spec_l1add.B2 = true := by kernel_rfl
def spec_l1add.T4 : Bool × List (List Nat × List Nat) := (true, [([], []), ([0], [0]), ([], []), ([2], [2]), ([], []), ([4], [4]), ([3, 5], [3, 5]), ([1, 6, 6], [1, 6]), ([7, 7, 0, 1, 2, 3, 4, 5, 6, 7], [7])])
def spec_l1add.B4 : List Nat := [0, 1, 0, 4, 0, 16, 60, 127, 255]
theorem spec_l1add.tab4 : rtab .any (opsOf Try.f149 4) = spec_l1add.T4 := by kernel_rfl
theorem spec_l1add.bits4 : waitsOk spec_l1add.T4.2 spec_l1add.B4 = true := by kernel_rfl
def spec_l1add.T5 : Bool × List (List Nat × List Nat) := (true, [([], []), ([0], [0]), ([], []), ([2], [2]), ([], []), ([4], [4]), ([3, 5], [3, 5]), ([1, 6, 6], [1, 6]), ([7, 7, 0, 1, 2, 3, 4, 5, 6, 7], [7])])
def spec_l1add.B5 : List Nat := [0, 1, 0, 4, 0, 16, 60, 127, 255]
theorem spec_l1add.tab5 : rtab .any (opsOf Try.f149 5) = spec_l1add.T5 := by kernel_rfl
theorem spec_l1add.bits5 : waitsOk spec_l1add.T5.2 spec_l1add.B5 = true := by kernel_rfl
set_option maxHeartbeats 8000000 in
set_option maxRecDepth 100000 in
theorem spec_l1add.calls (k : Nat) (a0_0 : Bool) (A0_1 : Option Addr) (c0_1 : Nat) (l0_1 : List Int) (a1_0 : Bool) (A1_1 : Option Addr) (c1_1 : Nat) (l1_1 : List Int) (r1 : Bool) (r2 : List Int) (w : World) (hr0_1 : Kd.C (Kd.int .i64) w A0_1 l0_1.length l0_1) (hc0_1 : l0_1.length ≤ c0_1) (hr1_1 : Kd.C (Kd.int .i64) w A1_1 l1_1.length l1_1) (hc1_1 : l1_1.length ≤ c1_1) (h : spec_l1add.f k a0_0 l0_1 a1_0 l1_1 = some (r1, r2)) :
 Calls Try.prog 149 #[.agg #[.bool a0_0, .slice A0_1 l0_1.length c0_1], .agg #[.bool a1_0, .slice A1_1 l1_1.length c1_1]] w fun e w' => ∃ v1_ : Value, e = .returned (.agg #[.bool r1, v1_]) ∧ Kd.R (Kd.int .i64) 3 w' w.heap.size (fun _ => True) v1_ r2 ∧ Below w.heap.size w w' := by
 have hu93 := Try.underlying93; have HR0_1 := AM hr0_1; have HC0_1 := AM hc0_1; clear hr0_1 hc0_1; have HR1_1 := AM hr1_1; have HC1_1 := AM hc1_1; clear hr1_1 hc1_1; have HB := AM (Below.refl w.heap.size w)
 have H : (if (a0_0 == a1_0) = true then ((spec_l1addMag.f k l0_1 l1_1).bind fun t203 => ((spec_l1make.f k a0_0 t203).bind fun bt206 => (some (bt206.1, bt206.2)))) else ((spec_l1cmpMag.f k l0_1 l1_1).bind fun t210 => (if t210 ≥ 0 then ((spec_l1subMag.f k l0_1 l1_1).bind fun t211 => ((spec_l1make.f k a0_0 t211).bind fun bt214 => (some (bt214.1, bt214.2)))) else ((spec_l1subMag.f k l1_1 l0_1).bind fun t218 => ((spec_l1make.f k a1_0 t218).bind fun bt221 => (some (bt221.1, bt221.2))))))) = some (r1, r2) := h
 clear h
 by_cases c3 : (a0_0 == a1_0) = true
 · rw [if_pos c3] at H
   have c3b0 : (a0_0 == a1_0) = true := c3
   (try (have c3b1 : decide (a0_0 = a1_0) = true := by simpa using c3))
   (try (have c3b2 : (a0_0 == a1_0) = true := by simpa using c3))
   clear c3
   replace H := Option.bind_eq_some_iff.mp H
   obtain ⟨t203, A40, H⟩ := H
   (try dsimp only at H)
   have A4 := AM A40; clear A40
   replace H := Option.bind_eq_some_iff.mp H
   obtain ⟨⟨t206, t207⟩, A50, H⟩ := H
   (try dsimp only at H)
   have A5 := AM A50; clear A50
   simp only [Option.some.injEq, Prod.mk.injEq] at H
   obtain ⟨rfl, rfl⟩ := H
   go_enter Try.func149, Try.ntmps149
   try go_wp2_with (first | ((with_reducible refine gate_dst (N := 2) rfl ?_); refine box_event ?hg (N := 2) ?hd (cs := #[.bool a0_0, .slice A0_1 l0_1.length c0_1]) (t := 93) ?hr ?_; (case hd => rfl); (case hg => rfl); (case hr => first | (go_simp; done) | (go_simp; rfl)); intro gb200 hg w6 hbox hb; have BK200 := AM (hbox); have GW200 := gH HB hg; have GE200 := gH HB hg; replace HB := AM (below_step (pH HB) hb); clear hb hbox hg) | ((with_reducible refine gate_dst (N := 3) rfl ?_); refine box_event ?hg (N := 3) ?hd (cs := #[.bool a1_0, .slice A1_1 l1_1.length c1_1]) (t := 93) ?hr ?_; (case hd => rfl); (case hg => rfl); (case hr => first | (go_simp; done) | (go_simp; rfl)); intro gb201 hg w7 hbox hb; have BK201 := AM (hbox); have GW201 := gH HB hg; have GE201 := gH HB hg; replace HB := AM (below_step (pH HB) hb); have NB200_201 := nL BK200 hg; have NB201_200 := nG BK200 hg; replace BK200 := bB BK200 hb; clear hb hbox hg) | ((with_reducible refine gate_dst (N := 4) rfl ?_); refine box_event ?hg (N := 4) ?hd (cs := #[.bool false, .slice none 0 0]) (t := 93) ?hr ?_; (case hd => rfl); (case hg => rfl); (case hr => first | (go_simp; done) | (go_simp; rfl)); intro gb202 hg w8 hbox hb; have BK202 := AM (hbox); have GW202 := gH HB hg; have GE202 := gH HB hg; replace HB := AM (below_step (pH HB) hb); have NB200_202 := nL BK200 hg; have NB202_200 := nG BK200 hg; replace BK200 := bB BK200 hb; have NB201_202 := nL BK201 hg; have NB202_201 := nG BK201 hg; replace BK201 := bB BK201 hb; clear hb hbox hg; have hnb9 := NB200_201.out; have hnc9 := NB201_200.out; have hnb10 := NB200_202.out; have hnc10 := NB202_200.out; have ⟨hcz11_0, hcz11_1, hfz11_0, hfz11_1⟩ := z2 BK200; have hnb12 := NB201_202.out; have hnc12 := NB202_201.out; have ⟨hcz13_0, hcz13_1, hfz13_0, hfz13_1⟩ := z2 BK201))
   replace BK200 := AM (blk_drew BK200.out); replace BK201 := AM (blk_drew BK201.out); replace BK202 := AM (blk_drew BK202.out); replace HB := AM (below_drew1 HB.out)
   refine start_ (n := 9) (S := fun w' => w'.cell? ⟨gb200, 0, none⟩ = some (.bool a0_0) ∧ w'.cell? ⟨gb200, 1, none⟩ = some (.slice A0_1 l0_1.length c0_1) ∧ w'.cell? ⟨gb201, 0, none⟩ = some (.bool a1_0) ∧ w'.cell? ⟨gb201, 1, none⟩ = some (.slice A1_1 l1_1.length c1_1)) (ds := []) #[false, false, false, false, false, false, false, false, false] (by kernel_rfl) rfl rfl ⟨(blk_cell BK200.out 0).trans rfl, (blk_cell BK200.out 1).trans rfl, (blk_cell BK201.out 0).trans rfl, (blk_cell BK201.out 1).trans rfl⟩ (fun hHeld => ?_); refine with_tabW spec_l1add.tab2 spec_l1add.bits2 (fun HT_ HW_ => ?_)
   generalize w8.drew = w14 at BK200 BK201 BK202 HB hHeld ⊢
   refine pure_ (i := 0) (N := some 10) (v := ?_) (a' := ?_) #[true, false, false, false, false, false, false, false, false] rfl rfl (any_of HT_.out (by kernel_rfl)) (fun _ _ _ h => h) (Or.inl ⟨by rfl, ?_⟩) ?_ ?_
   rotate_left
   · intro w'
     go_simp
     with_reducible rfl
   rotate_left
   · simp only [Act.put, sa, sb, sc, i64_w, i32_w]
     rfl
   refine pure_ (i := 2) (N := some 12) (v := ?_) (a' := ?_) #[true, false, true, false, false, false, false, false, false] rfl rfl (any_of HT_.out (by kernel_rfl)) (fun _ _ _ h => h) (Or.inl ⟨by rfl, ?_⟩) ?_ ?_
   rotate_left
   · intro w'
     go_simp
     with_reducible rfl
   rotate_left
   · simp only [Act.put, sa, sb, sc, i64_w, i32_w]
     rfl
   refine pure_ (i := 4) (N := some 14) (v := ?_) (a' := ?_) #[true, false, true, false, true, false, false, false, false] rfl rfl (any_of HT_.out (by kernel_rfl)) (fun _ _ _ h => h) (Or.inl ⟨by rfl, ?_⟩) ?_ ?_
   rotate_left
   · intro w'
     go_simp
     with_reducible rfl
   rotate_left
   · simp only [Act.put, sa, sb, sc, i64_w, i32_w]
     rfl
   refine take_ (i := 1) (N := some 11) (v := ?_) (a' := ?_) #[true, true, true, false, true, false, false, false, false] rfl rfl (take_ofW HT_.out HW_.out (by kernel_rfl)) (fun _ _ _ h => h) (Or.inl ⟨by rfl, ?_⟩) hHeld ?_ ?_
   rotate_left
   · rintro w' ⟨s0, s1, s2, s3⟩
     go_simp
     with_reducible rfl
   rotate_left
   · simp only [Act.put, sa, sb, sc, i64_w, i32_w]
     rfl
   refine take_ (i := 3) (N := some 13) (v := ?_) (a' := ?_) #[true, true, true, true, true, false, false, false, false] rfl rfl (take_ofW HT_.out HW_.out (by kernel_rfl)) (fun _ _ _ h => h) (Or.inl ⟨by rfl, ?_⟩) hHeld ?_ ?_
   rotate_left
   · rintro w' ⟨s0, s1, s2, s3⟩
     go_simp
     with_reducible rfl
   rotate_left
   · simp only [Act.put, sa, sb, sc, i64_w, i32_w]
     rfl
   refine take_ (i := 5) (N := some 15) (v := ?_) (a' := ?_) #[true, true, true, true, true, true, false, false, false] rfl rfl (take_ofW HT_.out HW_.out (by kernel_rfl)) (fun _ _ _ h => h) (Or.inl ⟨by rfl, ?_⟩) hHeld ?_ ?_
   rotate_left
   · rintro w' ⟨s0, s1, s2, s3⟩
     go_simp
     with_reducible rfl
   rotate_left
   · simp only [Act.put, sa, sb, sc, i64_w, i32_w]
     rfl
   refine one_ (i := 6) (N := some 16) #[true, true, true, true, true, true, true, false, false] rfl rfl (one_of HT_.out (by kernel_rfl)) (by decide) (fun K hK => ?_)
   refine goes_ Try.func162 (by kernel_rfl) rfl #[.slice A0_1 l0_1.length c0_1, .slice A1_1 l1_1.length c1_1] (by rfl) rfl rfl (by (try simp only [List.map_toArray, List.map_cons, List.map_nil]); first | done | rfl | (simp only [List.length_drop, List.length_take]; rfl)) ?_
   with_reducible refine (spec_l1addMag.calls k _ _ l0_1 _ _ l1_1 t203 _ ?side1 ?side2 ?side3 ?side4 A4.out).mono ?_
   (case side1 => exact cB HR0_1 HB)
   (case side2 => exact HC0_1.out)
   (case side3 => exact cB HR1_1 HB)
   (case side4 => exact HC1_1.out)
   rintro e w15 ⟨v204, rfl, ho0, hb⟩
   refine ⟨_, rfl, ?_⟩
   have HO205 := AM (Kd.R_lower ho0 (below_size (pH HB))); replace BK200 := bB BK200 hb; replace BK201 := bB BK201 hb; replace BK202 := bB BK202 hb; replace HB := AM (below_step (pH HB) hb)
   (try clear hb)
   (try clear hb2)
   (try clear hk)
   (try clear hi)
   (try clear ho0)
   obtain ⟨Ao16, co16, eo16⟩ := Kd.R_slice HO205.out
   (first | subst eo16 | (injection eo16 with f1_ f2_ f3_; have f4_ := f1_.symm; have f5_ := f3_.symm; clear f1_ f2_ f3_; subst f4_; subst f5_))
   refine hK.out _ _ ⟨(blk_cell BK200.out 0).trans rfl, (blk_cell BK200.out 1).trans rfl, (blk_cell BK201.out 0).trans rfl, (blk_cell BK201.out 1).trans rfl⟩ (fun hHeld => ?_)
   clear hK K
   refine norm_ (a' := ?_) ?_ ?_
   rotate_left
   · show Act.put _ (some 16) _ = _
     simp only [Act.put, sa, sb, sc, i64_w, i32_w]
     rfl
   refine one_ (i := 7) (N := some 17) #[true, true, true, true, true, true, true, true, false] rfl rfl (one_of HT_.out (by kernel_rfl)) (by decide) (fun K hK => ?_)
   refine goes_ Try.func115 (by kernel_rfl) rfl #[.bool a0_0, .slice Ao16 t203.length co16] (by rfl) rfl rfl (by (try simp only [List.map_toArray, List.map_cons, List.map_nil]); first | done | rfl | (simp only [List.length_drop, List.length_take]; rfl)) ?_
   with_reducible refine (spec_l1make.calls k a0_0 (fun k_ => some k_ = (.slice Ao16 t203.length co16 : Value).ownBlock) (.slice Ao16 t203.length co16) t203 t206 t207 w _ ?side1 ?side2 A5.out).mono ?_
   (case side1 => exact pH HB)
   (case side2 => exact Kd.R_tight rfl HO205.out)
   rintro e w17 ⟨v208, rfl, ho0, hb, hkp⟩
   refine ⟨_, rfl, ?_⟩
   replace BK200 := AM (blk_kept (pB BK200) hkp (fun hs_ => (fun e_ => (Kd.R_ne HO205.out BK200.out (by decide)) e_) hs_)); replace BK201 := AM (blk_kept (pB BK201) hkp (fun hs_ => (fun e_ => (Kd.R_ne HO205.out BK201.out (by decide)) e_) hs_)); replace BK202 := AM (blk_kept (pB BK202) hkp (fun hs_ => (fun e_ => (Kd.R_ne HO205.out BK202.out (by decide)) e_) hs_)); have HO209 := AM (Kd.R_mono (ok' := fun k_ => True) ho0 (fun k_ hk_ => trivial)); replace HB := AM (hb); clear HO205
   (try clear hb)
   (try clear hkp)
   (try clear ho0)
   obtain ⟨Ao19, co19, eo19⟩ := Kd.R_slice HO209.out
   (first | subst eo19 | (injection eo19 with f1_ f2_ f3_; have f4_ := f1_.symm; have f5_ := f3_.symm; clear f1_ f2_ f3_; subst f4_; subst f5_))
   refine hK.out _ _ ⟨(blk_cell BK200.out 0).trans rfl, (blk_cell BK200.out 1).trans rfl, (blk_cell BK201.out 0).trans rfl, (blk_cell BK201.out 1).trans rfl⟩ (fun hHeld => ?_)
   clear hK K
   refine norm_ (a' := ?_) ?_ ?_
   rotate_left
   · show Act.put _ (some 17) _ = _
     simp only [Act.put, sa, sb, sc, i64_w, i32_w]
     rfl
   refine one_ (i := 8) (N := none) #[true, true, true, true, true, true, true, true, true] rfl rfl (one_of HT_.out (by kernel_rfl)) (by decide) (fun K hK => ?_)
   have hs18 : w17.cell? ⟨gb202, 0, none⟩ = some (.bool false) := (blk_cell BK202.out 0).trans rfl
   have hfs18 := blk_frozen BK202.out 0; have hns18_0 := NB200_202.out; have hns18_1 := NB201_202.out; have hms18_0 := NB202_200.out; have hms18_1 := NB202_201.out
   have hs20 : w17.cell? ⟨gb202, 1, none⟩ = some (.slice none 0 0) := (blk_cell BK202.out 1).trans rfl
   have hfs20 := blk_frozen BK202.out 1; have hns20_0 := NB200_202.out; have hns20_1 := NB201_202.out; have hms20_0 := NB202_200.out; have hms20_1 := NB202_201.out
   refine skip_ (w1 := ?_) (by rfl) rfl ?_ ?_
   rotate_left
   · go_simp
     rfl
   refine hK.out _ _ ⟨((cell_far (p := ⟨gb202, _, none⟩) NB200_202.out _).trans (((cell_far (p := ⟨gb202, _, none⟩) NB200_202.out _).trans (hHeld.1)))), ((cell_far (p := ⟨gb202, _, none⟩) NB200_202.out _).trans (((cell_far (p := ⟨gb202, _, none⟩) NB200_202.out _).trans (hHeld.2.1)))), ((cell_far (p := ⟨gb202, _, none⟩) NB201_202.out _).trans (((cell_far (p := ⟨gb202, _, none⟩) NB201_202.out _).trans (hHeld.2.2.1)))), ((cell_far (p := ⟨gb202, _, none⟩) NB201_202.out _).trans (((cell_far (p := ⟨gb202, _, none⟩) NB201_202.out _).trans (hHeld.2.2.2))))⟩ (fun hHeld => ?_)
   clear hK K
   refine done_ (done_of HT_.out (by kernel_rfl)) ?_
   try go_wp2
   refine bodyPost_ret (results_cell_row rfl _ _ gb202 93 #[.bool t206, .slice Ao19 t207.length co19] (0, 0) _ rfl (by refine sB ?_; refine blk_put (cs := #[.bool t206, .slice none 0 0]) ?_ 1 _ rfl; refine sB ?_; refine blk_put (cs := #[.bool false, .slice none 0 0]) ?_ 0 _ rfl; refine sB ?_; exact BK202.out) Try.underlying93 rfl (by kernel_rfl)) rfl ?_
   exact ⟨_, by first | rfl | (simp [errW_none, errW_some] <;> rfl) | (simp [*, errW_none, errW_some] <;> rfl), by (with_reducible repeat (first | apply Kd.R_alloc | apply Kd.R_drewN | apply Kd.R_drew)); exact Kd.R_mono (Kd.R_far (p := ⟨gb202, 1, none⟩) (Kd.R_far (p := ⟨gb202, 0, none⟩) (Kd.R_types HO209.out BK202.out (by decide)) (fun _ hk => hk.2) (.bool t206)) (fun _ hk => hk.2) (.slice Ao19 t207.length co19)) (fun _ hk => trivial), pH HB⟩
 rw [if_neg c3] at H
 have c3b0 : (a0_0 == a1_0) = false := by simpa using c3
 (try (have c3b1 : decide (a0_0 = a1_0) = false := by simpa using c3))
 (try (have c3b2 : (a0_0 == a1_0) = false := by simpa using c3))
 (try (have c3b3 : ¬ (a0_0 = a1_0) := by simpa using c3))
 clear c3
 replace H := Option.bind_eq_some_iff.mp H
 obtain ⟨t210, A210, H⟩ := H
 (try dsimp only at H)
 have A21 := AM A210; clear A210
 by_cases c22 : t210 ≥ 0
 · rw [if_pos c22] at H
   have c22b0 : decide (0 ≤ t210) = true := decide_eq_true c22
   clear c22
   replace H := Option.bind_eq_some_iff.mp H
   obtain ⟨t211, A230, H⟩ := H
   (try dsimp only at H)
   have A23 := AM A230; clear A230
   replace H := Option.bind_eq_some_iff.mp H
   obtain ⟨⟨t214, t215⟩, A240, H⟩ := H
   (try dsimp only at H)
   have A24 := AM A240; clear A240
   simp only [Option.some.injEq, Prod.mk.injEq] at H
   obtain ⟨rfl, rfl⟩ := H
   go_enter Try.func149, Try.ntmps149
   try go_wp2_with (first | ((with_reducible refine gate_dst (N := 2) rfl ?_); refine box_event ?hg (N := 2) ?hd (cs := #[.bool a0_0, .slice A0_1 l0_1.length c0_1]) (t := 93) ?hr ?_; (case hd => rfl); (case hg => rfl); (case hr => first | (go_simp; done) | (go_simp; rfl)); intro gb200 hg w25 hbox hb; have BK200 := AM (hbox); have GW200 := gH HB hg; have GE200 := gH HB hg; replace HB := AM (below_step (pH HB) hb); clear hb hbox hg) | ((with_reducible refine gate_dst (N := 3) rfl ?_); refine box_event ?hg (N := 3) ?hd (cs := #[.bool a1_0, .slice A1_1 l1_1.length c1_1]) (t := 93) ?hr ?_; (case hd => rfl); (case hg => rfl); (case hr => first | (go_simp; done) | (go_simp; rfl)); intro gb201 hg w26 hbox hb; have BK201 := AM (hbox); have GW201 := gH HB hg; have GE201 := gH HB hg; replace HB := AM (below_step (pH HB) hb); have NB200_201 := nL BK200 hg; have NB201_200 := nG BK200 hg; replace BK200 := bB BK200 hb; clear hb hbox hg) | ((with_reducible refine gate_dst (N := 4) rfl ?_); refine box_event ?hg (N := 4) ?hd (cs := #[.bool false, .slice none 0 0]) (t := 93) ?hr ?_; (case hd => rfl); (case hg => rfl); (case hr => first | (go_simp; done) | (go_simp; rfl)); intro gb202 hg w27 hbox hb; have BK202 := AM (hbox); have GW202 := gH HB hg; have GE202 := gH HB hg; replace HB := AM (below_step (pH HB) hb); have NB200_202 := nL BK200 hg; have NB202_200 := nG BK200 hg; replace BK200 := bB BK200 hb; have NB201_202 := nL BK201 hg; have NB202_201 := nG BK201 hg; replace BK201 := bB BK201 hb; clear hb hbox hg; have hnb28 := NB200_201.out; have hnc28 := NB201_200.out; have hnb29 := NB200_202.out; have hnc29 := NB202_200.out; have ⟨hcz30_0, hcz30_1, hfz30_0, hfz30_1⟩ := z2 BK200; have hnb31 := NB201_202.out; have hnc31 := NB202_201.out; have ⟨hcz32_0, hcz32_1, hfz32_0, hfz32_1⟩ := z2 BK201) | ((with_reducible refine gate_callee (f := 163) rfl ?_); refine goesL_ (some 22) rfl rfl Try.func163 (by kernel_rfl) rfl #[.slice A0_1 l0_1.length c0_1, .slice A1_1 l1_1.length c1_1] rfl (by (try simp only [List.map_toArray, List.map_cons, List.map_nil]); first | done | rfl | (simp only [List.length_drop, List.length_take]; rfl)) ?_; (with_reducible refine (spec_l1cmpMag.calls k _ _ l0_1 _ _ l1_1 t210 _ ?side1 ?side2 ?side3 ?side4 A21.out).mono ?_); (case side1 => exact cB HR0_1 HB); (case side2 => exact HC0_1.out); (case side3 => exact cB HR1_1 HB); (case side4 => exact HC1_1.out); rintro e w' ⟨rfl, ⟨nd, rfl⟩⟩; refine ⟨_, rfl, ?_⟩; (try (rw [drewN_self w27]; generalize hq_ : World.drewN w27 _ = w27; have n0_ : Aside0 (w27.heap[gb200]? = some (.cells #[.bool a0_0, .slice A0_1 l0_1.length c0_1] 93 (0, 0))) := ⟨by rw [← hq_]; exact (pB BK200)⟩; have n1_ : Aside0 (w27.heap[gb201]? = some (.cells #[.bool a1_0, .slice A1_1 l1_1.length c1_1] 93 (0, 0))) := ⟨by rw [← hq_]; exact (pB BK201)⟩; have n2_ : Aside0 (w27.heap[gb202]? = some (.cells #[.bool false, .slice none 0 0] 93 (0, 0))) := ⟨by rw [← hq_]; exact (pB BK202)⟩; have n3_ : Aside0 (Below w.heap.size w w27) := ⟨by rw [← hq_]; exact (pH HB)⟩; clear BK200 BK201 BK202 HB hq_; have BK200 := n0_; have BK201 := n1_; have BK202 := n2_; have HB := n3_; clear n0_ n1_ n2_ n3_))))
   replace BK200 := AM (blk_drew BK200.out); replace BK201 := AM (blk_drew BK201.out); replace BK202 := AM (blk_drew BK202.out); replace HB := AM (below_drew1 HB.out)
   refine start_ (n := 9) (S := fun w' => w'.cell? ⟨gb200, 0, none⟩ = some (.bool a0_0) ∧ w'.cell? ⟨gb200, 1, none⟩ = some (.slice A0_1 l0_1.length c0_1) ∧ w'.cell? ⟨gb201, 0, none⟩ = some (.bool a1_0) ∧ w'.cell? ⟨gb201, 1, none⟩ = some (.slice A1_1 l1_1.length c1_1)) (ds := []) #[false, false, false, false, false, false, false, false, false] (by kernel_rfl) rfl rfl ⟨(blk_cell BK200.out 0).trans rfl, (blk_cell BK200.out 1).trans rfl, (blk_cell BK201.out 0).trans rfl, (blk_cell BK201.out 1).trans rfl⟩ (fun hHeld => ?_); refine with_tabW spec_l1add.tab4 spec_l1add.bits4 (fun HT_ HW_ => ?_)
   generalize w27.drew = w33 at BK200 BK201 BK202 HB hHeld ⊢
   refine pure_ (i := 0) (N := some 24) (v := ?_) (a' := ?_) #[true, false, false, false, false, false, false, false, false] rfl rfl (any_of HT_.out (by kernel_rfl)) (fun _ _ _ h => h) (Or.inl ⟨by rfl, ?_⟩) ?_ ?_
   rotate_left
   · intro w'
     go_simp
     with_reducible rfl
   rotate_left
   · simp only [Act.put, sa, sb, sc, i64_w, i32_w]
     rfl
   refine pure_ (i := 2) (N := some 26) (v := ?_) (a' := ?_) #[true, false, true, false, false, false, false, false, false] rfl rfl (any_of HT_.out (by kernel_rfl)) (fun _ _ _ h => h) (Or.inl ⟨by rfl, ?_⟩) ?_ ?_
   rotate_left
   · intro w'
     go_simp
     with_reducible rfl
   rotate_left
   · simp only [Act.put, sa, sb, sc, i64_w, i32_w]
     rfl
   refine pure_ (i := 4) (N := some 28) (v := ?_) (a' := ?_) #[true, false, true, false, true, false, false, false, false] rfl rfl (any_of HT_.out (by kernel_rfl)) (fun _ _ _ h => h) (Or.inl ⟨by rfl, ?_⟩) ?_ ?_
   rotate_left
   · intro w'
     go_simp
     with_reducible rfl
   rotate_left
   · simp only [Act.put, sa, sb, sc, i64_w, i32_w]
     rfl
   refine take_ (i := 1) (N := some 25) (v := ?_) (a' := ?_) #[true, true, true, false, true, false, false, false, false] rfl rfl (take_ofW HT_.out HW_.out (by kernel_rfl)) (fun _ _ _ h => h) (Or.inl ⟨by rfl, ?_⟩) hHeld ?_ ?_
   rotate_left
   · rintro w' ⟨s0, s1, s2, s3⟩
     go_simp
     with_reducible rfl
   rotate_left
   · simp only [Act.put, sa, sb, sc, i64_w, i32_w]
     rfl
   refine take_ (i := 3) (N := some 27) (v := ?_) (a' := ?_) #[true, true, true, true, true, false, false, false, false] rfl rfl (take_ofW HT_.out HW_.out (by kernel_rfl)) (fun _ _ _ h => h) (Or.inl ⟨by rfl, ?_⟩) hHeld ?_ ?_
   rotate_left
   · rintro w' ⟨s0, s1, s2, s3⟩
     go_simp
     with_reducible rfl
   rotate_left
   · simp only [Act.put, sa, sb, sc, i64_w, i32_w]
     rfl
   refine take_ (i := 5) (N := some 29) (v := ?_) (a' := ?_) #[true, true, true, true, true, true, false, false, false] rfl rfl (take_ofW HT_.out HW_.out (by kernel_rfl)) (fun _ _ _ h => h) (Or.inl ⟨by rfl, ?_⟩) hHeld ?_ ?_
   rotate_left
   · rintro w' ⟨s0, s1, s2, s3⟩
     go_simp
     with_reducible rfl
   rotate_left
   · simp only [Act.put, sa, sb, sc, i64_w, i32_w]
     rfl
   refine one_ (i := 6) (N := some 30) #[true, true, true, true, true, true, true, false, false] rfl rfl (one_of HT_.out (by kernel_rfl)) (by decide) (fun K hK => ?_)
   refine goes_ Try.func164 (by kernel_rfl) rfl #[.slice A0_1 l0_1.length c0_1, .slice A1_1 l1_1.length c1_1] (by rfl) rfl rfl (by (try simp only [List.map_toArray, List.map_cons, List.map_nil]); first | done | rfl | (simp only [List.length_drop, List.length_take]; rfl)) ?_
   with_reducible refine (spec_l1subMag.calls k _ _ l0_1 _ _ l1_1 t211 _ ?side1 ?side2 ?side3 ?side4 A23.out).mono ?_
   (case side1 => exact cB HR0_1 HB)
   (case side2 => exact HC0_1.out)
   (case side3 => exact cB HR1_1 HB)
   (case side4 => exact HC1_1.out)
   rintro e w34 ⟨v212, rfl, ho0, hb⟩
   refine ⟨_, rfl, ?_⟩
   have HO213 := AM (Kd.R_lower ho0 (below_size (pH HB))); replace BK200 := bB BK200 hb; replace BK201 := bB BK201 hb; replace BK202 := bB BK202 hb; replace HB := AM (below_step (pH HB) hb)
   (try clear hb)
   (try clear hb2)
   (try clear hk)
   (try clear hi)
   (try clear ho0)
   obtain ⟨Ao35, co35, eo35⟩ := Kd.R_slice HO213.out
   (first | subst eo35 | (injection eo35 with f1_ f2_ f3_; have f4_ := f1_.symm; have f5_ := f3_.symm; clear f1_ f2_ f3_; subst f4_; subst f5_))
   refine hK.out _ _ ⟨(blk_cell BK200.out 0).trans rfl, (blk_cell BK200.out 1).trans rfl, (blk_cell BK201.out 0).trans rfl, (blk_cell BK201.out 1).trans rfl⟩ (fun hHeld => ?_)
   clear hK K
   refine norm_ (a' := ?_) ?_ ?_
   rotate_left
   · show Act.put _ (some 30) _ = _
     simp only [Act.put, sa, sb, sc, i64_w, i32_w]
     rfl
   refine one_ (i := 7) (N := some 31) #[true, true, true, true, true, true, true, true, false] rfl rfl (one_of HT_.out (by kernel_rfl)) (by decide) (fun K hK => ?_)
   refine goes_ Try.func115 (by kernel_rfl) rfl #[.bool a0_0, .slice Ao35 t211.length co35] (by rfl) rfl rfl (by (try simp only [List.map_toArray, List.map_cons, List.map_nil]); first | done | rfl | (simp only [List.length_drop, List.length_take]; rfl)) ?_
   with_reducible refine (spec_l1make.calls k a0_0 (fun k_ => some k_ = (.slice Ao35 t211.length co35 : Value).ownBlock) (.slice Ao35 t211.length co35) t211 t214 t215 w _ ?side1 ?side2 A24.out).mono ?_
   (case side1 => exact pH HB)
   (case side2 => exact Kd.R_tight rfl HO213.out)
   rintro e w36 ⟨v216, rfl, ho0, hb, hkp⟩
   refine ⟨_, rfl, ?_⟩
   replace BK200 := AM (blk_kept (pB BK200) hkp (fun hs_ => (fun e_ => (Kd.R_ne HO213.out BK200.out (by decide)) e_) hs_)); replace BK201 := AM (blk_kept (pB BK201) hkp (fun hs_ => (fun e_ => (Kd.R_ne HO213.out BK201.out (by decide)) e_) hs_)); replace BK202 := AM (blk_kept (pB BK202) hkp (fun hs_ => (fun e_ => (Kd.R_ne HO213.out BK202.out (by decide)) e_) hs_)); have HO217 := AM (Kd.R_mono (ok' := fun k_ => True) ho0 (fun k_ hk_ => trivial)); replace HB := AM (hb); clear HO213
   (try clear hb)
   (try clear hkp)
   (try clear ho0)
   obtain ⟨Ao38, co38, eo38⟩ := Kd.R_slice HO217.out
   (first | subst eo38 | (injection eo38 with f1_ f2_ f3_; have f4_ := f1_.symm; have f5_ := f3_.symm; clear f1_ f2_ f3_; subst f4_; subst f5_))
   refine hK.out _ _ ⟨(blk_cell BK200.out 0).trans rfl, (blk_cell BK200.out 1).trans rfl, (blk_cell BK201.out 0).trans rfl, (blk_cell BK201.out 1).trans rfl⟩ (fun hHeld => ?_)
   clear hK K
   refine norm_ (a' := ?_) ?_ ?_
   rotate_left
   · show Act.put _ (some 31) _ = _
     simp only [Act.put, sa, sb, sc, i64_w, i32_w]
     rfl
   refine one_ (i := 8) (N := none) #[true, true, true, true, true, true, true, true, true] rfl rfl (one_of HT_.out (by kernel_rfl)) (by decide) (fun K hK => ?_)
   have hs37 : w36.cell? ⟨gb202, 0, none⟩ = some (.bool false) := (blk_cell BK202.out 0).trans rfl
   have hfs37 := blk_frozen BK202.out 0; have hns37_0 := NB200_202.out; have hns37_1 := NB201_202.out; have hms37_0 := NB202_200.out; have hms37_1 := NB202_201.out
   have hs39 : w36.cell? ⟨gb202, 1, none⟩ = some (.slice none 0 0) := (blk_cell BK202.out 1).trans rfl
   have hfs39 := blk_frozen BK202.out 1; have hns39_0 := NB200_202.out; have hns39_1 := NB201_202.out; have hms39_0 := NB202_200.out; have hms39_1 := NB202_201.out
   refine skip_ (w1 := ?_) (by rfl) rfl ?_ ?_
   rotate_left
   · go_simp
     rfl
   refine hK.out _ _ ⟨((cell_far (p := ⟨gb202, _, none⟩) NB200_202.out _).trans (((cell_far (p := ⟨gb202, _, none⟩) NB200_202.out _).trans (hHeld.1)))), ((cell_far (p := ⟨gb202, _, none⟩) NB200_202.out _).trans (((cell_far (p := ⟨gb202, _, none⟩) NB200_202.out _).trans (hHeld.2.1)))), ((cell_far (p := ⟨gb202, _, none⟩) NB201_202.out _).trans (((cell_far (p := ⟨gb202, _, none⟩) NB201_202.out _).trans (hHeld.2.2.1)))), ((cell_far (p := ⟨gb202, _, none⟩) NB201_202.out _).trans (((cell_far (p := ⟨gb202, _, none⟩) NB201_202.out _).trans (hHeld.2.2.2))))⟩ (fun hHeld => ?_)
   clear hK K
   refine done_ (done_of HT_.out (by kernel_rfl)) ?_
   try go_wp2
   refine bodyPost_ret (results_cell_row rfl _ _ gb202 93 #[.bool t214, .slice Ao38 t215.length co38] (0, 0) _ rfl (by refine sB ?_; refine blk_put (cs := #[.bool t214, .slice none 0 0]) ?_ 1 _ rfl; refine sB ?_; refine blk_put (cs := #[.bool false, .slice none 0 0]) ?_ 0 _ rfl; refine sB ?_; exact BK202.out) Try.underlying93 rfl (by kernel_rfl)) rfl ?_
   exact ⟨_, by first | rfl | (simp [errW_none, errW_some] <;> rfl) | (simp [*, errW_none, errW_some] <;> rfl), by (with_reducible repeat (first | apply Kd.R_alloc | apply Kd.R_drewN | apply Kd.R_drew)); exact Kd.R_mono (Kd.R_far (p := ⟨gb202, 1, none⟩) (Kd.R_far (p := ⟨gb202, 0, none⟩) (Kd.R_types HO217.out BK202.out (by decide)) (fun _ hk => hk.2) (.bool t214)) (fun _ hk => hk.2) (.slice Ao38 t215.length co38)) (fun _ hk => trivial), pH HB⟩
 rw [if_neg c22] at H
 have c22b0 : decide (0 ≤ t210) = false := decide_eq_false c22
 clear c22
 replace H := Option.bind_eq_some_iff.mp H
 obtain ⟨t218, A400, H⟩ := H
 (try dsimp only at H)
 have A40 := AM A400; clear A400
 replace H := Option.bind_eq_some_iff.mp H
 obtain ⟨⟨t221, t222⟩, A410, H⟩ := H
 (try dsimp only at H)
 have A41 := AM A410; clear A410
 simp only [Option.some.injEq, Prod.mk.injEq] at H
 obtain ⟨rfl, rfl⟩ := H
 go_enter Try.func149, Try.ntmps149
 try go_wp2_with (first | ((with_reducible refine gate_dst (N := 2) rfl ?_); refine box_event ?hg (N := 2) ?hd (cs := #[.bool a0_0, .slice A0_1 l0_1.length c0_1]) (t := 93) ?hr ?_; (case hd => rfl); (case hg => rfl); (case hr => first | (go_simp; done) | (go_simp; rfl)); intro gb200 hg w42 hbox hb; have BK200 := AM (hbox); have GW200 := gH HB hg; have GE200 := gH HB hg; replace HB := AM (below_step (pH HB) hb); clear hb hbox hg) | ((with_reducible refine gate_dst (N := 3) rfl ?_); refine box_event ?hg (N := 3) ?hd (cs := #[.bool a1_0, .slice A1_1 l1_1.length c1_1]) (t := 93) ?hr ?_; (case hd => rfl); (case hg => rfl); (case hr => first | (go_simp; done) | (go_simp; rfl)); intro gb201 hg w43 hbox hb; have BK201 := AM (hbox); have GW201 := gH HB hg; have GE201 := gH HB hg; replace HB := AM (below_step (pH HB) hb); have NB200_201 := nL BK200 hg; have NB201_200 := nG BK200 hg; replace BK200 := bB BK200 hb; clear hb hbox hg) | ((with_reducible refine gate_dst (N := 4) rfl ?_); refine box_event ?hg (N := 4) ?hd (cs := #[.bool false, .slice none 0 0]) (t := 93) ?hr ?_; (case hd => rfl); (case hg => rfl); (case hr => first | (go_simp; done) | (go_simp; rfl)); intro gb202 hg w44 hbox hb; have BK202 := AM (hbox); have GW202 := gH HB hg; have GE202 := gH HB hg; replace HB := AM (below_step (pH HB) hb); have NB200_202 := nL BK200 hg; have NB202_200 := nG BK200 hg; replace BK200 := bB BK200 hb; have NB201_202 := nL BK201 hg; have NB202_201 := nG BK201 hg; replace BK201 := bB BK201 hb; clear hb hbox hg; have hnb45 := NB200_201.out; have hnc45 := NB201_200.out; have hnb46 := NB200_202.out; have hnc46 := NB202_200.out; have ⟨hcz47_0, hcz47_1, hfz47_0, hfz47_1⟩ := z2 BK200; have hnb48 := NB201_202.out; have hnc48 := NB202_201.out; have ⟨hcz49_0, hcz49_1, hfz49_0, hfz49_1⟩ := z2 BK201) | ((with_reducible refine gate_callee (f := 163) rfl ?_); refine goesL_ (some 22) rfl rfl Try.func163 (by kernel_rfl) rfl #[.slice A0_1 l0_1.length c0_1, .slice A1_1 l1_1.length c1_1] rfl (by (try simp only [List.map_toArray, List.map_cons, List.map_nil]); first | done | rfl | (simp only [List.length_drop, List.length_take]; rfl)) ?_; (with_reducible refine (spec_l1cmpMag.calls k _ _ l0_1 _ _ l1_1 t210 _ ?side1 ?side2 ?side3 ?side4 A21.out).mono ?_); (case side1 => exact cB HR0_1 HB); (case side2 => exact HC0_1.out); (case side3 => exact cB HR1_1 HB); (case side4 => exact HC1_1.out); rintro e w' ⟨rfl, ⟨nd, rfl⟩⟩; refine ⟨_, rfl, ?_⟩; (try (rw [drewN_self w44]; generalize hq_ : World.drewN w44 _ = w44; have n0_ : Aside0 (w44.heap[gb200]? = some (.cells #[.bool a0_0, .slice A0_1 l0_1.length c0_1] 93 (0, 0))) := ⟨by rw [← hq_]; exact (pB BK200)⟩; have n1_ : Aside0 (w44.heap[gb201]? = some (.cells #[.bool a1_0, .slice A1_1 l1_1.length c1_1] 93 (0, 0))) := ⟨by rw [← hq_]; exact (pB BK201)⟩; have n2_ : Aside0 (w44.heap[gb202]? = some (.cells #[.bool false, .slice none 0 0] 93 (0, 0))) := ⟨by rw [← hq_]; exact (pB BK202)⟩; have n3_ : Aside0 (Below w.heap.size w w44) := ⟨by rw [← hq_]; exact (pH HB)⟩; clear BK200 BK201 BK202 HB hq_; have BK200 := n0_; have BK201 := n1_; have BK202 := n2_; have HB := n3_; clear n0_ n1_ n2_ n3_))))
 replace BK200 := AM (blk_drew BK200.out); replace BK201 := AM (blk_drew BK201.out); replace BK202 := AM (blk_drew BK202.out); replace HB := AM (below_drew1 HB.out)
 refine start_ (n := 9) (S := fun w' => w'.cell? ⟨gb201, 0, none⟩ = some (.bool a1_0) ∧ w'.cell? ⟨gb201, 1, none⟩ = some (.slice A1_1 l1_1.length c1_1) ∧ w'.cell? ⟨gb200, 0, none⟩ = some (.bool a0_0) ∧ w'.cell? ⟨gb200, 1, none⟩ = some (.slice A0_1 l0_1.length c0_1)) (ds := []) #[false, false, false, false, false, false, false, false, false] (by kernel_rfl) rfl rfl ⟨(blk_cell BK201.out 0).trans rfl, (blk_cell BK201.out 1).trans rfl, (blk_cell BK200.out 0).trans rfl, (blk_cell BK200.out 1).trans rfl⟩ (fun hHeld => ?_); refine with_tabW spec_l1add.tab5 spec_l1add.bits5 (fun HT_ HW_ => ?_)
 generalize w44.drew = w50 at BK200 BK201 BK202 HB hHeld ⊢
 refine pure_ (i := 0) (N := some 32) (v := ?_) (a' := ?_) #[true, false, false, false, false, false, false, false, false] rfl rfl (any_of HT_.out (by kernel_rfl)) (fun _ _ _ h => h) (Or.inl ⟨by rfl, ?_⟩) ?_ ?_
 rotate_left
 · intro w'
   go_simp
   with_reducible rfl
 rotate_left
 · simp only [Act.put, sa, sb, sc, i64_w, i32_w]
   rfl
 refine pure_ (i := 2) (N := some 34) (v := ?_) (a' := ?_) #[true, false, true, false, false, false, false, false, false] rfl rfl (any_of HT_.out (by kernel_rfl)) (fun _ _ _ h => h) (Or.inl ⟨by rfl, ?_⟩) ?_ ?_
 rotate_left
 · intro w'
   go_simp
   with_reducible rfl
 rotate_left
 · simp only [Act.put, sa, sb, sc, i64_w, i32_w]
   rfl
 refine pure_ (i := 4) (N := some 36) (v := ?_) (a' := ?_) #[true, false, true, false, true, false, false, false, false] rfl rfl (any_of HT_.out (by kernel_rfl)) (fun _ _ _ h => h) (Or.inl ⟨by rfl, ?_⟩) ?_ ?_
 rotate_left
 · intro w'
   go_simp
   with_reducible rfl
 rotate_left
 · simp only [Act.put, sa, sb, sc, i64_w, i32_w]
   rfl
 refine take_ (i := 1) (N := some 33) (v := ?_) (a' := ?_) #[true, true, true, false, true, false, false, false, false] rfl rfl (take_ofW HT_.out HW_.out (by kernel_rfl)) (fun _ _ _ h => h) (Or.inl ⟨by rfl, ?_⟩) hHeld ?_ ?_
 rotate_left
 · rintro w' ⟨s0, s1, s2, s3⟩
   go_simp
   with_reducible rfl
 rotate_left
 · simp only [Act.put, sa, sb, sc, i64_w, i32_w]
   rfl
 refine take_ (i := 3) (N := some 35) (v := ?_) (a' := ?_) #[true, true, true, true, true, false, false, false, false] rfl rfl (take_ofW HT_.out HW_.out (by kernel_rfl)) (fun _ _ _ h => h) (Or.inl ⟨by rfl, ?_⟩) hHeld ?_ ?_
 rotate_left
 · rintro w' ⟨s0, s1, s2, s3⟩
   go_simp
   with_reducible rfl
 rotate_left
 · simp only [Act.put, sa, sb, sc, i64_w, i32_w]
   rfl
 refine take_ (i := 5) (N := some 37) (v := ?_) (a' := ?_) #[true, true, true, true, true, true, false, false, false] rfl rfl (take_ofW HT_.out HW_.out (by kernel_rfl)) (fun _ _ _ h => h) (Or.inl ⟨by rfl, ?_⟩) hHeld ?_ ?_
 rotate_left
 · rintro w' ⟨s0, s1, s2, s3⟩
   go_simp
   with_reducible rfl
 rotate_left
 · simp only [Act.put, sa, sb, sc, i64_w, i32_w]
   rfl
 refine one_ (i := 6) (N := some 38) #[true, true, true, true, true, true, true, false, false] rfl rfl (one_of HT_.out (by kernel_rfl)) (by decide) (fun K hK => ?_)
 refine goes_ Try.func164 (by kernel_rfl) rfl #[.slice A1_1 l1_1.length c1_1, .slice A0_1 l0_1.length c0_1] (by rfl) rfl rfl (by (try simp only [List.map_toArray, List.map_cons, List.map_nil]); first | done | rfl | (simp only [List.length_drop, List.length_take]; rfl)) ?_
 with_reducible refine (spec_l1subMag.calls k _ _ l1_1 _ _ l0_1 t218 _ ?side1 ?side2 ?side3 ?side4 A40.out).mono ?_
 (case side1 => exact cB HR1_1 HB)
 (case side2 => exact HC1_1.out)
 (case side3 => exact cB HR0_1 HB)
 (case side4 => exact HC0_1.out)
 rintro e w51 ⟨v219, rfl, ho0, hb⟩
 refine ⟨_, rfl, ?_⟩
 have HO220 := AM (Kd.R_lower ho0 (below_size (pH HB))); replace BK200 := bB BK200 hb; replace BK201 := bB BK201 hb; replace BK202 := bB BK202 hb; replace HB := AM (below_step (pH HB) hb)
 (try clear hb)
 (try clear hb2)
 (try clear hk)
 (try clear hi)
 (try clear ho0)
 obtain ⟨Ao52, co52, eo52⟩ := Kd.R_slice HO220.out
 (first | subst eo52 | (injection eo52 with f1_ f2_ f3_; have f4_ := f1_.symm; have f5_ := f3_.symm; clear f1_ f2_ f3_; subst f4_; subst f5_))
 refine hK.out _ _ ⟨(blk_cell BK201.out 0).trans rfl, (blk_cell BK201.out 1).trans rfl, (blk_cell BK200.out 0).trans rfl, (blk_cell BK200.out 1).trans rfl⟩ (fun hHeld => ?_)
 clear hK K
 refine norm_ (a' := ?_) ?_ ?_
 rotate_left
 · show Act.put _ (some 38) _ = _
   simp only [Act.put, sa, sb, sc, i64_w, i32_w]
   rfl
 refine one_ (i := 7) (N := some 39) #[true, true, true, true, true, true, true, true, false] rfl rfl (one_of HT_.out (by kernel_rfl)) (by decide) (fun K hK => ?_)
 refine goes_ Try.func115 (by kernel_rfl) rfl #[.bool a1_0, .slice Ao52 t218.length co52] (by rfl) rfl rfl (by (try simp only [List.map_toArray, List.map_cons, List.map_nil]); first | done | rfl | (simp only [List.length_drop, List.length_take]; rfl)) ?_
 with_reducible refine (spec_l1make.calls k a1_0 (fun k_ => some k_ = (.slice Ao52 t218.length co52 : Value).ownBlock) (.slice Ao52 t218.length co52) t218 t221 t222 w _ ?side1 ?side2 A41.out).mono ?_
 (case side1 => exact pH HB)
 (case side2 => exact Kd.R_tight rfl HO220.out)
 rintro e w53 ⟨v223, rfl, ho0, hb, hkp⟩
 refine ⟨_, rfl, ?_⟩
 replace BK200 := AM (blk_kept (pB BK200) hkp (fun hs_ => (fun e_ => (Kd.R_ne HO220.out BK200.out (by decide)) e_) hs_)); replace BK201 := AM (blk_kept (pB BK201) hkp (fun hs_ => (fun e_ => (Kd.R_ne HO220.out BK201.out (by decide)) e_) hs_)); replace BK202 := AM (blk_kept (pB BK202) hkp (fun hs_ => (fun e_ => (Kd.R_ne HO220.out BK202.out (by decide)) e_) hs_)); have HO224 := AM (Kd.R_mono (ok' := fun k_ => True) ho0 (fun k_ hk_ => trivial)); replace HB := AM (hb); clear HO220
 (try clear hb)
 (try clear hkp)
 (try clear ho0)
 obtain ⟨Ao55, co55, eo55⟩ := Kd.R_slice HO224.out
 (first | subst eo55 | (injection eo55 with f1_ f2_ f3_; have f4_ := f1_.symm; have f5_ := f3_.symm; clear f1_ f2_ f3_; subst f4_; subst f5_))
 refine hK.out _ _ ⟨(blk_cell BK201.out 0).trans rfl, (blk_cell BK201.out 1).trans rfl, (blk_cell BK200.out 0).trans rfl, (blk_cell BK200.out 1).trans rfl⟩ (fun hHeld => ?_)
 clear hK K
 refine norm_ (a' := ?_) ?_ ?_
 rotate_left
 · show Act.put _ (some 39) _ = _
   simp only [Act.put, sa, sb, sc, i64_w, i32_w]
   rfl
 refine one_ (i := 8) (N := none) #[true, true, true, true, true, true, true, true, true] rfl rfl (one_of HT_.out (by kernel_rfl)) (by decide) (fun K hK => ?_)
 have hs54 : w53.cell? ⟨gb202, 0, none⟩ = some (.bool false) := (blk_cell BK202.out 0).trans rfl
 have hfs54 := blk_frozen BK202.out 0; have hns54_0 := NB200_202.out; have hns54_1 := NB201_202.out; have hms54_0 := NB202_200.out; have hms54_1 := NB202_201.out
 have hs56 : w53.cell? ⟨gb202, 1, none⟩ = some (.slice none 0 0) := (blk_cell BK202.out 1).trans rfl
 have hfs56 := blk_frozen BK202.out 1; have hns56_0 := NB200_202.out; have hns56_1 := NB201_202.out; have hms56_0 := NB202_200.out; have hms56_1 := NB202_201.out
 refine skip_ (w1 := ?_) (by rfl) rfl ?_ ?_
 rotate_left
 · go_simp
   rfl
 refine hK.out _ _ ⟨((cell_far (p := ⟨gb202, _, none⟩) NB201_202.out _).trans (((cell_far (p := ⟨gb202, _, none⟩) NB201_202.out _).trans (hHeld.1)))), ((cell_far (p := ⟨gb202, _, none⟩) NB201_202.out _).trans (((cell_far (p := ⟨gb202, _, none⟩) NB201_202.out _).trans (hHeld.2.1)))), ((cell_far (p := ⟨gb202, _, none⟩) NB200_202.out _).trans (((cell_far (p := ⟨gb202, _, none⟩) NB200_202.out _).trans (hHeld.2.2.1)))), ((cell_far (p := ⟨gb202, _, none⟩) NB200_202.out _).trans (((cell_far (p := ⟨gb202, _, none⟩) NB200_202.out _).trans (hHeld.2.2.2))))⟩ (fun hHeld => ?_)
 clear hK K
 refine done_ (done_of HT_.out (by kernel_rfl)) ?_
 try go_wp2
 refine bodyPost_ret (results_cell_row rfl _ _ gb202 93 #[.bool t221, .slice Ao55 t222.length co55] (0, 0) _ rfl (by refine sB ?_; refine blk_put (cs := #[.bool t221, .slice none 0 0]) ?_ 1 _ rfl; refine sB ?_; refine blk_put (cs := #[.bool false, .slice none 0 0]) ?_ 0 _ rfl; refine sB ?_; exact BK202.out) Try.underlying93 rfl (by kernel_rfl)) rfl ?_
 exact ⟨_, by first | rfl | (simp [errW_none, errW_some] <;> rfl) | (simp [*, errW_none, errW_some] <;> rfl), by (with_reducible repeat (first | apply Kd.R_alloc | apply Kd.R_drewN | apply Kd.R_drew)); exact Kd.R_mono (Kd.R_far (p := ⟨gb202, 1, none⟩) (Kd.R_far (p := ⟨gb202, 0, none⟩) (Kd.R_types HO224.out BK202.out (by decide)) (fun _ hk => hk.2) (.bool t221)) (fun _ hk => hk.2) (.slice Ao55 t222.length co55)) (fun _ hk => trivial), pH HB⟩

/-! ### spec_l1up: function 150 -/
mutual
def spec_l1up.l0 : Nat → Int → List Int → Int → Int → Bool → List Int → Option (Bool × List Int)
 | 0, _, _, _, _, _, _ => none
 | k + 1, x1, x5, x6, x7, x226000, x226001 => if x7 < (x226001.length : Int) then (spec_l1up.j1 k x1 x5 x6 x7 true x226000 x226001) else (spec_l1up.j1 k x1 x5 x6 x7 (decide (x6 > 0)) x226000 x226001)
def spec_l1up.j1 : Nat → Int → List Int → Int → Int → Bool → Bool → List Int → Option (Bool × List Int)
 | 0, _, _, _, _, _, _, _ => none
 | k + 1, x1, x5, x6, x7, x24, x226000, x226001 => if x24 = true then (if x7 < (x226001.length : Int) then (if 0 ≤ x7 then (if 0 ≤ (IntKind.u64.wrap (Int.tmod x1 16)) then (if x5.length < 17592186044416 then (spec_l1up.l0 k x1 (x5 ++ [Int.tmod (wrap64 (x6 + (shl .i64 (rd x226001 x7) (IntKind.u64.wrap (Int.tmod x1 16))))) 65536]) (wrap64 (Int.tdiv (wrap64 (x6 + (shl .i64 (rd x226001 x7) (IntKind.u64.wrap (Int.tmod x1 16))))) 65536)) (wrap64 (x7 + 1)) x226000 x226001) else (none)) else (none)) else (none)) else (if x5.length < 17592186044416 then (spec_l1up.l0 k x1 (x5 ++ [Int.tmod x6 65536]) (wrap64 (Int.tdiv x6 65536)) (wrap64 (x7 + 1)) x226000 x226001) else (none))) else ((spec_l1make.f k x226000 x5).bind fun bt237 => (some (bt237.1, bt237.2)))
end
def spec_l1up.f (k : Nat) (a0_0 : Bool) (l0_1 : List Int) (a1 : Int) : Option (Bool × List Int) := if (l0_1.length : Int) = 0 then (some (a0_0, l0_1)) else (if 0 ≤ (wrap64 (Int.tdiv a1 16)) then (if (wrap64 (Int.tdiv a1 16) : Int).toNat ≤ 35184372088832 then (spec_l1up.l0 k a1 (List.replicate (wrap64 (Int.tdiv a1 16) : Int).toNat 0) 0 0 a0_0 l0_1) else (none)) else (none))
theorem spec_l1up.mono_l : ∀ k, (∀ y0 y1 y2 y3 y4 y5, LeO (spec_l1up.l0 k y0 y1 y2 y3 y4 y5) (spec_l1up.l0 (k + 1) y0 y1 y2 y3 y4 y5)) ∧ (∀ y0 y1 y2 y3 y4 y5 y6, LeO (spec_l1up.j1 k y0 y1 y2 y3 y4 y5 y6) (spec_l1up.j1 (k + 1) y0 y1 y2 y3 y4 y5 y6))
 | 0 => ⟨fun _ _ _ _ _ _ r h => by simp [spec_l1up.l0] at h, fun _ _ _ _ _ _ _ r h => by simp [spec_l1up.j1] at h⟩
 | k + 1 => by
  obtain ⟨ih0, ih1⟩ := spec_l1up.mono_l k
  refine ⟨?_, ?_⟩
  · intro y0 y1 y2 y3 y4 y5
    unfold spec_l1up.l0
    repeat' with_reducible first | exact ih0 _ _ _ _ _ _ | exact ih1 _ _ _ _ _ _ _ | exact spec_l1make.mono _ _ _ | exact LeO.refl _ | exact LeO.none _ | refine LeO.ite ?_ ?_ | refine LeO.bind ?_ (fun _ => ?_)
  intro y0 y1 y2 y3 y4 y5 y6
  unfold spec_l1up.j1
  repeat' with_reducible first | exact ih0 _ _ _ _ _ _ | exact ih1 _ _ _ _ _ _ _ | exact spec_l1make.mono _ _ _ | exact LeO.refl _ | exact LeO.none _ | refine LeO.ite ?_ ?_ | refine LeO.bind ?_ (fun _ => ?_)
theorem spec_l1up.mono : ∀ a0 a1 a2 k, LeO (spec_l1up.f k a0 a1 a2) (spec_l1up.f (k + 1) a0 a1 a2) := by
 intro a0 a1 a2 k
 obtain ⟨ih0, ih1⟩ := spec_l1up.mono_l k
 unfold spec_l1up.f
 repeat' with_reducible first | exact ih0 _ _ _ _ _ _ | exact ih1 _ _ _ _ _ _ _ | exact spec_l1make.mono _ _ _ | exact LeO.refl _ | exact LeO.none _ | refine LeO.ite ?_ ?_ | refine LeO.bind ?_ (fun _ => ?_)
set_option maxHeartbeats 8000000 in
set_option maxRecDepth 100000 in
theorem spec_l1up.calls (k : Nat) (a0_0 : Bool) (P0_1_ : Nat → Prop) (u9000_ : Value) (l0_1 : List Int) (a1 : Int) (r1 : Bool) (r2 : List Int) (w0 w : World) (hB : Below w0.heap.size w0 w) (ho0_1 : Kd.R (Kd.int .i64) 3 w w0.heap.size P0_1_ u9000_ l0_1) (h : spec_l1up.f k a0_0 l0_1 a1 = some (r1, r2)) :
 Calls Try.prog 150 #[.agg #[.bool a0_0, u9000_], .int .i64 a1] w fun e w' => ∃ v1_ : Value, e = .returned (.agg #[.bool r1, v1_]) ∧ Kd.R (Kd.int .i64) 3 w' w0.heap.size (fun k_ => (P0_1_ k_ ∨ w.heap.size ≤ k_)) v1_ r2 ∧ Below w0.heap.size w0 w' ∧ Kept w w' (fun k_ => P0_1_ k_) := by
 have hu93 := Try.underlying93; have HO0_1 := AM (show Kd.R (Kd.int .i64) 3 w w0.heap.size (fun k_ => (P0_1_ k_ ∨ w.heap.size ≤ k_)) u9000_ l0_1 from Kd.R_mono ho0_1 (fun k_ hk => (.inl hk))); have HK := AM (Kept.refl w (fun k_ => P0_1_ k_)); have HW0 := AM hB.size; have HB := AM hB; clear hB
 have H : (if (l0_1.length : Int) = 0 then (some (a0_0, l0_1)) else (if 0 ≤ (wrap64 (Int.tdiv a1 16)) then (if (wrap64 (Int.tdiv a1 16) : Int).toNat ≤ 35184372088832 then (spec_l1up.l0 k a1 (List.replicate (wrap64 (Int.tdiv a1 16) : Int).toNat 0) 0 0 a0_0 l0_1) else (none)) else (none))) = some (r1, r2) := h
 clear h
 by_cases c3 : (l0_1.length : Int) = 0
 · rw [if_pos c3] at H
   have c3b0 : ((l0_1.length : Int) == 0) = true := beq_iff_eq.mpr c3
   have c3b1 : ((l0_1.length : Int) != 0) = false := bne_eq_false_iff_eq.mpr c3
   clear c3
   simp only [Option.some.injEq, Prod.mk.injEq] at H
   obtain ⟨rfl, rfl⟩ := H
   obtain ⟨Ao4, co4, eo4⟩ := Kd.R_slice HO0_1.out
   subst eo4
   go_enter Try.func150, Try.ntmps150
   go_wp2_with (first | ((with_reducible refine gate_dst (N := 2) rfl ?_); refine box_event ?hg (N := 2) ?hd (cs := #[.bool a0_0, .slice Ao4 l0_1.length co4]) (t := 93) ?hr ?_; (case hd => rfl); (case hg => rfl); (case hr => first | (go_simp; done) | (go_simp; rfl)); intro gb225 hg w5 hbox hb; replace HO0_1 := AM (Kd.R_below (pR HO0_1) hb); have BK225 := AM (hbox); have GW225 := AM ((by rw [hg]; exact (by first | exact HK.out.1 | exact (show Kept w _ (fun k_ => P0_1_ k_) from by repeat (first | (with_reducible first | exact HK.out | apply Kept.alloc | apply Kept.drewN | apply Kept.drew) | exact HK.out)).1) : w.heap.size ≤ gb225)); replace HK := AM (Kept.below (S := (fun k_ => P0_1_ k_)) (by repeat (first | (with_reducible first | exact HK.out | apply Kept.alloc | apply Kept.drewN | apply Kept.drew) | exact HK.out)) hb); have GE225 := gH HB hg; replace HB := AM (below_step (pH HB) hb); clear hb hbox hg) | ((with_reducible refine gate_dst (N := 4) rfl ?_); refine box_event ?hg (N := 4) ?hd (cs := #[.bool false, .slice none 0 0]) (t := 93) ?hr ?_; (case hd => rfl); (case hg => rfl); (case hr => first | (go_simp; done) | (go_simp; rfl)); intro gb226 hg w6 hbox hb; replace HO0_1 := AM (Kd.R_below (pR HO0_1) hb); have BK226 := AM (hbox); have GW226 := AM ((by rw [hg]; exact (by first | exact HK.out.1 | exact (show Kept w _ (fun k_ => P0_1_ k_) from by repeat (first | (with_reducible first | exact HK.out | apply Kept.alloc | apply Kept.drewN | apply Kept.drew | refine Kept.setCell ?_ (.inr GW225.out) _) | exact HK.out)).1) : w.heap.size ≤ gb226)); replace HK := AM (Kept.below (S := (fun k_ => P0_1_ k_)) (by repeat (first | (with_reducible first | exact HK.out | apply Kept.alloc | apply Kept.drewN | apply Kept.drew | refine Kept.setCell ?_ (.inr GW225.out) _) | exact HK.out)) hb); have GE226 := gH HB hg; replace HB := AM (below_step (pH HB) hb); have NB225_226 := nL BK225 hg; have NB226_225 := nG BK225 hg; replace BK225 := bB BK225 hb; clear hb hbox hg; have hnb7 := NB225_226.out; have hnc7 := NB226_225.out; have ⟨hcz8_0, hcz8_1, hfz8_0, hfz8_1⟩ := z2 BK225; have ⟨hcz9_0, hcz9_1, hfz9_0, hfz9_1⟩ := z2 BK226))
   refine bodyPost_ret (results_cell_row rfl _ _ gb226 93 #[.bool a0_0, .slice Ao4 l0_1.length co4] (0, 0) _ rfl (by refine sB ?_; refine blk_put (cs := #[.bool a0_0, .slice none 0 0]) ?_ 1 _ rfl; refine sB ?_; refine blk_put (cs := #[.bool false, .slice none 0 0]) ?_ 0 _ rfl; refine sB ?_; exact BK226.out) Try.underlying93 rfl (by kernel_rfl)) rfl ?_
   exact ⟨_, by first | rfl | (simp [errW_none, errW_some] <;> rfl) | (simp [*, errW_none, errW_some] <;> rfl), by (with_reducible repeat (first | apply Kd.R_alloc | apply Kd.R_drewN | apply Kd.R_drew)); exact Kd.R_mono (Kd.R_far (p := ⟨gb226, 1, none⟩) (Kd.R_far (p := ⟨gb226, 0, none⟩) (Kd.R_types HO0_1.out BK226.out (by decide)) (fun _ hk => hk.2) (.bool a0_0)) (fun _ hk => hk.2) (.slice Ao4 l0_1.length co4)) (fun _ hk => hk.1), pH HB, by repeat (first | (with_reducible first | exact HK.out | apply Kept.alloc | apply Kept.drewN | apply Kept.drew | refine Kept.setCell ?_ (.inr GW225.out) _ | refine Kept.setCell ?_ (.inr GW226.out) _) | exact HK.out)⟩
 rw [if_neg c3] at H
 have c3b0 : ((l0_1.length : Int) == 0) = false := beq_eq_false_iff_ne.mpr c3
 have c3b1 : ((l0_1.length : Int) != 0) = true := bne_iff_ne.mpr c3
 have c3b2 : ¬ (l0_1 = []) := fun h_ => c3 (by rw [h_]; rfl)
 obtain ⟨ji10, hji10⟩ : ∃ j_ : Int, (wrap64 (Int.tdiv a1 16)) = j_ := ⟨_, rfl⟩
 replace H : (if 0 ≤ (ji10) then (if (ji10 : Int).toNat ≤ 35184372088832 then (spec_l1up.l0 k a1 (List.replicate (ji10 : Int).toNat 0) 0 0 a0_0 l0_1) else (none)) else (none)) = some (r1, r2) := by first | (rw [hji10] at H; exact H) | (simp only [hji10] at H ⊢; exact H)
 have hji10w : (IntKind.i64.wrap (Int.tdiv a1 16)) = ji10 := (i64_w _).trans hji10
 by_cases c11 : 0 ≤ (ji10)
 rotate_left
 · rw [if_neg c11] at H
   exact absurd H (by simp)

 rw [if_pos c11] at H
 have c11b0 := eq_true c11
 have c11b1 : decide (0 ≤ (ji10)) = true := decide_eq_true c11
 clear c11
 by_cases c12 : (ji10 : Int).toNat ≤ 35184372088832
 rotate_left
 · rw [if_neg c12] at H
   exact absurd H (by simp)
 rw [if_pos c12] at H
 have c12b0 := eq_true c12
 have c12b1 : decide ((ji10 : Int).toNat ≤ 35184372088832) = true := decide_eq_true c12
 clear c12
 obtain ⟨y227, hy227⟩ : ∃ y_ : List Int, y_ = (List.replicate (ji10 : Int).toNat 0) := ⟨_, rfl⟩
 replace H : (spec_l1up.l0 k a1 y227 0 0 a0_0 l0_1) = some (r1, r2) := by first | (rw [hy227]; with_reducible exact H) | (have H2_ := (Option.bind_some _ _).symm.trans H; rw [hy227]; with_reducible exact H2_) | (have H2_ := (Option.bind_some _ _).symm.trans H; with_reducible exact H2_) | with_reducible exact H | (rw [hy227]; exact H) | exact H
 have Ny227 := AM hy227; clear hy227
 have H' := AM H
 clear H
 obtain ⟨Ao13, co13, eo13⟩ := Kd.R_slice HO0_1.out
 subst eo13
 go_enter Try.func150, Try.ntmps150
 go_wp2_with (first | ((with_reducible refine gate_dst (N := 2) rfl ?_); refine box_event ?hg (N := 2) ?hd (cs := #[.bool a0_0, .slice Ao13 l0_1.length co13]) (t := 93) ?hr ?_; (case hd => rfl); (case hg => rfl); (case hr => first | (go_simp; done) | (go_simp; rfl)); intro gb225 hg w14 hbox hb; replace HO0_1 := AM (Kd.R_below (pR HO0_1) hb); have BK225 := AM (hbox); have GW225 := AM ((by rw [hg]; exact (by first | exact HK.out.1 | exact (show Kept w _ (fun k_ => P0_1_ k_) from by repeat (first | (with_reducible first | exact HK.out | apply Kept.alloc | apply Kept.drewN | apply Kept.drew) | exact HK.out)).1) : w.heap.size ≤ gb225)); replace HK := AM (Kept.below (S := (fun k_ => P0_1_ k_)) (by repeat (first | (with_reducible first | exact HK.out | apply Kept.alloc | apply Kept.drewN | apply Kept.drew) | exact HK.out)) hb); have GE225 := gH HB hg; replace HB := AM (below_step (pH HB) hb); clear hb hbox hg) | ((with_reducible refine gate_dst (N := 4) rfl ?_); refine box_event ?hg (N := 4) ?hd (cs := #[.bool false, .slice none 0 0]) (t := 93) ?hr ?_; (case hd => rfl); (case hg => rfl); (case hr => first | (go_simp; done) | (go_simp; rfl)); intro gb226 hg w15 hbox hb; replace HO0_1 := AM (Kd.R_below (pR HO0_1) hb); have BK226 := AM (hbox); have GW226 := AM ((by rw [hg]; exact (by first | exact HK.out.1 | exact (show Kept w _ (fun k_ => P0_1_ k_) from by repeat (first | (with_reducible first | exact HK.out | apply Kept.alloc | apply Kept.drewN | apply Kept.drew | refine Kept.setCell ?_ (.inr GW225.out) _) | exact HK.out)).1) : w.heap.size ≤ gb226)); replace HK := AM (Kept.below (S := (fun k_ => P0_1_ k_)) (by repeat (first | (with_reducible first | exact HK.out | apply Kept.alloc | apply Kept.drewN | apply Kept.drew | refine Kept.setCell ?_ (.inr GW225.out) _) | exact HK.out)) hb); have GE226 := gH HB hg; replace HB := AM (below_step (pH HB) hb); have NB225_226 := nL BK225 hg; have NB226_225 := nG BK225 hg; replace BK225 := bB BK225 hb; clear hb hbox hg; have hnb16 := NB225_226.out; have hnc16 := NB226_225.out; have ⟨hcz17_0, hcz17_1, hfz17_0, hfz17_1⟩ := z2 BK225) | ((with_reducible refine gate_dst (N := 15) rfl ?_); refine Kd.R_make (Kd.int .i64) _ 3 rfl (N := 15) rfl 36 _ _ rfl ji10 rfl rfl Try.underlying36 (.int .i64 0) 8 info3 rfl (by decide) (by omega) 0 (ok := fun _ => True) (okp := fun _ => True) rfl (fun _ hk => hk) trivial (of_decide_eq_true (by first | (with_reducible assumption) | assumption)) (Nat.le_trans (Nat.mul_le_mul_right _ (of_decide_eq_true (by first | (with_reducible assumption) | assumption) : ji10.toNat ≤ 35184372088832)) (by omega)) (Below.refl _ _) (Nat.le_refl _) ?_; intro v228 w18 ho19 hb hg_ hnew_; clear hg_ hnew_; (first | rw [← Ny227.out] at ho19 | (simp only [Int.reduceToNat] at ho19; rw [← Ny227.out] at ho19)); have HO229 := AM (Kd.R_lower (Kd.R_new' (Kd.R_newM (M := fun k_ => (P0_1_ k_ ∨ w.heap.size ≤ k_)) ho19 (by first | exact HK.out.1 | exact (show Kept w _ (fun k_ => P0_1_ k_) from by repeat (first | (with_reducible first | exact HK.out | apply Kept.alloc | apply Kept.drewN | apply Kept.drew | refine Kept.setCell ?_ (.inr GW225.out) _ | refine Kept.setCell ?_ (.inr GW226.out) _) | exact HK.out)).1) (fun k_ h_ => .inr h_)) (Kd.R_lt (pR HO0_1))) (below_size (pH HB))); replace HO0_1 := AM (Kd.R_elder' (pR HO0_1) (Kd.R_base ho19) hb); replace BK225 := bB BK225 hb; replace BK226 := bB BK226 hb; replace HK := AM (Kept.below (S := (fun k_ => P0_1_ k_)) (by repeat (first | (with_reducible first | exact HK.out | apply Kept.alloc | apply Kept.drewN | apply Kept.drew | refine Kept.setCell ?_ (.inr GW225.out) _ | refine Kept.setCell ?_ (.inr GW226.out) _) | exact HK.out)) hb); replace HB := AM (below_step (pH HB) hb); clear hb ho19))
 go_loopg [5, 6, 7] k (fun kq v5 v6 v7 w' => ∃ (x5_1 : List Int) (x6_1 : Int) (x7_1 : Int), v6 = .int .i64 x6_1 ∧ v7 = .int .i64 x7_1 ∧ Aside0 (spec_l1up.l0 kq a1 x5_1 x6_1 x7_1 a0_0 l0_1 = some (r1, r2)) ∧ Aside0 (kq ≤ k) ∧ Aside0 (Kd.R (Kd.int .i64) 3 w' w0.heap.size (fun k_ => (P0_1_ k_ ∨ w.heap.size ≤ k_) ∧ some k_ ≠ ((.slice Ao13 l0_1.length co13) : Value).ownBlock) v5 x5_1) ∧ Aside0 (Kd.R (Kd.int .i64) 3 w' w0.heap.size (fun k_ => (P0_1_ k_ ∨ w.heap.size ≤ k_) ∧ some k_ ≠ (v5 : Value).ownBlock) (.slice Ao13 l0_1.length co13) l0_1) ∧ Aside0 (w'.heap[gb225]? = some (.cells #[.bool a0_0, (.slice Ao13 l0_1.length co13)] 93 (0, 0))) ∧ Aside0 (w'.heap[gb226]? = some (.cells #[.bool false, (.slice none 0 0)] 93 (0, 0))) ∧ Aside0 (Kept w w' (fun k_ => P0_1_ k_)) ∧ Aside0 (Below w0.heap.size w0 w'))
 case atStart => exact ⟨(y227), (0), (0), (by first | rfl | (simp; done) | (simp [*]; done)), (by first | rfl | (simp; done) | (simp [*]; done)), H', ⟨Nat.le_refl _⟩, ⟨by (with_reducible repeat (first | apply Kd.R_alloc | apply Kd.R_drewN | apply Kd.R_drew)); exact Kd.R_mono HO229.out (fun _ hk => ⟨hk.1.1, hk.2⟩)⟩, ⟨by (with_reducible repeat (first | apply Kd.R_alloc | apply Kd.R_drewN | apply Kd.R_drew)); exact HO0_1.out⟩, ⟨by refine sB ?_; exact BK225.out⟩, ⟨by refine sB ?_; exact BK226.out⟩, ⟨by repeat (first | (with_reducible first | exact HK.out | apply Kept.alloc | apply Kept.drewN | apply Kept.drew | refine Kept.setCell ?_ (.inr GW225.out) _ | refine Kept.setCell ?_ (.inr GW226.out) _) | exact HK.out)⟩, ⟨pH HB⟩⟩
 case round =>
  clear H'
  try clear c1
  try clear p2
  try clear c3
  try clear c3b0
  try clear c3b1
  try clear c3b2
  try clear p6
  try clear c7
  try clear c11
  try clear c11b0
  try clear c11b1
  try clear c12
  try clear c12b0
  try clear c12b1
  try clear c15
  try clear c16
  try clear hcz17_0
  try clear hcz17_1
  try clear hcz8_0
  try clear hcz8_1
  try clear hcz9_0
  try clear hcz9_1
  try clear hfz17_0
  try clear hfz17_1
  try clear hfz8_0
  try clear hfz8_1
  try clear hfz9_0
  try clear hfz9_1
  obtain ⟨x5_1, x6_1, x7_1, rfl, rfl, HA, HK1, HO_5, HO_226001, BK225, BK226, HK, HB⟩ := hrel
  cases gk with
  | zero => exact absurd HA.out (by simp [spec_l1up.l0])
  | succ k1 =>
   have H := HA.out; clear HA
   simp only [spec_l1up.l0] at H
   have HC20 := AM H; clear H
   go_upto_region 6 with (fail)
   go_cut [24] (fun v24 wc => ∃ (kq : Nat) (x24_19 : Bool), v24 = .bool x24_19 ∧ Aside0 (spec_l1up.j1 kq a1 x5_1 x6_1 x7_1 x24_19 a0_0 l0_1 = some (r1, r2)) ∧ Aside0 (kq ≤ k1) ∧ Aside0 (Kd.R (Kd.int .i64) 3 wc w0.heap.size (fun k_ => (P0_1_ k_ ∨ w.heap.size ≤ k_) ∧ some k_ ≠ ((.slice Ao13 l0_1.length co13) : Value).ownBlock) u5 x5_1) ∧ Aside0 (Kd.R (Kd.int .i64) 3 wc w0.heap.size (fun k_ => (P0_1_ k_ ∨ w.heap.size ≤ k_) ∧ some k_ ≠ (u5 : Value).ownBlock) (.slice Ao13 l0_1.length co13) l0_1) ∧ Aside0 (wc.heap[gb225]? = some (.cells #[.bool a0_0, (.slice Ao13 l0_1.length co13)] 93 (0, 0))) ∧ Aside0 (wc.heap[gb226]? = some (.cells #[.bool false, (.slice none 0 0)] 93 (0, 0))) ∧ Aside0 (Kept w wc (fun k_ => P0_1_ k_)) ∧ Aside0 (Below w0.heap.size w0 wc))
   case first =>
    have H := HC20.out; clear HC20
    by_cases c21 : x7_1 < (l0_1.length : Int)
    · rw [if_pos c21] at H
      have c21b0 : decide (x7_1 < (l0_1.length : Int)) = true := decide_eq_true c21
      clear c21
      (first | rw [c21b0] | (simp only [i64_w, i32_w]; rw [c21b0]) | skip)
      have H' := AM H
      clear H; have hnb22 := NB225_226.out; have hnc22 := NB226_225.out
      have hcz23_0 : wr.cell? ⟨gb225, 0, none⟩ = some (.bool a0_0) := (blk_cell BK225.out 0).trans rfl
      have hcz23_1 : wr.cell? ⟨gb225, 1, none⟩ = some (.slice Ao13 l0_1.length co13) := (blk_cell BK225.out 1).trans rfl
      have hfz23_0 := blk_frozen BK225.out 0; have hfz23_1 := blk_frozen BK225.out 1
      go_wp2
      go_meet
      case rel => exact ⟨_, (true), (by first | rfl | (simp; done) | (simp [*]; done)), H', ⟨by have := HK1.out; first | omega | exact Nat.le_refl _⟩, ⟨by (with_reducible repeat (first | apply Kd.R_alloc | apply Kd.R_drewN | apply Kd.R_drew)); exact HO_5.out⟩, ⟨by (with_reducible repeat (first | apply Kd.R_alloc | apply Kd.R_drewN | apply Kd.R_drew)); exact HO_226001.out⟩, ⟨by refine sB ?_; exact BK225.out⟩, ⟨by refine sB ?_; exact BK226.out⟩, ⟨by repeat (first | (with_reducible first | exact HK.out | apply Kept.alloc | apply Kept.drewN | apply Kept.drew | refine Kept.setCell ?_ (.inr GW225.out) _ | refine Kept.setCell ?_ (.inr GW226.out) _) | exact HK.out)⟩, ⟨pH HB⟩⟩
    rw [if_neg c21] at H
    have c21b0 : decide (x7_1 < (l0_1.length : Int)) = false := decide_eq_false c21
    clear c21
    (first | rw [c21b0] | (simp only [i64_w, i32_w]; rw [c21b0]) | skip)
    have H' := AM H
    clear H; have hnb24 := NB225_226.out; have hnc24 := NB226_225.out
    have hcz25_0 : wr.cell? ⟨gb225, 0, none⟩ = some (.bool a0_0) := (blk_cell BK225.out 0).trans rfl
    have hcz25_1 : wr.cell? ⟨gb225, 1, none⟩ = some (.slice Ao13 l0_1.length co13) := (blk_cell BK225.out 1).trans rfl
    have hfz25_0 := blk_frozen BK225.out 0; have hfz25_1 := blk_frozen BK225.out 1
    go_wp2
    go_meet
    case rel => exact ⟨_, (decide (x6_1 > 0)), (by first | rfl | (simp; done) | (simp [*]; done)), H', ⟨by have := HK1.out; first | omega | exact Nat.le_refl _⟩, ⟨by (with_reducible repeat (first | apply Kd.R_alloc | apply Kd.R_drewN | apply Kd.R_drew)); exact HO_5.out⟩, ⟨by (with_reducible repeat (first | apply Kd.R_alloc | apply Kd.R_drewN | apply Kd.R_drew)); exact HO_226001.out⟩, ⟨by refine sB ?_; exact BK225.out⟩, ⟨by refine sB ?_; exact BK226.out⟩, ⟨by repeat (first | (with_reducible first | exact HK.out | apply Kept.alloc | apply Kept.drewN | apply Kept.drew | refine Kept.setCell ?_ (.inr GW225.out) _ | refine Kept.setCell ?_ (.inr GW226.out) _) | exact HK.out)⟩, ⟨pH HB⟩⟩
   case rest =>
    clear HC20
    try clear c1
    try clear c2
    try clear p2
    try clear c3
    try clear c3b0
    try clear c3b1
    try clear c3b2
    try clear p6
    try clear c7
    try clear c11
    try clear c11b0
    try clear c11b1
    try clear c12
    try clear c12b0
    try clear c12b1
    try clear c15
    try clear c16
    try clear c21
    try clear c21b0
    try clear c22
    try clear c24
    try clear hcz17_0
    try clear hcz17_1
    try clear hcz23_0
    try clear hcz23_1
    try clear hcz25_0
    try clear hcz25_1
    try clear hcz8_0
    try clear hcz8_1
    try clear hcz9_0
    try clear hcz9_1
    try clear hfz17_0
    try clear hfz17_1
    try clear hfz23_0
    try clear hfz23_1
    try clear hfz25_0
    try clear hfz25_1
    try clear hfz8_0
    try clear hfz8_1
    try clear hfz9_0
    try clear hfz9_1
    try clear p2
    try clear p6
    obtain ⟨kq, x24_19, rfl, HA, HJ19, HO_5, HO_226001, BK225, BK226, HK, HB⟩ := hcut
    cases kq with
    | zero => exact absurd HA.out (by simp [spec_l1up.j1])
    | succ kj19 =>
     have H := HA.out; clear HA
     simp only [spec_l1up.j1] at H
     by_cases c26 : x24_19 = true
     rotate_left
     · replace c26 := Bool.eq_false_iff.mpr c26
       subst c26
       have H1 : ((spec_l1make.f kj19 a0_0 x5_1).bind fun bt237 => (some (bt237.1, bt237.2))) = some (r1, r2) := by rw [if_neg (show ¬ (false = true) by decide)] at H; exact H
       clear H; have H := H1; clear H1
       replace H := Option.bind_eq_some_iff.mp H
       obtain ⟨⟨t237, t238⟩, A400, H⟩ := H
       (try dsimp only at H)
       have A40 := AM A400; clear A400
       simp only [Option.some.injEq, Prod.mk.injEq] at H
       obtain ⟨rfl, rfl⟩ := H
       have hnb41 := NB225_226.out; have hnc41 := NB226_225.out
       have hcz42_0 : wc.cell? ⟨gb225, 0, none⟩ = some (.bool a0_0) := (blk_cell BK225.out 0).trans rfl
       have hcz42_1 : wc.cell? ⟨gb225, 1, none⟩ = some (.slice Ao13 l0_1.length co13) := (blk_cell BK225.out 1).trans rfl
       have hfz42_0 := blk_frozen BK225.out 0; have hfz42_1 := blk_frozen BK225.out 1
       obtain ⟨Ao43, co43, eo43⟩ := Kd.R_slice HO_5.out
       subst eo43
       go_wp2_with (first | ((with_reducible refine gate_callee (f := 115) rfl ?_); refine goesL_ (some 53) rfl rfl Try.func115 (by kernel_rfl) rfl #[.bool a0_0, .slice Ao43 x5_1.length co43] rfl (by (try simp only [List.map_toArray, List.map_cons, List.map_nil]); first | done | rfl | (simp only [List.length_drop, List.length_take]; rfl)) ?_; (with_reducible refine (spec_l1make.calls kj19 a0_0 (fun k_ => some k_ = (.slice Ao43 x5_1.length co43 : Value).ownBlock) (.slice Ao43 x5_1.length co43) x5_1 t237 t238 w0 _ ?side1 ?side2 A40.out).mono ?_); (case side1 => exact pH HB); (case side2 => exact Kd.R_tight rfl HO_5.out); rintro e w44 ⟨v239, rfl, ho0, hb, hkp⟩; refine ⟨_, rfl, ?_⟩; replace BK225 := AM (blk_kept (pB BK225) hkp (fun hs_ => (fun e_ => (Kd.R_ne HO_5.out BK225.out (by decide)) e_) hs_)); replace BK226 := AM (blk_kept (pB BK226) hkp (fun hs_ => (fun e_ => (Kd.R_ne HO_5.out BK226.out (by decide)) e_) hs_)); have HO240 := AM (Kd.R_mono (ok' := fun k_ => (P0_1_ k_ ∨ w.heap.size ≤ k_) ∧ some k_ ≠ (.slice Ao13 l0_1.length co13 : Value).ownBlock) ho0 (fun k_ hk_ => ⟨Or.elim hk_ (fun hs_ => (HO_5.out.1 k_ (hs_).symm).1) (fun hn_ => (.inr (Nat.le_trans (by first | exact HK.out.1 | exact (show Kept w _ (fun k_ => P0_1_ k_) from by repeat (first | (with_reducible first | exact HK.out | apply Kept.alloc | apply Kept.drewN | apply Kept.drew | refine Kept.setCell ?_ (.inr GW225.out) _ | refine Kept.setCell ?_ (.inr GW226.out) _) | exact HK.out)).1) hn_))), Or.elim hk_ (fun hs_ => fun e_ => (((HO_226001.out).1 k_ e_.symm).2) hs_) (fun hn_ => (Kd.fresh' (Kd.R_lt (pR HO_226001)) k_ hn_))⟩)); replace HO_226001 := AM (Kd.R_mono (ok' := fun k_ => (P0_1_ k_ ∨ w.heap.size ≤ k_) ∧ some k_ ≠ (v239 : Value).ownBlock) (Kd.R_keptB (HO_226001.out) hkp (fun k_ hk_ hs_ => (hk_.2) hs_)) (fun k_ hk_ => ⟨hk_.1.1, fun e_ => Or.elim (ho0.1 k_ e_.symm) (fun hs_ => hk_.2.1 hs_) (fun hn_ => Nat.not_le.2 hk_.2.2 hn_)⟩)); replace HK := AM (Kept.then_ (S := (fun k_ => P0_1_ k_)) (by repeat (first | (with_reducible first | exact HK.out | apply Kept.alloc | apply Kept.drewN | apply Kept.drew | refine Kept.setCell ?_ (.inr GW225.out) _ | refine Kept.setCell ?_ (.inr GW226.out) _) | exact HK.out)) hkp (fun k_ hs_ => (fun e_ => (HO_5.out.1 k_ e_.symm).1) hs_)); replace HB := AM (hb); clear HO_5; (try clear hb); (try clear hkp); (try clear ho0); have ⟨hcz45_0, hcz45_1, hfz45_0, hfz45_1⟩ := z2 BK226; obtain ⟨Ao46, co46, eo46⟩ := Kd.R_slice HO240.out; subst eo46))
       refine bodyPost_ret (results_cell_row rfl _ _ gb226 93 #[.bool t237, .slice Ao46 t238.length co46] (0, 0) _ rfl (by refine sB ?_; refine blk_put (cs := #[.bool t237, .slice none 0 0]) ?_ 1 _ rfl; refine sB ?_; refine blk_put (cs := #[.bool false, .slice none 0 0]) ?_ 0 _ rfl; refine sB ?_; exact BK226.out) Try.underlying93 rfl (by kernel_rfl)) rfl ?_
       exact ⟨_, by first | rfl | (simp [errW_none, errW_some] <;> rfl) | (simp only [← hji10]; first | rfl | (simp [errW_none, errW_some] <;> rfl)) | (simp [*, errW_none, errW_some] <;> rfl), by (with_reducible repeat (first | apply Kd.R_alloc | apply Kd.R_drewN | apply Kd.R_drew)); exact Kd.R_mono (Kd.R_far (p := ⟨gb226, 1, none⟩) (Kd.R_far (p := ⟨gb226, 0, none⟩) (Kd.R_types HO240.out BK226.out (by decide)) (fun _ hk => hk.2) (.bool t237)) (fun _ hk => hk.2) (.slice Ao46 t238.length co46)) (fun _ hk => hk.1.1), pH HB, by repeat (first | (with_reducible first | exact HK.out | apply Kept.alloc | apply Kept.drewN | apply Kept.drew | refine Kept.setCell ?_ (.inr GW225.out) _ | refine Kept.setCell ?_ (.inr GW226.out) _) | exact HK.out)⟩
     subst c26
     have H1 : (if x7_1 < (l0_1.length : Int) then (if 0 ≤ x7_1 then (if 0 ≤ (IntKind.u64.wrap (Int.tmod a1 16)) then (if x5_1.length < 17592186044416 then (spec_l1up.l0 kj19 a1 (x5_1 ++ [Int.tmod (wrap64 (x6_1 + (shl .i64 (rd l0_1 x7_1) (IntKind.u64.wrap (Int.tmod a1 16))))) 65536]) (wrap64 (Int.tdiv (wrap64 (x6_1 + (shl .i64 (rd l0_1 x7_1) (IntKind.u64.wrap (Int.tmod a1 16))))) 65536)) (wrap64 (x7_1 + 1)) a0_0 l0_1) else (none)) else (none)) else (none)) else (if x5_1.length < 17592186044416 then (spec_l1up.l0 kj19 a1 (x5_1 ++ [Int.tmod x6_1 65536]) (wrap64 (Int.tdiv x6_1 65536)) (wrap64 (x7_1 + 1)) a0_0 l0_1) else (none))) = some (r1, r2) := by rw [if_pos rfl] at H; exact H
     clear H; have H := H1; clear H1
     by_cases c27 : x7_1 < (l0_1.length : Int)
     rotate_left
     · rw [if_neg c27] at H
       have c27b0 : decide (x7_1 < (l0_1.length : Int)) = false := decide_eq_false c27
       clear c27
       by_cases c36 : x5_1.length < 17592186044416
       rotate_left
       · rw [if_neg c36] at H
         exact absurd H (by simp)
       rw [if_pos c36] at H
       have LMc36 := AM c36; clear c36
       obtain ⟨y234, hy234⟩ : ∃ y_ : List Int, y_ = (x5_1 ++ [Int.tmod x6_1 65536]) := ⟨_, rfl⟩
       replace H : (spec_l1up.l0 kj19 a1 y234 (wrap64 (Int.tdiv x6_1 65536)) (wrap64 (x7_1 + 1)) a0_0 l0_1) = some (r1, r2) := by first | (rw [hy234]; with_reducible exact H) | (have H2_ := (Option.bind_some _ _).symm.trans H; rw [hy234]; with_reducible exact H2_) | (have H2_ := (Option.bind_some _ _).symm.trans H; with_reducible exact H2_) | with_reducible exact H | (rw [hy234]; exact H) | exact H
       have Ny234 := AM hy234; clear hy234
       have H' := AM H
       clear H; have hnb37 := NB225_226.out; have hnc37 := NB226_225.out
       have hcz38_0 : wc.cell? ⟨gb225, 0, none⟩ = some (.bool a0_0) := (blk_cell BK225.out 0).trans rfl
       have hcz38_1 : wc.cell? ⟨gb225, 1, none⟩ = some (.slice Ao13 l0_1.length co13) := (blk_cell BK225.out 1).trans rfl
       have hfz38_0 := blk_frozen BK225.out 0; have hfz38_1 := blk_frozen BK225.out 1
       go_wp2_with (first | ((with_reducible refine gate_builtin (b := .append) (xs := #[.tmp 43, .tmp 46]) rfl ?_); at_builtin; refine Kd.R_append (Kd.int .i64) (w0 := w0) w0.heap.size rfl (.tmp 43) (.tmp 46) 36 3 (.int .i64 0) 8 rfl Try.underlying36 info3 rfl (by decide) (by omega) u5 x5_1 (Int.tmod x6_1 65536) [.int .i64 (Int.tmod x6_1 65536)] (fun k_ => (P0_1_ k_ ∨ w.heap.size ≤ k_) ∧ some k_ ≠ (.slice Ao13 l0_1.length co13 : Value).ownBlock) (fun _ => False) rfl rfl ?aP (fun _ hk => hk.elim) ?aF ?aO ?aB ?aS ?aL ?_; (case aP => exact rfl); (case aB => exact (pH HB)); (case aF => exact (fun k_ hk => ⟨(.inr (Nat.le_trans (by first | exact HK.out.1 | exact (show Kept w _ (fun k_ => P0_1_ k_) from by repeat (first | (with_reducible first | exact HK.out | apply Kept.alloc | apply Kept.drewN | apply Kept.drew | refine Kept.setCell ?_ (.inr GW225.out) _ | refine Kept.setCell ?_ (.inr GW226.out) _) | exact HK.out)).1) hk)), Kd.fresh' (Kd.R_lt (pR HO_226001)) k_ hk⟩)); (case aO => exact (pR HO_5)); (case aS => exact (below_size (pH HB))); (case aL => have := LMc36.out; omega); intro v235 w39 ho hb hg hat; rw [← Ny234.out] at ho; replace HO_226001 := AM (Kd.R_after (ok := (fun k_ => (P0_1_ k_ ∨ w.heap.size ≤ k_))) (pR HO_226001) hg hat); replace BK225 := AM (blk_grown (g := gb225) (o := .cells #[.bool a0_0, .slice Ao13 l0_1.length co13] 93 (0, 0)) (pB BK225) hg (Kd.R_ne HO_5.out BK225.out (by decide))); replace BK226 := AM (blk_grown (g := gb226) (o := .cells #[.bool false, .slice none 0 0] 93 (0, 0)) (pB BK226) hg (Kd.R_ne HO_5.out BK226.out (by decide))); replace HB := AM (hb); replace HK := AM (Kept.of_grown (S := (fun k_ => P0_1_ k_)) hg (by repeat (first | (with_reducible first | exact HK.out | apply Kept.alloc | apply Kept.drewN | apply Kept.drew | refine Kept.setCell ?_ (.inr GW225.out) _ | refine Kept.setCell ?_ (.inr GW226.out) _) | exact HK.out)) (fun k_ e_ => (HO_5.out.1 k_ e_).1)); have HO236 := AM (ho); clear HO_5; clear ho hb hg hat))
       go_roundg kj19
       case measure => have := HK1.out; have := HJ19.out; omega
       case rel => exact ⟨(y234), (wrap64 (Int.tdiv x6_1 65536)), (wrap64 (x7_1 + 1)), (by first | rfl | (simp; done) | (simp [*]; done)), (by first | rfl | (simp; done) | (simp [*]; done)), H', ⟨by have := HK1.out; have := HJ19.out; omega⟩, ⟨by (with_reducible repeat (first | apply Kd.R_alloc | apply Kd.R_drewN | apply Kd.R_drew)); exact HO236.out⟩, ⟨by (with_reducible repeat (first | apply Kd.R_alloc | apply Kd.R_drewN | apply Kd.R_drew)); exact HO_226001.out⟩, ⟨by refine sB ?_; exact BK225.out⟩, ⟨by refine sB ?_; exact BK226.out⟩, ⟨by repeat (first | (with_reducible first | exact HK.out | apply Kept.alloc | apply Kept.drewN | apply Kept.drew | refine Kept.setCell ?_ (.inr GW225.out) _ | refine Kept.setCell ?_ (.inr GW226.out) _) | exact HK.out)⟩, ⟨pH HB⟩⟩
     rw [if_pos c27] at H
     have c27b0 : decide (x7_1 < (l0_1.length : Int)) = true := decide_eq_true c27
     clear c27
     by_cases c28 : 0 ≤ x7_1
     rotate_left
     · rw [if_neg c28] at H
       exact absurd H (by simp)
     rw [if_pos c28] at H
     have c28b0 : decide (0 ≤ x7_1) = true := decide_eq_true c28
     clear c28
     obtain ⟨ji29, hji29⟩ : ∃ j_ : Int, (IntKind.u64.wrap (Int.tmod a1 16)) = j_ := ⟨_, rfl⟩
     replace H : (if 0 ≤ (ji29) then (if x5_1.length < 17592186044416 then (spec_l1up.l0 kj19 a1 (x5_1 ++ [Int.tmod (wrap64 (x6_1 + (shl .i64 (rd l0_1 x7_1) (ji29)))) 65536]) (wrap64 (Int.tdiv (wrap64 (x6_1 + (shl .i64 (rd l0_1 x7_1) (ji29)))) 65536)) (wrap64 (x7_1 + 1)) a0_0 l0_1) else (none)) else (none)) = some (r1, r2) := by first | (rw [hji29] at H; exact H) | (simp only [hji29] at H ⊢; exact H)
     by_cases c30 : 0 ≤ (ji29)
     rotate_left
     · rw [if_neg c30] at H
       exact absurd H (by simp)
     rw [if_pos c30] at H
     have c30b0 := eq_true c30
     have c30b1 : decide (0 ≤ (ji29)) = true := decide_eq_true c30
     clear c30
     obtain ⟨ji31, hji31⟩ : ∃ j_ : Int, (shl .i64 (rd l0_1 x7_1) (ji29)) = j_ := ⟨_, rfl⟩
     replace H : (if x5_1.length < 17592186044416 then (spec_l1up.l0 kj19 a1 (x5_1 ++ [Int.tmod (wrap64 (x6_1 + (ji31))) 65536]) (wrap64 (Int.tdiv (wrap64 (x6_1 + (ji31))) 65536)) (wrap64 (x7_1 + 1)) a0_0 l0_1) else (none)) = some (r1, r2) := by first | (rw [hji31] at H; exact H) | (simp only [hji31] at H ⊢; exact H)
     have hji31_ : (IntKind.i64.wrap ((rd l0_1 x7_1) * 2 ^ min (ji29).toNat 64)) = ji31 := hji31
     have hji31z : (ji29) ≤ 64 → (IntKind.i64.wrap ((rd l0_1 x7_1) * 2 ^ (ji29).toNat)) = ji31 := shl_small hji31
     have hji31y : (wrap64 ((rd l0_1 x7_1) * 2 ^ min (ji29).toNat 64)) = ji31 := (i64_w _).symm.trans hji31_
     have hji31x : (ji29) ≤ 64 → (wrap64 ((rd l0_1 x7_1) * 2 ^ (ji29).toNat)) = ji31 := fun h_ => (i64_w _).symm.trans (hji31z h_)
     by_cases c32 : x5_1.length < 17592186044416
     rotate_left
     · rw [if_neg c32] at H
       exact absurd H (by simp)
     rw [if_pos c32] at H
     have LMc32 := AM c32; clear c32
     obtain ⟨y231, hy231⟩ : ∃ y_ : List Int, y_ = (x5_1 ++ [Int.tmod (wrap64 (x6_1 + (ji31))) 65536]) := ⟨_, rfl⟩
     replace H : (spec_l1up.l0 kj19 a1 y231 (wrap64 (Int.tdiv (wrap64 (x6_1 + (ji31))) 65536)) (wrap64 (x7_1 + 1)) a0_0 l0_1) = some (r1, r2) := by first | (rw [hy231]; with_reducible exact H) | (have H2_ := (Option.bind_some _ _).symm.trans H; rw [hy231]; with_reducible exact H2_) | (have H2_ := (Option.bind_some _ _).symm.trans H; with_reducible exact H2_) | with_reducible exact H | (rw [hy231]; exact H) | exact H
     have Ny231 := AM hy231; clear hy231
     have H' := AM H
     clear H; have hnb33 := NB225_226.out; have hnc33 := NB226_225.out
     have hcz34_0 : wc.cell? ⟨gb225, 0, none⟩ = some (.bool a0_0) := (blk_cell BK225.out 0).trans rfl
     have hcz34_1 : wc.cell? ⟨gb225, 1, none⟩ = some (.slice Ao13 l0_1.length co13) := (blk_cell BK225.out 1).trans rfl
     have hfz34_0 := blk_frozen BK225.out 0; have hfz34_1 := blk_frozen BK225.out 1
     have p230 : 0 ≤ (x7_1 : Int) := of_decide_eq_true (by first | (with_reducible assumption) | assumption)
     have q230 : x7_1 < (l0_1.length : Int) := of_decide_eq_true (by first | (with_reducible assumption) | assumption)
     obtain ⟨ad230, e230, hx230_0⟩ := Kd.at_int (Kd.R_reads' HO_226001.out).2.2 x7_1 p230 q230
     cases e230
     replace p230 := eq_true p230; replace q230 := eq_true q230
     go_wp2_with (first | ((with_reducible refine gate_builtin (b := .append) (xs := #[.tmp 43, .tmp 46]) rfl ?_); at_builtin; refine Kd.R_append (Kd.int .i64) (w0 := w0) w0.heap.size rfl (.tmp 43) (.tmp 46) 36 3 (.int .i64 0) 8 rfl Try.underlying36 info3 rfl (by decide) (by omega) u5 x5_1 (Int.tmod (wrap64 (x6_1 + (ji31))) 65536) [.int .i64 (Int.tmod (wrap64 (x6_1 + (ji31))) 65536)] (fun k_ => (P0_1_ k_ ∨ w.heap.size ≤ k_) ∧ some k_ ≠ (.slice (some ad230) l0_1.length co13 : Value).ownBlock) (fun _ => False) rfl rfl ?aP (fun _ hk => hk.elim) ?aF ?aO ?aB ?aS ?aL ?_; (case aP => exact rfl); (case aB => exact (pH HB)); (case aF => exact (fun k_ hk => ⟨(.inr (Nat.le_trans (by first | exact HK.out.1 | exact (show Kept w _ (fun k_ => P0_1_ k_) from by repeat (first | (with_reducible first | exact HK.out | apply Kept.alloc | apply Kept.drewN | apply Kept.drew | refine Kept.setCell ?_ (.inr GW225.out) _ | refine Kept.setCell ?_ (.inr GW226.out) _) | exact HK.out)).1) hk)), Kd.fresh' (Kd.R_lt (pR HO_226001)) k_ hk⟩)); (case aO => exact (pR HO_5)); (case aS => exact (below_size (pH HB))); (case aL => have := LMc32.out; omega); intro v232 w35 ho hb hg hat; rw [← Ny231.out] at ho; replace HO_226001 := AM (Kd.R_after (ok := (fun k_ => (P0_1_ k_ ∨ w.heap.size ≤ k_))) (pR HO_226001) hg hat); replace BK225 := AM (blk_grown (g := gb225) (o := .cells #[.bool a0_0, .slice (some ad230) l0_1.length co13] 93 (0, 0)) (pB BK225) hg (Kd.R_ne HO_5.out BK225.out (by decide))); replace BK226 := AM (blk_grown (g := gb226) (o := .cells #[.bool false, .slice none 0 0] 93 (0, 0)) (pB BK226) hg (Kd.R_ne HO_5.out BK226.out (by decide))); replace HB := AM (hb); replace HK := AM (Kept.of_grown (S := (fun k_ => P0_1_ k_)) hg (by repeat (first | (with_reducible first | exact HK.out | apply Kept.alloc | apply Kept.drewN | apply Kept.drew | refine Kept.setCell ?_ (.inr GW225.out) _ | refine Kept.setCell ?_ (.inr GW226.out) _) | exact HK.out)) (fun k_ e_ => (HO_5.out.1 k_ e_).1)); have HO233 := AM (ho); clear HO_5; clear ho hb hg hat))
     go_roundg kj19
     case measure => have := HK1.out; have := HJ19.out; omega
     case rel => exact ⟨(y231), (wrap64 (Int.tdiv (wrap64 (x6_1 + (ji31))) 65536)), (wrap64 (x7_1 + 1)), (by first | rfl | (simp; done) | (simp only [← hji31] <;> (first | rfl | simp)) | (simp [*]; done)), (by first | rfl | (simp; done) | (simp [*]; done)), H', ⟨by have := HK1.out; have := HJ19.out; omega⟩, ⟨by (with_reducible repeat (first | apply Kd.R_alloc | apply Kd.R_drewN | apply Kd.R_drew)); exact HO233.out⟩, ⟨by (with_reducible repeat (first | apply Kd.R_alloc | apply Kd.R_drewN | apply Kd.R_drew)); exact HO_226001.out⟩, ⟨by refine sB ?_; exact BK225.out⟩, ⟨by refine sB ?_; exact BK226.out⟩, ⟨by repeat (first | (with_reducible first | exact HK.out | apply Kept.alloc | apply Kept.drewN | apply Kept.drew | refine Kept.setCell ?_ (.inr GW225.out) _ | refine Kept.setCell ?_ (.inr GW226.out) _) | exact HK.out)⟩, ⟨pH HB⟩⟩
end Go.Proofs.Ytcpdeenhjodmfaa.QFloatOrder
