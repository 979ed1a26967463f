-- Written by wip/tools/mkprint.py (my program) out of the translation, for this claim. Not trusted: Lean checks it.
import Derived.Test.YtcpdeenhjodmfaaQFloatOrderx0
import Derived.Test.YtcpdeenhjodmfaaQFloatOrderx1
import Derived.Test.YtcpdeenhjodmfaaQFloatOrderx2
import Derived.Test.YtcpdeenhjodmfaaQFloatOrderx3
namespace Go.Proofs.Ytcpdeenhjodmfaa.QFloatOrder
open Go.RowKit Go.Proofs.YtcpdeenhjodmfaaW.PrintWords Go.Proofs.YtcpdeenhjodmfaaW.PrintLast Go.Proofs.YtcpdeenhjodmfaaW.PrintMore
attribute [local go_sem] max2_int min2_int max_two min_two max_three min_three max_four min_four   -- for this text's walks alone
set_option linter.unusedVariables false
set_option linter.unusedSimpArgs false

/-! ### spec_l2add: function 121 -/
def spec_l2add.f (k : Nat) (a0_0 : Bool) (l0_1 : List Int) (a0_2 : Int) (a1_0 : Bool) (l1_1 : List Int) (a1_2 : Int) : Option (Bool × List Int × Int) := if a0_2 < a1_2 then ((spec_l1up.f k a1_0 l1_1 (wrap64 (a1_2 - a0_2))).bind fun bt245 => ((spec_l1add.f k bt245.1 bt245.2 a0_0 l0_1).bind fun bt249 => (some (bt249.1, bt249.2, a0_2)))) else ((spec_l1up.f k a0_0 l0_1 (wrap64 (a0_2 - a1_2))).bind fun bt253 => ((spec_l1add.f k bt253.1 bt253.2 a1_0 l1_1).bind fun bt257 => (some (bt257.1, bt257.2, a1_2))))
theorem spec_l2add.mono : ∀ a0 a1 a2 a3 a4 a5 k, LeO (spec_l2add.f k a0 a1 a2 a3 a4 a5) (spec_l2add.f (k + 1) a0 a1 a2 a3 a4 a5) := by
 intro a0 a1 a2 a3 a4 a5 k
 unfold spec_l2add.f
 repeat' with_reducible first | exact spec_l1add.mono _ _ _ _ _ | exact spec_l1up.mono _ _ _ _ | exact LeO.refl _ | exact LeO.none _ | refine LeO.ite ?_ ?_ | refine LeO.bind ?_ (fun _ => ?_)
def spec_l2add.T5 : Bool × List (List Nat × List Nat) := (true, [([], []), ([0], [0]), ([], []), ([2], [2]), ([], []), ([4], [4]), ([3, 5], [3, 5]), ([1, 6], [1, 6]), ([], []), ([8], [8]), ([7, 9, 7], [7, 9]), ([], []), ([11], [11]), ([10, 12], [10, 12]), ([13, 10, 0, 1, 2, 3, 4, 5, 6, 7, 8, 9, 10, 11, 12, 13], [13])])
def spec_l2add.B5 : List Nat := [0, 1, 0, 4, 0, 16, 60, 127, 0, 256, 1023, 0, 2048, 8191, 16383]
theorem spec_l2add.tab5 : rtab .any (opsOf Try.f121 5) = spec_l2add.T5 := by kernel_rfl
theorem spec_l2add.bits5 : waitsOk spec_l2add.T5.2 spec_l2add.B5 = true := by kernel_rfl
set_option maxHeartbeats 8000000 in
set_option maxRecDepth 100000 in
theorem spec_l2add.calls (k : Nat) (a0_0 : Bool) (P0_1_ : Nat → Prop) (u9000_ : Value) (l0_1 : List Int) (a0_2 : Int) (a1_0 : Bool) (P1_1_ : Nat → Prop) (u9001_ : Value) (l1_1 : List Int) (a1_2 : Int) (r1 : Bool) (r2 : List Int) (r3 : Int) (w0 w : World) (hB : Below w0.heap.size w0 w) (ho0_1 : Kd.R (Kd.int .i64) 3 w w0.heap.size P0_1_ u9000_ l0_1) (hp0_1_1_1 : ∀ k_, P0_1_ k_ → ¬ P1_1_ k_) (ho1_1 : Kd.R (Kd.int .i64) 3 w w0.heap.size P1_1_ u9001_ l1_1) (hp1_1_0_1 : ∀ k_, P1_1_ k_ → ¬ P0_1_ k_) (h : spec_l2add.f k a0_0 l0_1 a0_2 a1_0 l1_1 a1_2 = some (r1, r2, r3)) :
 Calls Try.prog 121 #[.agg #[.bool a0_0, u9000_, .int .i64 a0_2], .agg #[.bool a1_0, u9001_, .int .i64 a1_2]] w fun e w' => ∃ v1_ : Value, e = .returned (.agg #[.bool r1, v1_, .int .i64 r3]) ∧ Kd.R (Kd.int .i64) 3 w' w0.heap.size (fun k_ => ((P0_1_ k_ ∨ P1_1_ k_) ∨ w.heap.size ≤ k_)) v1_ r2 ∧ Below w0.heap.size w0 w' ∧ Kept w w' (fun k_ => P0_1_ k_ ∨ P1_1_ k_) := by
 have hu139 := Try.underlying139; have hu93 := Try.underlying93; have HO0_1 := AM (show Kd.R (Kd.int .i64) 3 w w0.heap.size (fun k_ => ((P0_1_ k_ ∨ P1_1_ k_) ∨ w.heap.size ≤ k_) ∧ some k_ ≠ (u9001_ : Value).ownBlock) u9000_ l0_1 from Kd.R_mono ho0_1 (fun k_ hk => ⟨(.inl (.inl hk)), fun e_ => hp0_1_1_1 k_ hk (ho1_1.1 k_ e_.symm)⟩)); have HO1_1 := AM (show Kd.R (Kd.int .i64) 3 w w0.heap.size (fun k_ => ((P0_1_ k_ ∨ P1_1_ k_) ∨ w.heap.size ≤ k_) ∧ some k_ ≠ (u9000_ : Value).ownBlock) u9001_ l1_1 from Kd.R_mono ho1_1 (fun k_ hk => ⟨(.inl (.inr hk)), fun e_ => hp1_1_0_1 k_ hk (ho0_1.1 k_ e_.symm)⟩)); have HK := AM (Kept.refl w (fun k_ => P0_1_ k_ ∨ P1_1_ k_)); have HW0 := AM hB.size; have HB := AM hB; clear hB
 have H : (if a0_2 < a1_2 then ((spec_l1up.f k a1_0 l1_1 (wrap64 (a1_2 - a0_2))).bind fun bt245 => ((spec_l1add.f k bt245.1 bt245.2 a0_0 l0_1).bind fun bt249 => (some (bt249.1, bt249.2, a0_2)))) else ((spec_l1up.f k a0_0 l0_1 (wrap64 (a0_2 - a1_2))).bind fun bt253 => ((spec_l1add.f k bt253.1 bt253.2 a1_0 l1_1).bind fun bt257 => (some (bt257.1, bt257.2, a1_2))))) = some (r1, r2, r3) := h
 clear h
 by_cases c3 : a0_2 < a1_2
 rotate_left
 · rw [if_neg c3] at H
   have c3b0 : decide (a0_2 < a1_2) = false := decide_eq_false c3
   clear c3
   replace H := Option.bind_eq_some_iff.mp H
   obtain ⟨⟨t253, t254⟩, A320, H⟩ := H
   (try dsimp only at H)
   have A32 := AM A320; clear A320
   replace H := Option.bind_eq_some_iff.mp H
   obtain ⟨⟨t257, t258⟩, A330, H⟩ := H
   (try dsimp only at H)
   have A33 := AM A330; clear A330
   simp only [Option.some.injEq, Prod.mk.injEq] at H
   obtain ⟨rfl, rfl, rfl⟩ := H
   obtain ⟨Ao34, co34, eo34⟩ := Kd.R_slice HO0_1.out
   subst eo34
   go_enter Try.func121, Try.ntmps121
   try go_wp2_with (first | ((with_reducible refine gate_dst (N := 2) rfl ?_); refine box_event ?hg (N := 2) ?hd (cs := #[.bool a0_0, .slice Ao34 l0_1.length co34, .int .i64 a0_2]) (t := 139) ?hr ?_; (case hd => rfl); (case hg => rfl); (case hr => first | (go_simp; done) | (go_simp; rfl)); intro gb241 hg w35 hbox hb; replace HO0_1 := AM (Kd.R_below (pR HO0_1) hb); replace HO1_1 := AM (Kd.R_below (pR HO1_1) hb); have BK241 := AM (hbox); have GW241 := AM ((by rw [hg]; exact (by first | exact HK.out.1 | exact (show Kept w _ (fun k_ => P0_1_ k_ ∨ P1_1_ k_) from by repeat (first | (with_reducible first | exact HK.out | apply Kept.alloc | apply Kept.drewN | apply Kept.drew) | exact HK.out)).1) : w.heap.size ≤ gb241)); replace HK := AM (Kept.below (S := (fun k_ => P0_1_ k_ ∨ P1_1_ k_)) (by repeat (first | (with_reducible first | exact HK.out | apply Kept.alloc | apply Kept.drewN | apply Kept.drew) | exact HK.out)) hb); have GE241 := gH HB hg; replace HB := AM (below_step (pH HB) hb); clear hb hbox hg; obtain ⟨Ao36, co36, eo36⟩ := Kd.R_slice HO1_1.out; subst eo36) | ((with_reducible refine gate_dst (N := 3) rfl ?_); refine box_event ?hg (N := 3) ?hd (cs := #[.bool a1_0, .slice Ao36 l1_1.length co36, .int .i64 a1_2]) (t := 139) ?hr ?_; (case hd => rfl); (case hg => rfl); (case hr => first | (go_simp; done) | (go_simp; rfl)); intro gb242 hg w37 hbox hb; replace HO0_1 := AM (Kd.R_below (pR HO0_1) hb); replace HO1_1 := AM (Kd.R_below (pR HO1_1) hb); have BK242 := AM (hbox); have GW242 := AM ((by rw [hg]; exact (by first | exact HK.out.1 | exact (show Kept w _ (fun k_ => P0_1_ k_ ∨ P1_1_ k_) from by repeat (first | (with_reducible first | exact HK.out | apply Kept.alloc | apply Kept.drewN | apply Kept.drew | refine Kept.setCell ?_ (.inr GW241.out) _) | exact HK.out)).1) : w.heap.size ≤ gb242)); replace HK := AM (Kept.below (S := (fun k_ => P0_1_ k_ ∨ P1_1_ k_)) (by repeat (first | (with_reducible first | exact HK.out | apply Kept.alloc | apply Kept.drewN | apply Kept.drew | refine Kept.setCell ?_ (.inr GW241.out) _) | exact HK.out)) hb); have GE242 := gH HB hg; replace HB := AM (below_step (pH HB) hb); have NB241_242 := nL BK241 hg; have NB242_241 := nG BK241 hg; replace BK241 := bB BK241 hb; clear hb hbox hg) | ((with_reducible refine gate_dst (N := 4) rfl ?_); refine box_event ?hg (N := 4) ?hd (cs := #[.bool false, .slice none 0 0, .int .i64 0]) (t := 139) ?hr ?_; (case hd => rfl); (case hg => rfl); (case hr => first | (go_simp; done) | (go_simp; rfl)); intro gb243 hg w38 hbox hb; replace HO0_1 := AM (Kd.R_below (pR HO0_1) hb); replace HO1_1 := AM (Kd.R_below (pR HO1_1) hb); have BK243 := AM (hbox); have GW243 := AM ((by rw [hg]; exact (by first | exact HK.out.1 | exact (show Kept w _ (fun k_ => P0_1_ k_ ∨ P1_1_ k_) from by repeat (first | (with_reducible first | exact HK.out | apply Kept.alloc | apply Kept.drewN | apply Kept.drew | refine Kept.setCell ?_ (.inr GW241.out) _ | refine Kept.setCell ?_ (.inr GW242.out) _) | exact HK.out)).1) : w.heap.size ≤ gb243)); replace HK := AM (Kept.below (S := (fun k_ => P0_1_ k_ ∨ P1_1_ k_)) (by repeat (first | (with_reducible first | exact HK.out | apply Kept.alloc | apply Kept.drewN | apply Kept.drew | refine Kept.setCell ?_ (.inr GW241.out) _ | refine Kept.setCell ?_ (.inr GW242.out) _) | exact HK.out)) hb); have GE243 := gH HB hg; replace HB := AM (below_step (pH HB) hb); have NB241_243 := nL BK241 hg; have NB243_241 := nG BK241 hg; replace BK241 := bB BK241 hb; have NB242_243 := nL BK242 hg; have NB243_242 := nG BK242 hg; replace BK242 := bB BK242 hb; clear hb hbox hg; have hnb39 := NB241_242.out; have hnc39 := NB242_241.out; have hnb40 := NB241_243.out; have hnc40 := NB243_241.out; have ⟨hcz41_0, hcz41_1, hcz41_2, hfz41_0, hfz41_1, hfz41_2⟩ := z3 BK241; have hnb42 := NB242_243.out; have hnc42 := NB243_242.out; have ⟨hcz43_0, hcz43_1, hcz43_2, hfz43_0, hfz43_1, hfz43_2⟩ := z3 BK242))
   replace HO0_1 := AM (Kd.R_drew HO0_1.out); replace HO1_1 := AM (Kd.R_drew HO1_1.out); replace BK241 := AM (blk_drew BK241.out); replace BK242 := AM (blk_drew BK242.out); replace BK243 := AM (blk_drew BK243.out); replace HK := AM (Kept.drew HK.out); replace HB := AM (below_drew1 HB.out)
   refine start_ (n := 15) (S := fun w' => w'.cell? ⟨gb241, 0, none⟩ = some (.bool a0_0) ∧ w'.cell? ⟨gb241, 1, none⟩ = some (.slice Ao34 l0_1.length co34) ∧ w'.cell? ⟨gb241, 2, none⟩ = some (.int .i64 a0_2) ∧ w'.cell? ⟨gb242, 0, none⟩ = some (.bool a1_0) ∧ w'.cell? ⟨gb242, 1, none⟩ = some (.slice Ao36 l1_1.length co36) ∧ w'.cell? ⟨gb242, 2, none⟩ = some (.int .i64 a1_2)) (ds := []) #[false, false, false, false, false, false, false, false, false, false, false, false, false, false, false] (by kernel_rfl) rfl rfl ⟨(blk_cell BK241.out 0).trans rfl, (blk_cell BK241.out 1).trans rfl, (blk_cell BK241.out 2).trans rfl, (blk_cell BK242.out 0).trans rfl, (blk_cell BK242.out 1).trans rfl, (blk_cell BK242.out 2).trans rfl⟩ (fun hHeld => ?_); refine with_tabW spec_l2add.tab5 spec_l2add.bits5 (fun HT_ HW_ => ?_)
   generalize w38.drew = w44 at HO0_1 HO1_1 BK241 BK242 BK243 HK HB hHeld ⊢
   refine pure_ (i := 0) (N := some 14) (v := ?_) (a' := ?_) #[true, false, false, false, false, false, false, false, false, false, false, false, false, false, false] rfl rfl (any_of HT_.out (by kernel_rfl)) (fun _ _ _ h => h) (Or.inl ⟨by rfl, ?_⟩) ?_ ?_
   rotate_left
   · intro w'
     go_simp
     with_reducible rfl
   rotate_left
   · simp only [Act.put, sa, sb, sc, i64_w, i32_w]
     rfl
   refine pure_ (i := 2) (N := some 16) (v := ?_) (a' := ?_) #[true, false, true, false, false, false, false, false, false, false, false, false, false, false, false] rfl rfl (any_of HT_.out (by kernel_rfl)) (fun _ _ _ h => h) (Or.inl ⟨by rfl, ?_⟩) ?_ ?_
   rotate_left
   · intro w'
     go_simp
     with_reducible rfl
   rotate_left
   · simp only [Act.put, sa, sb, sc, i64_w, i32_w]
     rfl
   refine pure_ (i := 4) (N := some 18) (v := ?_) (a' := ?_) #[true, false, true, false, true, false, false, false, false, false, false, false, false, false, false] rfl rfl (any_of HT_.out (by kernel_rfl)) (fun _ _ _ h => h) (Or.inl ⟨by rfl, ?_⟩) ?_ ?_
   rotate_left
   · intro w'
     go_simp
     with_reducible rfl
   rotate_left
   · simp only [Act.put, sa, sb, sc, i64_w, i32_w]
     rfl
   refine pure_ (i := 8) (N := some 22) (v := ?_) (a' := ?_) #[true, false, true, false, true, false, false, false, true, false, false, false, false, false, false] rfl rfl (any_of HT_.out (by kernel_rfl)) (fun _ _ _ h => h) (Or.inl ⟨by rfl, ?_⟩) ?_ ?_
   rotate_left
   · intro w'
     go_simp
     with_reducible rfl
   rotate_left
   · simp only [Act.put, sa, sb, sc, i64_w, i32_w]
     rfl
   refine pure_ (i := 11) (N := some 25) (v := ?_) (a' := ?_) #[true, false, true, false, true, false, false, false, true, false, false, true, false, false, false] rfl rfl (any_of HT_.out (by kernel_rfl)) (fun _ _ _ h => h) (Or.inl ⟨by rfl, ?_⟩) ?_ ?_
   rotate_left
   · intro w'
     go_simp
     with_reducible rfl
   rotate_left
   · simp only [Act.put, sa, sb, sc, i64_w, i32_w]
     rfl
   refine take_ (i := 1) (N := some 15) (v := ?_) (a' := ?_) #[true, true, true, false, true, false, false, false, true, false, false, true, false, false, false] rfl rfl (take_ofW HT_.out HW_.out (by kernel_rfl)) (fun _ _ _ h => h) (Or.inl ⟨by rfl, ?_⟩) hHeld ?_ ?_
   rotate_left
   · rintro w' ⟨s0, s1, s2, s3, s4, s5⟩
     go_simp
     with_reducible rfl
   rotate_left
   · simp only [Act.put, sa, sb, sc, i64_w, i32_w]
     rfl
   refine take_ (i := 3) (N := some 17) (v := ?_) (a' := ?_) #[true, true, true, true, true, false, false, false, true, false, false, true, false, false, false] rfl rfl (take_ofW HT_.out HW_.out (by kernel_rfl)) (fun _ _ _ h => h) (Or.inl ⟨by rfl, ?_⟩) hHeld ?_ ?_
   rotate_left
   · rintro w' ⟨s0, s1, s2, s3, s4, s5⟩
     go_simp
     with_reducible rfl
   rotate_left
   · simp only [Act.put, sa, sb, sc, i64_w, i32_w]
     rfl
   refine take_ (i := 5) (N := some 19) (v := ?_) (a' := ?_) #[true, true, true, true, true, true, false, false, true, false, false, true, false, false, false] rfl rfl (take_ofW HT_.out HW_.out (by kernel_rfl)) (fun _ _ _ h => h) (Or.inl ⟨by rfl, ?_⟩) hHeld ?_ ?_
   rotate_left
   · rintro w' ⟨s0, s1, s2, s3, s4, s5⟩
     go_simp
     with_reducible rfl
   rotate_left
   · simp only [Act.put, sa, sb, sc, i64_w, i32_w]
     rfl
   refine pure_ (i := 6) (N := some 20) (v := ?_) (a' := ?_) #[true, true, true, true, true, true, true, false, true, false, false, true, false, false, false] rfl rfl (any_of HT_.out (by kernel_rfl)) (fun _ _ _ h => h) (Or.inl ⟨by rfl, ?_⟩) ?_ ?_
   rotate_left
   · intro w'
     go_simp
     with_reducible rfl
   rotate_left
   · simp only [Act.put, sa, sb, sc, i64_w, i32_w]
     rfl
   refine take_ (i := 9) (N := some 23) (v := ?_) (a' := ?_) #[true, true, true, true, true, true, true, false, true, true, false, true, false, false, false] rfl rfl (take_ofW HT_.out HW_.out (by kernel_rfl)) (fun _ _ _ h => h) (Or.inl ⟨by rfl, ?_⟩) hHeld ?_ ?_
   rotate_left
   · rintro w' ⟨s0, s1, s2, s3, s4, s5⟩
     go_simp
     with_reducible rfl
   rotate_left
   · simp only [Act.put, sa, sb, sc, i64_w, i32_w]
     rfl
   refine take_ (i := 12) (N := some 26) (v := ?_) (a' := ?_) #[true, true, true, true, true, true, true, false, true, true, false, true, true, false, false] rfl rfl (take_ofW HT_.out HW_.out (by kernel_rfl)) (fun _ _ _ h => h) (Or.inl ⟨by rfl, ?_⟩) hHeld ?_ ?_
   rotate_left
   · rintro w' ⟨s0, s1, s2, s3, s4, s5⟩
     go_simp
     with_reducible rfl
   rotate_left
   · simp only [Act.put, sa, sb, sc, i64_w, i32_w]
     rfl
   refine one_ (i := 7) (N := some 21) #[true, true, true, true, true, true, true, true, true, true, false, true, true, false, false] rfl rfl (one_of HT_.out (by kernel_rfl)) (by decide) (fun K hK => ?_)
   refine goes_ Try.func150 (by kernel_rfl) rfl #[.agg #[.bool a0_0, .slice Ao34 l0_1.length co34], .int .i64 (wrap64 (a0_2 - a1_2))] (by rfl) rfl rfl (by (try simp only [List.map_toArray, List.map_cons, List.map_nil]); first | done | rfl | (simp only [List.length_drop, List.length_take]; rfl)) ?_
   with_reducible refine (spec_l1up.calls k a0_0 (fun k_ => some k_ = (.slice Ao34 l0_1.length co34 : Value).ownBlock) (.slice Ao34 l0_1.length co34) l0_1 (wrap64 (a0_2 - a1_2)) t253 t254 w0 _ ?side1 ?side2 A32.out).mono ?_
   (case side1 => exact pH HB)
   (case side2 => exact Kd.R_tight rfl HO0_1.out)
   rintro e w45 ⟨v255, rfl, ho0, hb, hkp⟩
   refine ⟨_, rfl, ?_⟩
   replace BK241 := AM (blk_kept (pB BK241) hkp (fun hs_ => (fun e_ => (Kd.R_ne HO0_1.out BK241.out (by decide)) e_) hs_)); replace BK242 := AM (blk_kept (pB BK242) hkp (fun hs_ => (fun e_ => (Kd.R_ne HO0_1.out BK242.out (by decide)) e_) hs_)); replace BK243 := AM (blk_kept (pB BK243) hkp (fun hs_ => (fun e_ => (Kd.R_ne HO0_1.out BK243.out (by decide)) e_) hs_)); have HO256 := AM (Kd.R_mono (ok' := fun k_ => ((P0_1_ k_ ∨ P1_1_ k_) ∨ w.heap.size ≤ k_) ∧ some k_ ≠ (.slice Ao36 l1_1.length co36 : Value).ownBlock) ho0 (fun k_ hk_ => ⟨Or.elim hk_ (fun hs_ => (HO0_1.out.1 k_ (hs_).symm).1) (fun hn_ => (.inr (Nat.le_trans (by first | exact HK.out.1 | exact (show Kept w _ (fun k_ => P0_1_ k_ ∨ P1_1_ k_) from by repeat (first | (with_reducible first | exact HK.out | apply Kept.alloc | apply Kept.drewN | apply Kept.drew | refine Kept.setCell ?_ (.inr GW241.out) _ | refine Kept.setCell ?_ (.inr GW242.out) _ | refine Kept.setCell ?_ (.inr GW243.out) _) | exact HK.out)).1) hn_))), Or.elim hk_ (fun hs_ => fun e_ => (((HO1_1.out).1 k_ e_.symm).2) hs_) (fun hn_ => (Kd.fresh' (Kd.R_lt (pR HO1_1)) k_ hn_))⟩)); replace HO1_1 := AM (Kd.R_mono (ok' := fun k_ => ((P0_1_ k_ ∨ P1_1_ k_) ∨ w.heap.size ≤ k_) ∧ some k_ ≠ (v255 : Value).ownBlock) (Kd.R_keptB (HO1_1.out) hkp (fun k_ hk_ hs_ => (hk_.2) hs_)) (fun k_ hk_ => ⟨hk_.1.1, fun e_ => Or.elim (ho0.1 k_ e_.symm) (fun hs_ => hk_.2.1 hs_) (fun hn_ => Nat.not_le.2 hk_.2.2 hn_)⟩)); replace HK := AM (Kept.then_ (S := (fun k_ => P0_1_ k_ ∨ P1_1_ k_)) (by repeat (first | (with_reducible first | exact HK.out | apply Kept.alloc | apply Kept.drewN | apply Kept.drew | refine Kept.setCell ?_ (.inr GW241.out) _ | refine Kept.setCell ?_ (.inr GW242.out) _ | refine Kept.setCell ?_ (.inr GW243.out) _) | exact HK.out)) hkp (fun k_ hs_ => (fun e_ => (HO0_1.out.1 k_ e_.symm).1) hs_)); replace HB := AM (hb); clear HO0_1
   (try clear hb)
   (try clear hkp)
   (try clear ho0)
   obtain ⟨Ao46, co46, eo46⟩ := Kd.R_slice HO256.out
   (first | subst eo46 | (injection eo46 with f1_ f2_ f3_; have f4_ := f1_.symm; have f5_ := f3_.symm; clear f1_ f2_ f3_; subst f4_; subst f5_))
   refine hK.out _ _ ⟨(blk_cell BK241.out 0).trans rfl, (blk_cell BK241.out 1).trans rfl, (blk_cell BK241.out 2).trans rfl, (blk_cell BK242.out 0).trans rfl, (blk_cell BK242.out 1).trans rfl, (blk_cell BK242.out 2).trans rfl⟩ (fun hHeld => ?_)
   clear hK K
   refine norm_ (a' := ?_) ?_ ?_
   rotate_left
   · show Act.put _ (some 21) _ = _
     simp only [Act.put, sa, sb, sc, i64_w, i32_w]
     rfl
   refine one_ (i := 10) (N := some 24) #[true, true, true, true, true, true, true, true, true, true, true, true, true, false, false] rfl rfl (one_of HT_.out (by kernel_rfl)) (by decide) (fun K hK => ?_)
   refine goes_ Try.func149 (by kernel_rfl) rfl #[.agg #[.bool t253, .slice Ao46 t254.length co46], .agg #[.bool a1_0, .slice Ao36 l1_1.length co36]] (by rfl) rfl rfl (by (try simp only [List.map_toArray, List.map_cons, List.map_nil]); first | done | rfl | (simp only [List.length_drop, List.length_take]; rfl)) ?_
   with_reducible refine (spec_l1add.calls k t253 _ _ t254 a1_0 _ _ l1_1 t257 t258 _ ?side1 ?side2 ?side3 ?side4 A33.out).mono ?_
   (case side1 => exact cR HO256)
   (case side2 => exact (Kd.R_reads' HO256.out).2.1)
   (case side3 => exact cR HO1_1)
   (case side4 => exact (Kd.R_reads' HO1_1.out).2.1)
   rintro e w47 ⟨v259, rfl, ho0, hb⟩
   refine ⟨_, rfl, ?_⟩
   have HO260 := AM (Kd.R_lower (Kd.R_new' (Kd.R_new' (Kd.R_newM (M := fun k_ => ((P0_1_ k_ ∨ P1_1_ k_) ∨ w.heap.size ≤ k_)) ho0 (by first | exact HK.out.1 | exact (show Kept w _ (fun k_ => P0_1_ k_ ∨ P1_1_ k_) from by repeat (first | (with_reducible first | exact HK.out | apply Kept.alloc | apply Kept.drewN | apply Kept.drew | refine Kept.setCell ?_ (.inr GW241.out) _ | refine Kept.setCell ?_ (.inr GW242.out) _ | refine Kept.setCell ?_ (.inr GW243.out) _) | exact HK.out)).1) (fun k_ h_ => .inr h_)) (Kd.R_lt (pR HO1_1))) (Kd.R_lt (pR HO256))) (below_size (pH HB))); replace HO1_1 := AM (Kd.R_elder' (pR HO1_1) (Kd.R_base ho0) hb); replace HO256 := AM (Kd.R_elder' (pR HO256) (Kd.R_base ho0) hb); replace BK241 := bB BK241 hb; replace BK242 := bB BK242 hb; replace BK243 := bB BK243 hb; replace HK := AM (Kept.below (S := (fun k_ => P0_1_ k_ ∨ P1_1_ k_)) (by repeat (first | (with_reducible first | exact HK.out | apply Kept.alloc | apply Kept.drewN | apply Kept.drew | refine Kept.setCell ?_ (.inr GW241.out) _ | refine Kept.setCell ?_ (.inr GW242.out) _ | refine Kept.setCell ?_ (.inr GW243.out) _) | exact HK.out)) hb); replace HB := AM (below_step (pH HB) hb)
   (try clear hb)
   (try clear hb2)
   (try clear hk)
   (try clear hi)
   (try clear ho0)
   obtain ⟨Ao48, co48, eo48⟩ := Kd.R_slice HO260.out
   (first | subst eo48 | (injection eo48 with f1_ f2_ f3_; have f4_ := f1_.symm; have f5_ := f3_.symm; clear f1_ f2_ f3_; subst f4_; subst f5_))
   refine hK.out _ _ ⟨(blk_cell BK241.out 0).trans rfl, (blk_cell BK241.out 1).trans rfl, (blk_cell BK241.out 2).trans rfl, (blk_cell BK242.out 0).trans rfl, (blk_cell BK242.out 1).trans rfl, (blk_cell BK242.out 2).trans rfl⟩ (fun hHeld => ?_)
   clear hK K
   refine norm_ (a' := ?_) ?_ ?_
   rotate_left
   · show Act.put _ (some 24) _ = _
     simp only [Act.put, sa, sb, sc, i64_w, i32_w]
     rfl
   refine pure_ (i := 13) (N := some 27) (v := ?_) (a' := ?_) #[true, true, true, true, true, true, true, true, true, true, true, true, true, true, false] rfl rfl (any_of HT_.out (by kernel_rfl)) (fun _ _ _ h => h) (Or.inl ⟨by rfl, ?_⟩) ?_ ?_
   rotate_left
   · intro w'
     go_simp
     with_reducible rfl
   rotate_left
   · simp only [Act.put, sa, sb, sc, i64_w, i32_w]
     rfl
   refine one_ (i := 14) (N := none) #[true, true, true, true, true, true, true, true, true, true, true, true, true, true, true] rfl rfl (one_of HT_.out (by kernel_rfl)) (by decide) (fun K hK => ?_)
   have hs49 : w47.cell? ⟨gb243, 0, none⟩ = some (.bool false) := (blk_cell BK243.out 0).trans rfl
   have hfs49 := blk_frozen BK243.out 0; have hns49_0 := NB241_243.out; have hns49_1 := NB242_243.out; have hms49_0 := NB243_241.out; have hms49_1 := NB243_242.out
   have hs50 : w47.cell? ⟨gb243, 1, none⟩ = some (.slice none 0 0) := (blk_cell BK243.out 1).trans rfl
   have hfs50 := blk_frozen BK243.out 1; have hns50_0 := NB241_243.out; have hns50_1 := NB242_243.out; have hms50_0 := NB243_241.out; have hms50_1 := NB243_242.out
   have hs51 : w47.cell? ⟨gb243, 2, none⟩ = some (.int .i64 0) := (blk_cell BK243.out 2).trans rfl
   have hfs51 := blk_frozen BK243.out 2; have hns51_0 := NB241_243.out; have hns51_1 := NB242_243.out; have hms51_0 := NB243_241.out; have hms51_1 := NB243_242.out
   refine skip_ (w1 := ?_) (by rfl) rfl ?_ ?_
   rotate_left
   · go_simp
     rfl
   refine hK.out _ _ ⟨((cell_far (p := ⟨gb243, _, none⟩) NB241_243.out _).trans (((cell_far (p := ⟨gb243, _, none⟩) NB241_243.out _).trans (((cell_far (p := ⟨gb243, _, none⟩) NB241_243.out _).trans (hHeld.1)))))), ((cell_far (p := ⟨gb243, _, none⟩) NB241_243.out _).trans (((cell_far (p := ⟨gb243, _, none⟩) NB241_243.out _).trans (((cell_far (p := ⟨gb243, _, none⟩) NB241_243.out _).trans (hHeld.2.1)))))), ((cell_far (p := ⟨gb243, _, none⟩) NB241_243.out _).trans (((cell_far (p := ⟨gb243, _, none⟩) NB241_243.out _).trans (((cell_far (p := ⟨gb243, _, none⟩) NB241_243.out _).trans (hHeld.2.2.1)))))), ((cell_far (p := ⟨gb243, _, none⟩) NB242_243.out _).trans (((cell_far (p := ⟨gb243, _, none⟩) NB242_243.out _).trans (((cell_far (p := ⟨gb243, _, none⟩) NB242_243.out _).trans (hHeld.2.2.2.1)))))), ((cell_far (p := ⟨gb243, _, none⟩) NB242_243.out _).trans (((cell_far (p := ⟨gb243, _, none⟩) NB242_243.out _).trans (((cell_far (p := ⟨gb243, _, none⟩) NB242_243.out _).trans (hHeld.2.2.2.2.1)))))), ((cell_far (p := ⟨gb243, _, none⟩) NB242_243.out _).trans (((cell_far (p := ⟨gb243, _, none⟩) NB242_243.out _).trans (((cell_far (p := ⟨gb243, _, none⟩) NB242_243.out _).trans (hHeld.2.2.2.2.2))))))⟩ (fun hHeld => ?_)
   clear hK K
   refine done_ (done_of HT_.out (by kernel_rfl)) ?_
   try go_wp2
   refine bodyPost_ret (results_cell_row rfl _ _ gb243 139 #[.bool t257, .slice Ao48 t258.length co48, .int .i64 a1_2] (0, 0) _ rfl (by refine sB ?_; refine blk_put (cs := #[.bool t257, .slice Ao48 t258.length co48, .int .i64 0]) ?_ 2 _ rfl; refine sB ?_; refine blk_put (cs := #[.bool t257, .slice none 0 0, .int .i64 0]) ?_ 1 _ rfl; refine sB ?_; refine blk_put (cs := #[.bool false, .slice none 0 0, .int .i64 0]) ?_ 0 _ rfl; refine sB ?_; exact BK243.out) Try.underlying139 rfl (by kernel_rfl)) rfl ?_
   exact ⟨_, by first | rfl | (simp [errW_none, errW_some] <;> rfl) | (simp [*, errW_none, errW_some] <;> rfl), by (with_reducible repeat (first | apply Kd.R_alloc | apply Kd.R_drewN | apply Kd.R_drew)); exact Kd.R_mono (Kd.R_far (p := ⟨gb243, 2, none⟩) (Kd.R_far (p := ⟨gb243, 1, none⟩) (Kd.R_far (p := ⟨gb243, 0, none⟩) (Kd.R_types HO260.out BK243.out (by decide)) (fun _ hk => hk.2) (.bool t257)) (fun _ hk => hk.2) (.slice Ao48 t258.length co48)) (fun _ hk => hk.2) (.int .i64 a1_2)) (fun _ hk => hk.1.1.1.1), pH HB, by repeat (first | (with_reducible first | exact HK.out | apply Kept.alloc | apply Kept.drewN | apply Kept.drew | refine Kept.setCell ?_ (.inr GW241.out) _ | refine Kept.setCell ?_ (.inr GW242.out) _ | refine Kept.setCell ?_ (.inr GW243.out) _) | exact HK.out)⟩

 rw [if_pos c3] at H
 have c3b0 : decide (a0_2 < a1_2) = true := decide_eq_true c3
 clear c3
 replace H := Option.bind_eq_some_iff.mp H
 obtain ⟨⟨t245, t246⟩, A40, H⟩ := H
 (try dsimp only at H)
 have A4 := AM A40; clear A40
 replace H := Option.bind_eq_some_iff.mp H
 obtain ⟨⟨t249, t250⟩, A50, H⟩ := H
 (try dsimp only at H)
 have A5 := AM A50; clear A50
 simp only [Option.some.injEq, Prod.mk.injEq] at H
 obtain ⟨rfl, rfl, rfl⟩ := H
 obtain ⟨Ao6, co6, eo6⟩ := Kd.R_slice HO0_1.out
 subst eo6
 go_enter Try.func121, Try.ntmps121
 try go_wp2_with (first | ((with_reducible refine gate_dst (N := 2) rfl ?_); refine box_event ?hg (N := 2) ?hd (cs := #[.bool a0_0, .slice Ao6 l0_1.length co6, .int .i64 a0_2]) (t := 139) ?hr ?_; (case hd => rfl); (case hg => rfl); (case hr => first | (go_simp; done) | (go_simp; rfl)); intro gb241 hg w7 hbox hb; replace HO0_1 := AM (Kd.R_below (pR HO0_1) hb); replace HO1_1 := AM (Kd.R_below (pR HO1_1) hb); have BK241 := AM (hbox); have GW241 := AM ((by rw [hg]; exact (by first | exact HK.out.1 | exact (show Kept w _ (fun k_ => P0_1_ k_ ∨ P1_1_ k_) from by repeat (first | (with_reducible first | exact HK.out | apply Kept.alloc | apply Kept.drewN | apply Kept.drew) | exact HK.out)).1) : w.heap.size ≤ gb241)); replace HK := AM (Kept.below (S := (fun k_ => P0_1_ k_ ∨ P1_1_ k_)) (by repeat (first | (with_reducible first | exact HK.out | apply Kept.alloc | apply Kept.drewN | apply Kept.drew) | exact HK.out)) hb); have GE241 := gH HB hg; replace HB := AM (below_step (pH HB) hb); clear hb hbox hg; obtain ⟨Ao8, co8, eo8⟩ := Kd.R_slice HO1_1.out; subst eo8) | ((with_reducible refine gate_dst (N := 3) rfl ?_); refine box_event ?hg (N := 3) ?hd (cs := #[.bool a1_0, .slice Ao8 l1_1.length co8, .int .i64 a1_2]) (t := 139) ?hr ?_; (case hd => rfl); (case hg => rfl); (case hr => first | (go_simp; done) | (go_simp; rfl)); intro gb242 hg w9 hbox hb; replace HO0_1 := AM (Kd.R_below (pR HO0_1) hb); replace HO1_1 := AM (Kd.R_below (pR HO1_1) hb); have BK242 := AM (hbox); have GW242 := AM ((by rw [hg]; exact (by first | exact HK.out.1 | exact (show Kept w _ (fun k_ => P0_1_ k_ ∨ P1_1_ k_) from by repeat (first | (with_reducible first | exact HK.out | apply Kept.alloc | apply Kept.drewN | apply Kept.drew | refine Kept.setCell ?_ (.inr GW241.out) _) | exact HK.out)).1) : w.heap.size ≤ gb242)); replace HK := AM (Kept.below (S := (fun k_ => P0_1_ k_ ∨ P1_1_ k_)) (by repeat (first | (with_reducible first | exact HK.out | apply Kept.alloc | apply Kept.drewN | apply Kept.drew | refine Kept.setCell ?_ (.inr GW241.out) _) | exact HK.out)) hb); have GE242 := gH HB hg; replace HB := AM (below_step (pH HB) hb); have NB241_242 := nL BK241 hg; have NB242_241 := nG BK241 hg; replace BK241 := bB BK241 hb; clear hb hbox hg) | ((with_reducible refine gate_dst (N := 4) rfl ?_); refine box_event ?hg (N := 4) ?hd (cs := #[.bool false, .slice none 0 0, .int .i64 0]) (t := 139) ?hr ?_; (case hd => rfl); (case hg => rfl); (case hr => first | (go_simp; done) | (go_simp; rfl)); intro gb243 hg w10 hbox hb; replace HO0_1 := AM (Kd.R_below (pR HO0_1) hb); replace HO1_1 := AM (Kd.R_below (pR HO1_1) hb); have BK243 := AM (hbox); have GW243 := AM ((by rw [hg]; exact (by first | exact HK.out.1 | exact (show Kept w _ (fun k_ => P0_1_ k_ ∨ P1_1_ k_) from by repeat (first | (with_reducible first | exact HK.out | apply Kept.alloc | apply Kept.drewN | apply Kept.drew | refine Kept.setCell ?_ (.inr GW241.out) _ | refine Kept.setCell ?_ (.inr GW242.out) _) | exact HK.out)).1) : w.heap.size ≤ gb243)); replace HK := AM (Kept.below (S := (fun k_ => P0_1_ k_ ∨ P1_1_ k_)) (by repeat (first | (with_reducible first | exact HK.out | apply Kept.alloc | apply Kept.drewN | apply Kept.drew | refine Kept.setCell ?_ (.inr GW241.out) _ | refine Kept.setCell ?_ (.inr GW242.out) _) | exact HK.out)) hb); have GE243 := gH HB hg; replace HB := AM (below_step (pH HB) hb); have NB241_243 := nL BK241 hg; have NB243_241 := nG BK241 hg; replace BK241 := bB BK241 hb; have NB242_243 := nL BK242 hg; have NB243_242 := nG BK242 hg; replace BK242 := bB BK242 hb; clear hb hbox hg; have hnb11 := NB241_242.out; have hnc11 := NB242_241.out; have hnb12 := NB241_243.out; have hnc12 := NB243_241.out; have ⟨hcz13_0, hcz13_1, hcz13_2, hfz13_0, hfz13_1, hfz13_2⟩ := z3 BK241; have hnb14 := NB242_243.out; have hnc14 := NB243_242.out; have ⟨hcz15_0, hcz15_1, hcz15_2, hfz15_0, hfz15_1, hfz15_2⟩ := z3 BK242) | ((with_reducible refine gate_dst (N := 5) rfl ?_); refine box_event ?hg (N := 5) ?hd (cs := #[.bool false, .slice none 0 0, .int .i64 0]) (t := 139) ?hr ?_; (case hd => rfl); (case hg => rfl); (case hr => first | (go_simp; done) | (go_simp; rfl)); intro gb244 hg w16 hbox hb; replace HO0_1 := AM (Kd.R_below (pR HO0_1) hb); replace HO1_1 := AM (Kd.R_below (pR HO1_1) hb); have BK244 := AM (hbox); have GW244 := AM ((by rw [hg]; exact (by first | exact HK.out.1 | exact (show Kept w _ (fun k_ => P0_1_ k_ ∨ P1_1_ k_) from by repeat (first | (with_reducible first | exact HK.out | apply Kept.alloc | apply Kept.drewN | apply Kept.drew | refine Kept.setCell ?_ (.inr GW241.out) _ | refine Kept.setCell ?_ (.inr GW242.out) _ | refine Kept.setCell ?_ (.inr GW243.out) _) | exact HK.out)).1) : w.heap.size ≤ gb244)); replace HK := AM (Kept.below (S := (fun k_ => P0_1_ k_ ∨ P1_1_ k_)) (by repeat (first | (with_reducible first | exact HK.out | apply Kept.alloc | apply Kept.drewN | apply Kept.drew | refine Kept.setCell ?_ (.inr GW241.out) _ | refine Kept.setCell ?_ (.inr GW242.out) _ | refine Kept.setCell ?_ (.inr GW243.out) _) | exact HK.out)) hb); have GE244 := gH HB hg; replace HB := AM (below_step (pH HB) hb); have NB241_244 := nL BK241 hg; have NB244_241 := nG BK241 hg; replace BK241 := bB BK241 hb; have NB242_244 := nL BK242 hg; have NB244_242 := nG BK242 hg; replace BK242 := bB BK242 hb; have NB243_244 := nL BK243 hg; have NB244_243 := nG BK243 hg; replace BK243 := bB BK243 hb; clear hb hbox hg; have hnb17 := NB244_241.out; have hnc17 := NB241_244.out; have hnb18 := NB244_242.out; have hnc18 := NB242_244.out; have hnb19 := NB244_243.out; have hnc19 := NB243_244.out; have ⟨hcz20_0, hcz20_1, hcz20_2, hfz20_0, hfz20_1, hfz20_2⟩ := z3 BK244; have ⟨hcz21_0, hcz21_1, hcz21_2, hfz21_0, hfz21_1, hfz21_2⟩ := z3 BK242; have ⟨hcz22_0, hcz22_1, hcz22_2, hfz22_0, hfz22_1, hfz22_2⟩ := z3 BK241))
 have n0_ : Aside0 (Kd.R (Kd.int .i64) 3 (((((((((w16.setCell ⟨gb244, 0, none⟩ (.bool a0_0)).setCell ⟨gb244, 1, none⟩ (.slice Ao6 l0_1.length co6)).setCell ⟨gb244, 2, none⟩ (.int .i64 a0_2)).setCell ⟨gb241, 0, none⟩ (.bool a1_0)).setCell ⟨gb241, 1, none⟩ (.slice Ao8 l1_1.length co8)).setCell ⟨gb241, 2, none⟩ (.int .i64 a1_2)).setCell ⟨gb242, 0, none⟩ (.bool a0_0)).setCell ⟨gb242, 1, none⟩ (.slice Ao6 l0_1.length co6)).setCell ⟨gb242, 2, none⟩ (.int .i64 a0_2)) w0.heap.size (fun k_ => ((P0_1_ k_ ∨ P1_1_ k_) ∨ w.heap.size ≤ k_) ∧ some k_ ≠ (.slice Ao8 l1_1.length co8 : Value).ownBlock) (.slice Ao6 l0_1.length co6) l0_1) := ⟨by (with_reducible repeat (first | apply Kd.R_alloc | apply Kd.R_drewN | apply Kd.R_drew)); exact Kd.R_mono (Kd.R_far (p := ⟨gb242, 2, none⟩) (Kd.R_far (p := ⟨gb242, 1, none⟩) (Kd.R_far (p := ⟨gb242, 0, none⟩) (Kd.R_far (p := ⟨gb241, 2, none⟩) (Kd.R_far (p := ⟨gb241, 1, none⟩) (Kd.R_far (p := ⟨gb241, 0, none⟩) (Kd.R_far (p := ⟨gb244, 2, none⟩) (Kd.R_far (p := ⟨gb244, 1, none⟩) (Kd.R_far (p := ⟨gb244, 0, none⟩) (Kd.R_types (Kd.R_types (Kd.R_types HO0_1.out BK244.out (by decide)) BK241.out (by decide)) BK242.out (by decide)) (fun _ hk => hk.1.1.2) (.bool a0_0)) (fun _ hk => hk.1.1.2) (.slice Ao6 l0_1.length co6)) (fun _ hk => hk.1.1.2) (.int .i64 a0_2)) (fun _ hk => hk.1.2) (.bool a1_0)) (fun _ hk => hk.1.2) (.slice Ao8 l1_1.length co8)) (fun _ hk => hk.1.2) (.int .i64 a1_2)) (fun _ hk => hk.2) (.bool a0_0)) (fun _ hk => hk.2) (.slice Ao6 l0_1.length co6)) (fun _ hk => hk.2) (.int .i64 a0_2)) (fun _ hk => ⟨hk.1.1.1.1, hk.1.1.1.2⟩)⟩
 have n1_ : Aside0 (Kd.R (Kd.int .i64) 3 (((((((((w16.setCell ⟨gb244, 0, none⟩ (.bool a0_0)).setCell ⟨gb244, 1, none⟩ (.slice Ao6 l0_1.length co6)).setCell ⟨gb244, 2, none⟩ (.int .i64 a0_2)).setCell ⟨gb241, 0, none⟩ (.bool a1_0)).setCell ⟨gb241, 1, none⟩ (.slice Ao8 l1_1.length co8)).setCell ⟨gb241, 2, none⟩ (.int .i64 a1_2)).setCell ⟨gb242, 0, none⟩ (.bool a0_0)).setCell ⟨gb242, 1, none⟩ (.slice Ao6 l0_1.length co6)).setCell ⟨gb242, 2, none⟩ (.int .i64 a0_2)) w0.heap.size (fun k_ => ((P0_1_ k_ ∨ P1_1_ k_) ∨ w.heap.size ≤ k_) ∧ some k_ ≠ (.slice Ao6 l0_1.length co6 : Value).ownBlock) (.slice Ao8 l1_1.length co8) l1_1) := ⟨by (with_reducible repeat (first | apply Kd.R_alloc | apply Kd.R_drewN | apply Kd.R_drew)); exact Kd.R_mono (Kd.R_far (p := ⟨gb242, 2, none⟩) (Kd.R_far (p := ⟨gb242, 1, none⟩) (Kd.R_far (p := ⟨gb242, 0, none⟩) (Kd.R_far (p := ⟨gb241, 2, none⟩) (Kd.R_far (p := ⟨gb241, 1, none⟩) (Kd.R_far (p := ⟨gb241, 0, none⟩) (Kd.R_far (p := ⟨gb244, 2, none⟩) (Kd.R_far (p := ⟨gb244, 1, none⟩) (Kd.R_far (p := ⟨gb244, 0, none⟩) (Kd.R_types (Kd.R_types (Kd.R_types HO1_1.out BK244.out (by decide)) BK241.out (by decide)) BK242.out (by decide)) (fun _ hk => hk.1.1.2) (.bool a0_0)) (fun _ hk => hk.1.1.2) (.slice Ao6 l0_1.length co6)) (fun _ hk => hk.1.1.2) (.int .i64 a0_2)) (fun _ hk => hk.1.2) (.bool a1_0)) (fun _ hk => hk.1.2) (.slice Ao8 l1_1.length co8)) (fun _ hk => hk.1.2) (.int .i64 a1_2)) (fun _ hk => hk.2) (.bool a0_0)) (fun _ hk => hk.2) (.slice Ao6 l0_1.length co6)) (fun _ hk => hk.2) (.int .i64 a0_2)) (fun _ hk => ⟨hk.1.1.1.1, hk.1.1.1.2⟩)⟩
 have n2_ : Aside0 ((((((((((w16.setCell ⟨gb244, 0, none⟩ (.bool a0_0)).setCell ⟨gb244, 1, none⟩ (.slice Ao6 l0_1.length co6)).setCell ⟨gb244, 2, none⟩ (.int .i64 a0_2)).setCell ⟨gb241, 0, none⟩ (.bool a1_0)).setCell ⟨gb241, 1, none⟩ (.slice Ao8 l1_1.length co8)).setCell ⟨gb241, 2, none⟩ (.int .i64 a1_2)).setCell ⟨gb242, 0, none⟩ (.bool a0_0)).setCell ⟨gb242, 1, none⟩ (.slice Ao6 l0_1.length co6)).setCell ⟨gb242, 2, none⟩ (.int .i64 a0_2)).heap[gb241]? = some (.cells #[.bool a1_0, .slice Ao8 l1_1.length co8, .int .i64 a1_2] 139 (0, 0))) := ⟨by refine sB ?_; refine blk_far ?_ NB241_242.out _; refine sB ?_; refine blk_far ?_ NB241_242.out _; refine sB ?_; refine blk_far ?_ NB241_242.out _; refine sB ?_; refine blk_put (cs := #[.bool a1_0, .slice Ao8 l1_1.length co8, .int .i64 a0_2]) ?_ 2 _ rfl; refine sB ?_; refine blk_put (cs := #[.bool a1_0, .slice Ao6 l0_1.length co6, .int .i64 a0_2]) ?_ 1 _ rfl; refine sB ?_; refine blk_put (cs := #[.bool a0_0, .slice Ao6 l0_1.length co6, .int .i64 a0_2]) ?_ 0 _ rfl; refine sB ?_; refine blk_far ?_ NB241_244.out _; refine sB ?_; refine blk_far ?_ NB241_244.out _; refine sB ?_; refine blk_far ?_ NB241_244.out _; refine sB ?_; exact BK241.out⟩
 have n3_ : Aside0 ((((((((((w16.setCell ⟨gb244, 0, none⟩ (.bool a0_0)).setCell ⟨gb244, 1, none⟩ (.slice Ao6 l0_1.length co6)).setCell ⟨gb244, 2, none⟩ (.int .i64 a0_2)).setCell ⟨gb241, 0, none⟩ (.bool a1_0)).setCell ⟨gb241, 1, none⟩ (.slice Ao8 l1_1.length co8)).setCell ⟨gb241, 2, none⟩ (.int .i64 a1_2)).setCell ⟨gb242, 0, none⟩ (.bool a0_0)).setCell ⟨gb242, 1, none⟩ (.slice Ao6 l0_1.length co6)).setCell ⟨gb242, 2, none⟩ (.int .i64 a0_2)).heap[gb242]? = some (.cells #[.bool a0_0, .slice Ao6 l0_1.length co6, .int .i64 a0_2] 139 (0, 0))) := ⟨by refine sB ?_; refine blk_put (cs := #[.bool a0_0, .slice Ao6 l0_1.length co6, .int .i64 a1_2]) ?_ 2 _ rfl; refine sB ?_; refine blk_put (cs := #[.bool a0_0, .slice Ao8 l1_1.length co8, .int .i64 a1_2]) ?_ 1 _ rfl; refine sB ?_; refine blk_put (cs := #[.bool a1_0, .slice Ao8 l1_1.length co8, .int .i64 a1_2]) ?_ 0 _ rfl; refine sB ?_; refine blk_far ?_ NB242_241.out _; refine sB ?_; refine blk_far ?_ NB242_241.out _; refine sB ?_; refine blk_far ?_ NB242_241.out _; refine sB ?_; refine blk_far ?_ NB242_244.out _; refine sB ?_; refine blk_far ?_ NB242_244.out _; refine sB ?_; refine blk_far ?_ NB242_244.out _; refine sB ?_; exact BK242.out⟩
 have n4_ : Aside0 ((((((((((w16.setCell ⟨gb244, 0, none⟩ (.bool a0_0)).setCell ⟨gb244, 1, none⟩ (.slice Ao6 l0_1.length co6)).setCell ⟨gb244, 2, none⟩ (.int .i64 a0_2)).setCell ⟨gb241, 0, none⟩ (.bool a1_0)).setCell ⟨gb241, 1, none⟩ (.slice Ao8 l1_1.length co8)).setCell ⟨gb241, 2, none⟩ (.int .i64 a1_2)).setCell ⟨gb242, 0, none⟩ (.bool a0_0)).setCell ⟨gb242, 1, none⟩ (.slice Ao6 l0_1.length co6)).setCell ⟨gb242, 2, none⟩ (.int .i64 a0_2)).heap[gb243]? = some (.cells #[.bool false, .slice none 0 0, .int .i64 0] 139 (0, 0))) := ⟨by refine sB ?_; refine blk_far ?_ NB243_242.out _; refine sB ?_; refine blk_far ?_ NB243_242.out _; refine sB ?_; refine blk_far ?_ NB243_242.out _; refine sB ?_; refine blk_far ?_ NB243_241.out _; refine sB ?_; refine blk_far ?_ NB243_241.out _; refine sB ?_; refine blk_far ?_ NB243_241.out _; refine sB ?_; refine blk_far ?_ NB243_244.out _; refine sB ?_; refine blk_far ?_ NB243_244.out _; refine sB ?_; refine blk_far ?_ NB243_244.out _; refine sB ?_; exact BK243.out⟩
 have n5_ : Aside0 ((((((((((w16.setCell ⟨gb244, 0, none⟩ (.bool a0_0)).setCell ⟨gb244, 1, none⟩ (.slice Ao6 l0_1.length co6)).setCell ⟨gb244, 2, none⟩ (.int .i64 a0_2)).setCell ⟨gb241, 0, none⟩ (.bool a1_0)).setCell ⟨gb241, 1, none⟩ (.slice Ao8 l1_1.length co8)).setCell ⟨gb241, 2, none⟩ (.int .i64 a1_2)).setCell ⟨gb242, 0, none⟩ (.bool a0_0)).setCell ⟨gb242, 1, none⟩ (.slice Ao6 l0_1.length co6)).setCell ⟨gb242, 2, none⟩ (.int .i64 a0_2)).heap[gb244]? = some (.cells #[.bool a0_0, .slice Ao6 l0_1.length co6, .int .i64 a0_2] 139 (0, 0))) := ⟨by refine sB ?_; refine blk_far ?_ NB244_242.out _; refine sB ?_; refine blk_far ?_ NB244_242.out _; refine sB ?_; refine blk_far ?_ NB244_242.out _; refine sB ?_; refine blk_far ?_ NB244_241.out _; refine sB ?_; refine blk_far ?_ NB244_241.out _; refine sB ?_; refine blk_far ?_ NB244_241.out _; refine sB ?_; refine blk_put (cs := #[.bool a0_0, .slice Ao6 l0_1.length co6, .int .i64 0]) ?_ 2 _ rfl; refine sB ?_; refine blk_put (cs := #[.bool a0_0, .slice none 0 0, .int .i64 0]) ?_ 1 _ rfl; refine sB ?_; refine blk_put (cs := #[.bool false, .slice none 0 0, .int .i64 0]) ?_ 0 _ rfl; refine sB ?_; exact BK244.out⟩
 have n6_ : Aside0 (Kept w (((((((((w16.setCell ⟨gb244, 0, none⟩ (.bool a0_0)).setCell ⟨gb244, 1, none⟩ (.slice Ao6 l0_1.length co6)).setCell ⟨gb244, 2, none⟩ (.int .i64 a0_2)).setCell ⟨gb241, 0, none⟩ (.bool a1_0)).setCell ⟨gb241, 1, none⟩ (.slice Ao8 l1_1.length co8)).setCell ⟨gb241, 2, none⟩ (.int .i64 a1_2)).setCell ⟨gb242, 0, none⟩ (.bool a0_0)).setCell ⟨gb242, 1, none⟩ (.slice Ao6 l0_1.length co6)).setCell ⟨gb242, 2, none⟩ (.int .i64 a0_2)) (fun k_ => P0_1_ k_ ∨ P1_1_ k_)) := ⟨by repeat (first | (with_reducible first | exact HK.out | apply Kept.alloc | apply Kept.drewN | apply Kept.drew | refine Kept.setCell ?_ (.inr GW241.out) _ | refine Kept.setCell ?_ (.inr GW242.out) _ | refine Kept.setCell ?_ (.inr GW243.out) _ | refine Kept.setCell ?_ (.inr GW244.out) _) | exact HK.out)⟩
 have n7_ : Aside0 (Below w0.heap.size w0 (((((((((w16.setCell ⟨gb244, 0, none⟩ (.bool a0_0)).setCell ⟨gb244, 1, none⟩ (.slice Ao6 l0_1.length co6)).setCell ⟨gb244, 2, none⟩ (.int .i64 a0_2)).setCell ⟨gb241, 0, none⟩ (.bool a1_0)).setCell ⟨gb241, 1, none⟩ (.slice Ao8 l1_1.length co8)).setCell ⟨gb241, 2, none⟩ (.int .i64 a1_2)).setCell ⟨gb242, 0, none⟩ (.bool a0_0)).setCell ⟨gb242, 1, none⟩ (.slice Ao6 l0_1.length co6)).setCell ⟨gb242, 2, none⟩ (.int .i64 a0_2))) := ⟨pH HB⟩
 (try clear HO0_1)
 (try clear HO1_1)
 (try clear BK241)
 (try clear BK242)
 (try clear BK243)
 (try clear BK244)
 (try clear HK)
 (try clear HB)
 generalize (((((((((w16.setCell ⟨gb244, 0, none⟩ (.bool a0_0)).setCell ⟨gb244, 1, none⟩ (.slice Ao6 l0_1.length co6)).setCell ⟨gb244, 2, none⟩ (.int .i64 a0_2)).setCell ⟨gb241, 0, none⟩ (.bool a1_0)).setCell ⟨gb241, 1, none⟩ (.slice Ao8 l1_1.length co8)).setCell ⟨gb241, 2, none⟩ (.int .i64 a1_2)).setCell ⟨gb242, 0, none⟩ (.bool a0_0)).setCell ⟨gb242, 1, none⟩ (.slice Ao6 l0_1.length co6)).setCell ⟨gb242, 2, none⟩ (.int .i64 a0_2)) = w23 at n0_ n1_ n2_ n3_ n4_ n5_ n6_ n7_ ⊢
 have HO0_1 := n0_; have HO1_1 := n1_; have BK241 := n2_; have BK242 := n3_; have BK243 := n4_; have BK244 := n5_; have HK := n6_; have HB := n7_; clear n0_ n1_ n2_ n3_ n4_ n5_ n6_ n7_; replace HO0_1 := AM (Kd.R_drew HO0_1.out); replace HO1_1 := AM (Kd.R_drew HO1_1.out); replace BK241 := AM (blk_drew BK241.out); replace BK242 := AM (blk_drew BK242.out); replace BK243 := AM (blk_drew BK243.out); replace BK244 := AM (blk_drew BK244.out); replace HK := AM (Kept.drew HK.out); replace HB := AM (below_drew1 HB.out)
 refine start_ (n := 15) (S := fun w' => w'.cell? ⟨gb241, 0, none⟩ = some (.bool a1_0) ∧ w'.cell? ⟨gb241, 1, none⟩ = some (.slice Ao8 l1_1.length co8) ∧ w'.cell? ⟨gb241, 2, none⟩ = some (.int .i64 a1_2) ∧ w'.cell? ⟨gb242, 0, none⟩ = some (.bool a0_0) ∧ w'.cell? ⟨gb242, 1, none⟩ = some (.slice Ao6 l0_1.length co6) ∧ w'.cell? ⟨gb242, 2, none⟩ = some (.int .i64 a0_2)) (ds := []) #[false, false, false, false, false, false, false, false, false, false, false, false, false, false, false] (by kernel_rfl) rfl rfl ⟨(blk_cell BK241.out 0).trans rfl, (blk_cell BK241.out 1).trans rfl, (blk_cell BK241.out 2).trans rfl, (blk_cell BK242.out 0).trans rfl, (blk_cell BK242.out 1).trans rfl, (blk_cell BK242.out 2).trans rfl⟩ (fun hHeld => ?_); refine with_tabW spec_l2add.tab5 spec_l2add.bits5 (fun HT_ HW_ => ?_)
 generalize w23.drew = w24 at HO0_1 HO1_1 BK241 BK242 BK243 BK244 HK HB hHeld ⊢
 refine pure_ (i := 0) (N := some 14) (v := ?_) (a' := ?_) #[true, false, false, false, false, false, false, false, false, false, false, false, false, false, false] rfl rfl (any_of HT_.out (by kernel_rfl)) (fun _ _ _ h => h) (Or.inl ⟨by rfl, ?_⟩) ?_ ?_
 rotate_left
 · intro w'
   go_simp
   with_reducible rfl
 rotate_left
 · simp only [Act.put, sa, sb, sc, i64_w, i32_w]
   rfl
 refine pure_ (i := 2) (N := some 16) (v := ?_) (a' := ?_) #[true, false, true, false, false, false, false, false, false, false, false, false, false, false, false] rfl rfl (any_of HT_.out (by kernel_rfl)) (fun _ _ _ h => h) (Or.inl ⟨by rfl, ?_⟩) ?_ ?_
 rotate_left
 · intro w'
   go_simp
   with_reducible rfl
 rotate_left
 · simp only [Act.put, sa, sb, sc, i64_w, i32_w]
   rfl
 refine pure_ (i := 4) (N := some 18) (v := ?_) (a' := ?_) #[true, false, true, false, true, false, false, false, false, false, false, false, false, false, false] rfl rfl (any_of HT_.out (by kernel_rfl)) (fun _ _ _ h => h) (Or.inl ⟨by rfl, ?_⟩) ?_ ?_
 rotate_left
 · intro w'
   go_simp
   with_reducible rfl
 rotate_left
 · simp only [Act.put, sa, sb, sc, i64_w, i32_w]
   rfl
 refine pure_ (i := 8) (N := some 22) (v := ?_) (a' := ?_) #[true, false, true, false, true, false, false, false, true, false, false, false, false, false, false] rfl rfl (any_of HT_.out (by kernel_rfl)) (fun _ _ _ h => h) (Or.inl ⟨by rfl, ?_⟩) ?_ ?_
 rotate_left
 · intro w'
   go_simp
   with_reducible rfl
 rotate_left
 · simp only [Act.put, sa, sb, sc, i64_w, i32_w]
   rfl
 refine pure_ (i := 11) (N := some 25) (v := ?_) (a' := ?_) #[true, false, true, false, true, false, false, false, true, false, false, true, false, false, false] rfl rfl (any_of HT_.out (by kernel_rfl)) (fun _ _ _ h => h) (Or.inl ⟨by rfl, ?_⟩) ?_ ?_
 rotate_left
 · intro w'
   go_simp
   with_reducible rfl
 rotate_left
 · simp only [Act.put, sa, sb, sc, i64_w, i32_w]
   rfl
 refine take_ (i := 1) (N := some 15) (v := ?_) (a' := ?_) #[true, true, true, false, true, false, false, false, true, false, false, true, false, false, false] rfl rfl (take_ofW HT_.out HW_.out (by kernel_rfl)) (fun _ _ _ h => h) (Or.inl ⟨by rfl, ?_⟩) hHeld ?_ ?_
 rotate_left
 · rintro w' ⟨s0, s1, s2, s3, s4, s5⟩
   go_simp
   with_reducible rfl
 rotate_left
 · simp only [Act.put, sa, sb, sc, i64_w, i32_w]
   rfl
 refine take_ (i := 3) (N := some 17) (v := ?_) (a' := ?_) #[true, true, true, true, true, false, false, false, true, false, false, true, false, false, false] rfl rfl (take_ofW HT_.out HW_.out (by kernel_rfl)) (fun _ _ _ h => h) (Or.inl ⟨by rfl, ?_⟩) hHeld ?_ ?_
 rotate_left
 · rintro w' ⟨s0, s1, s2, s3, s4, s5⟩
   go_simp
   with_reducible rfl
 rotate_left
 · simp only [Act.put, sa, sb, sc, i64_w, i32_w]
   rfl
 refine take_ (i := 5) (N := some 19) (v := ?_) (a' := ?_) #[true, true, true, true, true, true, false, false, true, false, false, true, false, false, false] rfl rfl (take_ofW HT_.out HW_.out (by kernel_rfl)) (fun _ _ _ h => h) (Or.inl ⟨by rfl, ?_⟩) hHeld ?_ ?_
 rotate_left
 · rintro w' ⟨s0, s1, s2, s3, s4, s5⟩
   go_simp
   with_reducible rfl
 rotate_left
 · simp only [Act.put, sa, sb, sc, i64_w, i32_w]
   rfl
 refine pure_ (i := 6) (N := some 20) (v := ?_) (a' := ?_) #[true, true, true, true, true, true, true, false, true, false, false, true, false, false, false] rfl rfl (any_of HT_.out (by kernel_rfl)) (fun _ _ _ h => h) (Or.inl ⟨by rfl, ?_⟩) ?_ ?_
 rotate_left
 · intro w'
   go_simp
   with_reducible rfl
 rotate_left
 · simp only [Act.put, sa, sb, sc, i64_w, i32_w]
   rfl
 refine take_ (i := 9) (N := some 23) (v := ?_) (a' := ?_) #[true, true, true, true, true, true, true, false, true, true, false, true, false, false, false] rfl rfl (take_ofW HT_.out HW_.out (by kernel_rfl)) (fun _ _ _ h => h) (Or.inl ⟨by rfl, ?_⟩) hHeld ?_ ?_
 rotate_left
 · rintro w' ⟨s0, s1, s2, s3, s4, s5⟩
   go_simp
   with_reducible rfl
 rotate_left
 · simp only [Act.put, sa, sb, sc, i64_w, i32_w]
   rfl
 refine take_ (i := 12) (N := some 26) (v := ?_) (a' := ?_) #[true, true, true, true, true, true, true, false, true, true, false, true, true, false, false] rfl rfl (take_ofW HT_.out HW_.out (by kernel_rfl)) (fun _ _ _ h => h) (Or.inl ⟨by rfl, ?_⟩) hHeld ?_ ?_
 rotate_left
 · rintro w' ⟨s0, s1, s2, s3, s4, s5⟩
   go_simp
   with_reducible rfl
 rotate_left
 · simp only [Act.put, sa, sb, sc, i64_w, i32_w]
   rfl
 refine one_ (i := 7) (N := some 21) #[true, true, true, true, true, true, true, true, true, true, false, true, true, false, false] rfl rfl (one_of HT_.out (by kernel_rfl)) (by decide) (fun K hK => ?_)
 refine goes_ Try.func150 (by kernel_rfl) rfl #[.agg #[.bool a1_0, .slice Ao8 l1_1.length co8], .int .i64 (wrap64 (a1_2 - a0_2))] (by rfl) rfl rfl (by (try simp only [List.map_toArray, List.map_cons, List.map_nil]); first | done | rfl | (simp only [List.length_drop, List.length_take]; rfl)) ?_
 with_reducible refine (spec_l1up.calls k a1_0 (fun k_ => some k_ = (.slice Ao8 l1_1.length co8 : Value).ownBlock) (.slice Ao8 l1_1.length co8) l1_1 (wrap64 (a1_2 - a0_2)) t245 t246 w0 _ ?side1 ?side2 A4.out).mono ?_
 (case side1 => exact pH HB)
 (case side2 => exact Kd.R_tight rfl HO1_1.out)
 rintro e w25 ⟨v247, rfl, ho0, hb, hkp⟩
 refine ⟨_, rfl, ?_⟩
 replace BK241 := AM (blk_kept (pB BK241) hkp (fun hs_ => (fun e_ => (Kd.R_ne HO1_1.out BK241.out (by decide)) e_) hs_)); replace BK242 := AM (blk_kept (pB BK242) hkp (fun hs_ => (fun e_ => (Kd.R_ne HO1_1.out BK242.out (by decide)) e_) hs_)); replace BK243 := AM (blk_kept (pB BK243) hkp (fun hs_ => (fun e_ => (Kd.R_ne HO1_1.out BK243.out (by decide)) e_) hs_)); replace BK244 := AM (blk_kept (pB BK244) hkp (fun hs_ => (fun e_ => (Kd.R_ne HO1_1.out BK244.out (by decide)) e_) hs_)); have HO248 := AM (Kd.R_mono (ok' := fun k_ => ((P0_1_ k_ ∨ P1_1_ k_) ∨ w.heap.size ≤ k_) ∧ some k_ ≠ (.slice Ao6 l0_1.length co6 : Value).ownBlock) ho0 (fun k_ hk_ => ⟨Or.elim hk_ (fun hs_ => (HO1_1.out.1 k_ (hs_).symm).1) (fun hn_ => (.inr (Nat.le_trans (by first | exact HK.out.1 | exact (show Kept w _ (fun k_ => P0_1_ k_ ∨ P1_1_ k_) from by repeat (first | (with_reducible first | exact HK.out | apply Kept.alloc | apply Kept.drewN | apply Kept.drew | refine Kept.setCell ?_ (.inr GW241.out) _ | refine Kept.setCell ?_ (.inr GW242.out) _ | refine Kept.setCell ?_ (.inr GW243.out) _ | refine Kept.setCell ?_ (.inr GW244.out) _) | exact HK.out)).1) hn_))), Or.elim hk_ (fun hs_ => fun e_ => (((HO0_1.out).1 k_ e_.symm).2) hs_) (fun hn_ => (Kd.fresh' (Kd.R_lt (pR HO0_1)) k_ hn_))⟩)); replace HO0_1 := AM (Kd.R_mono (ok' := fun k_ => ((P0_1_ k_ ∨ P1_1_ k_) ∨ w.heap.size ≤ k_) ∧ some k_ ≠ (v247 : Value).ownBlock) (Kd.R_keptB (HO0_1.out) hkp (fun k_ hk_ hs_ => (hk_.2) hs_)) (fun k_ hk_ => ⟨hk_.1.1, fun e_ => Or.elim (ho0.1 k_ e_.symm) (fun hs_ => hk_.2.1 hs_) (fun hn_ => Nat.not_le.2 hk_.2.2 hn_)⟩)); replace HK := AM (Kept.then_ (S := (fun k_ => P0_1_ k_ ∨ P1_1_ k_)) (by repeat (first | (with_reducible first | exact HK.out | apply Kept.alloc | apply Kept.drewN | apply Kept.drew | refine Kept.setCell ?_ (.inr GW241.out) _ | refine Kept.setCell ?_ (.inr GW242.out) _ | refine Kept.setCell ?_ (.inr GW243.out) _ | refine Kept.setCell ?_ (.inr GW244.out) _) | exact HK.out)) hkp (fun k_ hs_ => (fun e_ => (HO1_1.out.1 k_ e_.symm).1) hs_)); replace HB := AM (hb); clear HO1_1
 (try clear hb)
 (try clear hkp)
 (try clear ho0)
 obtain ⟨Ao26, co26, eo26⟩ := Kd.R_slice HO248.out
 (first | subst eo26 | (injection eo26 with f1_ f2_ f3_; have f4_ := f1_.symm; have f5_ := f3_.symm; clear f1_ f2_ f3_; subst f4_; subst f5_))
 refine hK.out _ _ ⟨(blk_cell BK241.out 0).trans rfl, (blk_cell BK241.out 1).trans rfl, (blk_cell BK241.out 2).trans rfl, (blk_cell BK242.out 0).trans rfl, (blk_cell BK242.out 1).trans rfl, (blk_cell BK242.out 2).trans rfl⟩ (fun hHeld => ?_)
 clear hK K
 refine norm_ (a' := ?_) ?_ ?_
 rotate_left
 · show Act.put _ (some 21) _ = _
   simp only [Act.put, sa, sb, sc, i64_w, i32_w]
   rfl
 refine one_ (i := 10) (N := some 24) #[true, true, true, true, true, true, true, true, true, true, true, true, true, false, false] rfl rfl (one_of HT_.out (by kernel_rfl)) (by decide) (fun K hK => ?_)
 refine goes_ Try.func149 (by kernel_rfl) rfl #[.agg #[.bool t245, .slice Ao26 t246.length co26], .agg #[.bool a0_0, .slice Ao6 l0_1.length co6]] (by rfl) rfl rfl (by (try simp only [List.map_toArray, List.map_cons, List.map_nil]); first | done | rfl | (simp only [List.length_drop, List.length_take]; rfl)) ?_
 with_reducible refine (spec_l1add.calls k t245 _ _ t246 a0_0 _ _ l0_1 t249 t250 _ ?side1 ?side2 ?side3 ?side4 A5.out).mono ?_
 (case side1 => exact cR HO248)
 (case side2 => exact (Kd.R_reads' HO248.out).2.1)
 (case side3 => exact cR HO0_1)
 (case side4 => exact (Kd.R_reads' HO0_1.out).2.1)
 rintro e w27 ⟨v251, rfl, ho0, hb⟩
 refine ⟨_, rfl, ?_⟩
 have HO252 := AM (Kd.R_lower (Kd.R_new' (Kd.R_new' (Kd.R_newM (M := fun k_ => ((P0_1_ k_ ∨ P1_1_ k_) ∨ w.heap.size ≤ k_)) ho0 (by first | exact HK.out.1 | exact (show Kept w _ (fun k_ => P0_1_ k_ ∨ P1_1_ k_) from by repeat (first | (with_reducible first | exact HK.out | apply Kept.alloc | apply Kept.drewN | apply Kept.drew | refine Kept.setCell ?_ (.inr GW241.out) _ | refine Kept.setCell ?_ (.inr GW242.out) _ | refine Kept.setCell ?_ (.inr GW243.out) _ | refine Kept.setCell ?_ (.inr GW244.out) _) | exact HK.out)).1) (fun k_ h_ => .inr h_)) (Kd.R_lt (pR HO0_1))) (Kd.R_lt (pR HO248))) (below_size (pH HB))); replace HO0_1 := AM (Kd.R_elder' (pR HO0_1) (Kd.R_base ho0) hb); replace HO248 := AM (Kd.R_elder' (pR HO248) (Kd.R_base ho0) hb); replace BK241 := bB BK241 hb; replace BK242 := bB BK242 hb; replace BK243 := bB BK243 hb; replace BK244 := bB BK244 hb; replace HK := AM (Kept.below (S := (fun k_ => P0_1_ k_ ∨ P1_1_ k_)) (by repeat (first | (with_reducible first | exact HK.out | apply Kept.alloc | apply Kept.drewN | apply Kept.drew | refine Kept.setCell ?_ (.inr GW241.out) _ | refine Kept.setCell ?_ (.inr GW242.out) _ | refine Kept.setCell ?_ (.inr GW243.out) _ | refine Kept.setCell ?_ (.inr GW244.out) _) | exact HK.out)) hb); replace HB := AM (below_step (pH HB) hb)
 (try clear hb)
 (try clear hb2)
 (try clear hk)
 (try clear hi)
 (try clear ho0)
 obtain ⟨Ao28, co28, eo28⟩ := Kd.R_slice HO252.out
 (first | subst eo28 | (injection eo28 with f1_ f2_ f3_; have f4_ := f1_.symm; have f5_ := f3_.symm; clear f1_ f2_ f3_; subst f4_; subst f5_))
 refine hK.out _ _ ⟨(blk_cell BK241.out 0).trans rfl, (blk_cell BK241.out 1).trans rfl, (blk_cell BK241.out 2).trans rfl, (blk_cell BK242.out 0).trans rfl, (blk_cell BK242.out 1).trans rfl, (blk_cell BK242.out 2).trans rfl⟩ (fun hHeld => ?_)
 clear hK K
 refine norm_ (a' := ?_) ?_ ?_
 rotate_left
 · show Act.put _ (some 24) _ = _
   simp only [Act.put, sa, sb, sc, i64_w, i32_w]
   rfl
 refine pure_ (i := 13) (N := some 27) (v := ?_) (a' := ?_) #[true, true, true, true, true, true, true, true, true, true, true, true, true, true, false] rfl rfl (any_of HT_.out (by kernel_rfl)) (fun _ _ _ h => h) (Or.inl ⟨by rfl, ?_⟩) ?_ ?_
 rotate_left
 · intro w'
   go_simp
   with_reducible rfl
 rotate_left
 · simp only [Act.put, sa, sb, sc, i64_w, i32_w]
   rfl
 refine one_ (i := 14) (N := none) #[true, true, true, true, true, true, true, true, true, true, true, true, true, true, true] rfl rfl (one_of HT_.out (by kernel_rfl)) (by decide) (fun K hK => ?_)
 have hs29 : w27.cell? ⟨gb243, 0, none⟩ = some (.bool false) := (blk_cell BK243.out 0).trans rfl
 have hfs29 := blk_frozen BK243.out 0; have hns29_0 := NB241_243.out; have hns29_1 := NB242_243.out; have hns29_3 := NB244_243.out; have hms29_0 := NB243_241.out; have hms29_1 := NB243_242.out; have hms29_3 := NB243_244.out
 have hs30 : w27.cell? ⟨gb243, 1, none⟩ = some (.slice none 0 0) := (blk_cell BK243.out 1).trans rfl
 have hfs30 := blk_frozen BK243.out 1; have hns30_0 := NB241_243.out; have hns30_1 := NB242_243.out; have hns30_3 := NB244_243.out; have hms30_0 := NB243_241.out; have hms30_1 := NB243_242.out; have hms30_3 := NB243_244.out
 have hs31 : w27.cell? ⟨gb243, 2, none⟩ = some (.int .i64 0) := (blk_cell BK243.out 2).trans rfl
 have hfs31 := blk_frozen BK243.out 2; have hns31_0 := NB241_243.out; have hns31_1 := NB242_243.out; have hns31_3 := NB244_243.out; have hms31_0 := NB243_241.out; have hms31_1 := NB243_242.out; have hms31_3 := NB243_244.out
 refine skip_ (w1 := ?_) (by rfl) rfl ?_ ?_
 rotate_left
 · go_simp
   rfl
 refine hK.out _ _ ⟨((cell_far (p := ⟨gb243, _, none⟩) NB241_243.out _).trans (((cell_far (p := ⟨gb243, _, none⟩) NB241_243.out _).trans (((cell_far (p := ⟨gb243, _, none⟩) NB241_243.out _).trans (hHeld.1)))))), ((cell_far (p := ⟨gb243, _, none⟩) NB241_243.out _).trans (((cell_far (p := ⟨gb243, _, none⟩) NB241_243.out _).trans (((cell_far (p := ⟨gb243, _, none⟩) NB241_243.out _).trans (hHeld.2.1)))))), ((cell_far (p := ⟨gb243, _, none⟩) NB241_243.out _).trans (((cell_far (p := ⟨gb243, _, none⟩) NB241_243.out _).trans (((cell_far (p := ⟨gb243, _, none⟩) NB241_243.out _).trans (hHeld.2.2.1)))))), ((cell_far (p := ⟨gb243, _, none⟩) NB242_243.out _).trans (((cell_far (p := ⟨gb243, _, none⟩) NB242_243.out _).trans (((cell_far (p := ⟨gb243, _, none⟩) NB242_243.out _).trans (hHeld.2.2.2.1)))))), ((cell_far (p := ⟨gb243, _, none⟩) NB242_243.out _).trans (((cell_far (p := ⟨gb243, _, none⟩) NB242_243.out _).trans (((cell_far (p := ⟨gb243, _, none⟩) NB242_243.out _).trans (hHeld.2.2.2.2.1)))))), ((cell_far (p := ⟨gb243, _, none⟩) NB242_243.out _).trans (((cell_far (p := ⟨gb243, _, none⟩) NB242_243.out _).trans (((cell_far (p := ⟨gb243, _, none⟩) NB242_243.out _).trans (hHeld.2.2.2.2.2))))))⟩ (fun hHeld => ?_)
 clear hK K
 refine done_ (done_of HT_.out (by kernel_rfl)) ?_
 try go_wp2
 refine bodyPost_ret (results_cell_row rfl _ _ gb243 139 #[.bool t249, .slice Ao28 t250.length co28, .int .i64 a0_2] (0, 0) _ rfl (by refine sB ?_; refine blk_put (cs := #[.bool t249, .slice Ao28 t250.length co28, .int .i64 0]) ?_ 2 _ rfl; refine sB ?_; refine blk_put (cs := #[.bool t249, .slice none 0 0, .int .i64 0]) ?_ 1 _ rfl; refine sB ?_; refine blk_put (cs := #[.bool false, .slice none 0 0, .int .i64 0]) ?_ 0 _ rfl; refine sB ?_; exact BK243.out) Try.underlying139 rfl (by kernel_rfl)) rfl ?_
 exact ⟨_, by first | rfl | (simp [errW_none, errW_some] <;> rfl) | (simp [*, errW_none, errW_some] <;> rfl), by (with_reducible repeat (first | apply Kd.R_alloc | apply Kd.R_drewN | apply Kd.R_drew)); exact Kd.R_mono (Kd.R_far (p := ⟨gb243, 2, none⟩) (Kd.R_far (p := ⟨gb243, 1, none⟩) (Kd.R_far (p := ⟨gb243, 0, none⟩) (Kd.R_types HO252.out BK243.out (by decide)) (fun _ hk => hk.2) (.bool t249)) (fun _ hk => hk.2) (.slice Ao28 t250.length co28)) (fun _ hk => hk.2) (.int .i64 a0_2)) (fun _ hk => hk.1.1.1.1), pH HB, by repeat (first | (with_reducible first | exact HK.out | apply Kept.alloc | apply Kept.drewN | apply Kept.drew | refine Kept.setCell ?_ (.inr GW241.out) _ | refine Kept.setCell ?_ (.inr GW242.out) _ | refine Kept.setCell ?_ (.inr GW243.out) _ | refine Kept.setCell ?_ (.inr GW244.out) _) | exact HK.out)⟩
/-! ### spec_l1neg: function 151 -/
def spec_l1neg.f (k : Nat) (a0_0 : Bool) (l0_1 : List Int) : Option (Bool × List Int) := (spec_l1make.f k (!a0_0) l0_1).bind fun bt263 => (some (bt263.1, bt263.2))
theorem spec_l1neg.mono : ∀ a0 a1 k, LeO (spec_l1neg.f k a0 a1) (spec_l1neg.f (k + 1) a0 a1) := by
 intro a0 a1 k
 unfold spec_l1neg.f
 repeat' with_reducible first | exact spec_l1make.mono _ _ _ | exact LeO.refl _ | exact LeO.none _ | refine LeO.ite ?_ ?_ | refine LeO.bind ?_ (fun _ => ?_)
set_option maxHeartbeats 8000000 in
set_option maxRecDepth 100000 in
theorem spec_l1neg.calls (k : Nat) (a0_0 : Bool) (P0_1_ : Nat → Prop) (u9000_ : Value) (l0_1 : List Int) (r1 : Bool) (r2 : List Int) (w0 w : World) (hB : Below w0.heap.size w0 w) (ho0_1 : Kd.R (Kd.int .i64) 3 w w0.heap.size P0_1_ u9000_ l0_1) (h : spec_l1neg.f k a0_0 l0_1 = some (r1, r2)) :
 Calls Try.prog 151 #[.agg #[.bool a0_0, u9000_]] w fun e w' => ∃ v1_ : Value, e = .returned (.agg #[.bool r1, v1_]) ∧ Kd.R (Kd.int .i64) 3 w' w0.heap.size (fun k_ => (P0_1_ k_ ∨ w.heap.size ≤ k_)) v1_ r2 ∧ Below w0.heap.size w0 w' ∧ Kept w w' (fun k_ => P0_1_ k_) := by
 have hu93 := Try.underlying93; have HO0_1 := AM (show Kd.R (Kd.int .i64) 3 w w0.heap.size (fun k_ => (P0_1_ k_ ∨ w.heap.size ≤ k_)) u9000_ l0_1 from Kd.R_mono ho0_1 (fun k_ hk => (.inl hk))); have HK := AM (Kept.refl w (fun k_ => P0_1_ k_)); have HW0 := AM hB.size; have HB := AM hB; clear hB
 have H : ((spec_l1make.f k (!a0_0) l0_1).bind fun bt263 => (some (bt263.1, bt263.2))) = some (r1, r2) := h
 clear h
 replace H := Option.bind_eq_some_iff.mp H
 obtain ⟨⟨t263, t264⟩, A20, H⟩ := H
 (try dsimp only at H)
 have A2 := AM A20; clear A20
 simp only [Option.some.injEq, Prod.mk.injEq] at H
 obtain ⟨rfl, rfl⟩ := H
 obtain ⟨Ao3, co3, eo3⟩ := Kd.R_slice HO0_1.out
 subst eo3
 go_enter Try.func151, Try.ntmps151
 go_wp2_with (first | ((with_reducible refine gate_dst (N := 1) rfl ?_); refine box_event ?hg (N := 1) ?hd (cs := #[.bool a0_0, .slice Ao3 l0_1.length co3]) (t := 93) ?hr ?_; (case hd => rfl); (case hg => rfl); (case hr => first | (go_simp; done) | (go_simp; rfl)); intro gb261 hg w4 hbox hb; replace HO0_1 := AM (Kd.R_below (pR HO0_1) hb); have BK261 := AM (hbox); have GW261 := AM ((by rw [hg]; exact (by first | exact HK.out.1 | exact (show Kept w _ (fun k_ => P0_1_ k_) from by repeat (first | (with_reducible first | exact HK.out | apply Kept.alloc | apply Kept.drewN | apply Kept.drew) | exact HK.out)).1) : w.heap.size ≤ gb261)); replace HK := AM (Kept.below (S := (fun k_ => P0_1_ k_)) (by repeat (first | (with_reducible first | exact HK.out | apply Kept.alloc | apply Kept.drewN | apply Kept.drew) | exact HK.out)) hb); have GE261 := gH HB hg; replace HB := AM (below_step (pH HB) hb); clear hb hbox hg) | ((with_reducible refine gate_dst (N := 2) rfl ?_); refine box_event ?hg (N := 2) ?hd (cs := #[.bool false, .slice none 0 0]) (t := 93) ?hr ?_; (case hd => rfl); (case hg => rfl); (case hr => first | (go_simp; done) | (go_simp; rfl)); intro gb262 hg w5 hbox hb; replace HO0_1 := AM (Kd.R_below (pR HO0_1) hb); have BK262 := AM (hbox); have GW262 := AM ((by rw [hg]; exact (by first | exact HK.out.1 | exact (show Kept w _ (fun k_ => P0_1_ k_) from by repeat (first | (with_reducible first | exact HK.out | apply Kept.alloc | apply Kept.drewN | apply Kept.drew | refine Kept.setCell ?_ (.inr GW261.out) _) | exact HK.out)).1) : w.heap.size ≤ gb262)); replace HK := AM (Kept.below (S := (fun k_ => P0_1_ k_)) (by repeat (first | (with_reducible first | exact HK.out | apply Kept.alloc | apply Kept.drewN | apply Kept.drew | refine Kept.setCell ?_ (.inr GW261.out) _) | exact HK.out)) hb); have GE262 := gH HB hg; replace HB := AM (below_step (pH HB) hb); have NB261_262 := nL BK261 hg; have NB262_261 := nG BK261 hg; replace BK261 := bB BK261 hb; clear hb hbox hg; have hnb6 := NB261_262.out; have hnc6 := NB262_261.out; have ⟨hcz7_0, hcz7_1, hfz7_0, hfz7_1⟩ := z2 BK261) | ((with_reducible refine gate_callee (f := 115) rfl ?_); refine goesL_ (some 8) rfl rfl Try.func115 (by kernel_rfl) rfl #[.bool (!a0_0), .slice Ao3 l0_1.length co3] rfl (by (try simp only [List.map_toArray, List.map_cons, List.map_nil]); first | done | rfl | (simp only [List.length_drop, List.length_take]; rfl)) ?_; (with_reducible refine (spec_l1make.calls k (!a0_0) (fun k_ => some k_ = (.slice Ao3 l0_1.length co3 : Value).ownBlock) (.slice Ao3 l0_1.length co3) l0_1 t263 t264 w0 _ ?side1 ?side2 A2.out).mono ?_); (case side1 => exact pH HB); (case side2 => exact Kd.R_tight rfl HO0_1.out); rintro e w8 ⟨v265, rfl, ho0, hb, hkp⟩; refine ⟨_, rfl, ?_⟩; replace BK261 := AM (blk_kept (pB BK261) hkp (fun hs_ => (fun e_ => (Kd.R_ne HO0_1.out BK261.out (by decide)) e_) hs_)); replace BK262 := AM (blk_kept (pB BK262) hkp (fun hs_ => (fun e_ => (Kd.R_ne HO0_1.out BK262.out (by decide)) e_) hs_)); have HO266 := AM (Kd.R_mono (ok' := fun k_ => (P0_1_ k_ ∨ w.heap.size ≤ k_)) ho0 (fun k_ hk_ => Or.elim hk_ (fun hs_ => (HO0_1.out.1 k_ (hs_).symm)) (fun hn_ => (.inr (Nat.le_trans (by first | exact HK.out.1 | exact (show Kept w _ (fun k_ => P0_1_ k_) from by repeat (first | (with_reducible first | exact HK.out | apply Kept.alloc | apply Kept.drewN | apply Kept.drew | refine Kept.setCell ?_ (.inr GW261.out) _ | refine Kept.setCell ?_ (.inr GW262.out) _) | exact HK.out)).1) hn_))))); replace HK := AM (Kept.then_ (S := (fun k_ => P0_1_ k_)) (by repeat (first | (with_reducible first | exact HK.out | apply Kept.alloc | apply Kept.drewN | apply Kept.drew | refine Kept.setCell ?_ (.inr GW261.out) _ | refine Kept.setCell ?_ (.inr GW262.out) _) | exact HK.out)) hkp (fun k_ hs_ => (fun e_ => (HO0_1.out.1 k_ e_.symm)) hs_)); replace HB := AM (hb); clear HO0_1; (try clear hb); (try clear hkp); (try clear ho0); have ⟨hcz9_0, hcz9_1, hfz9_0, hfz9_1⟩ := z2 BK262; obtain ⟨Ao10, co10, eo10⟩ := Kd.R_slice HO266.out; subst eo10))
 refine bodyPost_ret (results_cell_row rfl _ _ gb262 93 #[.bool t263, .slice Ao10 t264.length co10] (0, 0) _ rfl (by refine sB ?_; refine blk_put (cs := #[.bool t263, .slice none 0 0]) ?_ 1 _ rfl; refine sB ?_; refine blk_put (cs := #[.bool false, .slice none 0 0]) ?_ 0 _ rfl; refine sB ?_; exact BK262.out) Try.underlying93 rfl (by kernel_rfl)) rfl ?_
 exact ⟨_, by first | rfl | (simp [errW_none, errW_some] <;> rfl) | (simp [*, errW_none, errW_some] <;> rfl), by (with_reducible repeat (first | apply Kd.R_alloc | apply Kd.R_drewN | apply Kd.R_drew)); exact Kd.R_mono (Kd.R_far (p := ⟨gb262, 1, none⟩) (Kd.R_far (p := ⟨gb262, 0, none⟩) (Kd.R_types HO266.out BK262.out (by decide)) (fun _ hk => hk.2) (.bool t263)) (fun _ hk => hk.2) (.slice Ao10 t264.length co10)) (fun _ hk => hk.1), pH HB, by repeat (first | (with_reducible first | exact HK.out | apply Kept.alloc | apply Kept.drewN | apply Kept.drew | refine Kept.setCell ?_ (.inr GW261.out) _ | refine Kept.setCell ?_ (.inr GW262.out) _) | exact HK.out)⟩

/-! ### spec_l2neg: function 122 -/
def spec_l2neg.f (k : Nat) (a0_0 : Bool) (l0_1 : List Int) (a0_2 : Int) : Option (Bool × List Int × Int) := (spec_l1neg.f k a0_0 l0_1).bind fun bt269 => (some (bt269.1, bt269.2, a0_2))
theorem spec_l2neg.mono : ∀ a0 a1 a2 k, LeO (spec_l2neg.f k a0 a1 a2) (spec_l2neg.f (k + 1) a0 a1 a2) := by
 intro a0 a1 a2 k
 unfold spec_l2neg.f
 repeat' with_reducible first | exact spec_l1neg.mono _ _ _ | exact LeO.refl _ | exact LeO.none _ | refine LeO.ite ?_ ?_ | refine LeO.bind ?_ (fun _ => ?_)
set_option maxHeartbeats 8000000 in
set_option maxRecDepth 100000 in
theorem spec_l2neg.calls (k : Nat) (a0_0 : Bool) (P0_1_ : Nat → Prop) (u9000_ : Value) (l0_1 : List Int) (a0_2 : Int) (r1 : Bool) (r2 : List Int) (r3 : Int) (w0 w : World) (hB : Below w0.heap.size w0 w) (ho0_1 : Kd.R (Kd.int .i64) 3 w w0.heap.size P0_1_ u9000_ l0_1) (h : spec_l2neg.f k a0_0 l0_1 a0_2 = some (r1, r2, r3)) :
 Calls Try.prog 122 #[.agg #[.bool a0_0, u9000_, .int .i64 a0_2]] w fun e w' => ∃ v1_ : Value, e = .returned (.agg #[.bool r1, v1_, .int .i64 r3]) ∧ Kd.R (Kd.int .i64) 3 w' w0.heap.size (fun k_ => (P0_1_ k_ ∨ w.heap.size ≤ k_)) v1_ r2 ∧ Below w0.heap.size w0 w' ∧ Kept w w' (fun k_ => P0_1_ k_) := by
 have hu139 := Try.underlying139; have hu93 := Try.underlying93; have HO0_1 := AM (show Kd.R (Kd.int .i64) 3 w w0.heap.size (fun k_ => (P0_1_ k_ ∨ w.heap.size ≤ k_)) u9000_ l0_1 from Kd.R_mono ho0_1 (fun k_ hk => (.inl hk))); have HK := AM (Kept.refl w (fun k_ => P0_1_ k_)); have HW0 := AM hB.size; have HB := AM hB; clear hB
 have H : ((spec_l1neg.f k a0_0 l0_1).bind fun bt269 => (some (bt269.1, bt269.2, a0_2))) = some (r1, r2, r3) := h
 clear h
 replace H := Option.bind_eq_some_iff.mp H
 obtain ⟨⟨t269, t270⟩, A20, H⟩ := H
 (try dsimp only at H)
 have A2 := AM A20; clear A20
 simp only [Option.some.injEq, Prod.mk.injEq] at H
 obtain ⟨rfl, rfl, rfl⟩ := H
 obtain ⟨Ao3, co3, eo3⟩ := Kd.R_slice HO0_1.out
 subst eo3
 go_enter Try.func122, Try.ntmps122
 try go_wp2_with (first | ((with_reducible refine gate_dst (N := 1) rfl ?_); refine box_event ?hg (N := 1) ?hd (cs := #[.bool a0_0, .slice Ao3 l0_1.length co3, .int .i64 a0_2]) (t := 139) ?hr ?_; (case hd => rfl); (case hg => rfl); (case hr => first | (go_simp; done) | (go_simp; rfl)); intro gb267 hg w4 hbox hb; replace HO0_1 := AM (Kd.R_below (pR HO0_1) hb); have BK267 := AM (hbox); have GW267 := AM ((by rw [hg]; exact (by first | exact HK.out.1 | exact (show Kept w _ (fun k_ => P0_1_ k_) from by repeat (first | (with_reducible first | exact HK.out | apply Kept.alloc | apply Kept.drewN | apply Kept.drew) | exact HK.out)).1) : w.heap.size ≤ gb267)); replace HK := AM (Kept.below (S := (fun k_ => P0_1_ k_)) (by repeat (first | (with_reducible first | exact HK.out | apply Kept.alloc | apply Kept.drewN | apply Kept.drew) | exact HK.out)) hb); have GE267 := gH HB hg; replace HB := AM (below_step (pH HB) hb); clear hb hbox hg) | ((with_reducible refine gate_dst (N := 2) rfl ?_); refine box_event ?hg (N := 2) ?hd (cs := #[.bool false, .slice none 0 0, .int .i64 0]) (t := 139) ?hr ?_; (case hd => rfl); (case hg => rfl); (case hr => first | (go_simp; done) | (go_simp; rfl)); intro gb268 hg w5 hbox hb; replace HO0_1 := AM (Kd.R_below (pR HO0_1) hb); have BK268 := AM (hbox); have GW268 := AM ((by rw [hg]; exact (by first | exact HK.out.1 | exact (show Kept w _ (fun k_ => P0_1_ k_) from by repeat (first | (with_reducible first | exact HK.out | apply Kept.alloc | apply Kept.drewN | apply Kept.drew | refine Kept.setCell ?_ (.inr GW267.out) _) | exact HK.out)).1) : w.heap.size ≤ gb268)); replace HK := AM (Kept.below (S := (fun k_ => P0_1_ k_)) (by repeat (first | (with_reducible first | exact HK.out | apply Kept.alloc | apply Kept.drewN | apply Kept.drew | refine Kept.setCell ?_ (.inr GW267.out) _) | exact HK.out)) hb); have GE268 := gH HB hg; replace HB := AM (below_step (pH HB) hb); have NB267_268 := nL BK267 hg; have NB268_267 := nG BK267 hg; replace BK267 := bB BK267 hb; clear hb hbox hg))
 replace HO0_1 := AM (Kd.R_drew HO0_1.out); replace BK267 := AM (blk_drew BK267.out); replace BK268 := AM (blk_drew BK268.out); replace HK := AM (Kept.drew HK.out); replace HB := AM (below_drew1 HB.out)
 refine start_ (n := 7) (S := fun w' => w'.cell? ⟨gb267, 0, none⟩ = some (.bool a0_0) ∧ w'.cell? ⟨gb267, 1, none⟩ = some (.slice Ao3 l0_1.length co3) ∧ w'.cell? ⟨gb267, 2, none⟩ = some (.int .i64 a0_2)) (ds := []) #[false, false, false, false, false, false, false] (by kernel_rfl) rfl rfl ⟨(blk_cell BK267.out 0).trans rfl, (blk_cell BK267.out 1).trans rfl, (blk_cell BK267.out 2).trans rfl⟩ (fun hHeld => ?_)
 generalize w5.drew = w6 at HO0_1 BK267 BK268 HK HB hHeld ⊢
 refine pure_ (i := 0) (N := some 3) (v := ?_) (a' := ?_) #[true, false, false, false, false, false, false] rfl rfl (by kernel_rfl) (fun _ _ _ h => h) (Or.inl ⟨by rfl, ?_⟩) ?_ ?_
 rotate_left
 · intro w'
   go_simp
   with_reducible rfl
 rotate_left
 · simp only [Act.put, sa, sb, sc, i64_w, i32_w]
   rfl
 refine pure_ (i := 3) (N := some 6) (v := ?_) (a' := ?_) #[true, false, false, true, false, false, false] rfl rfl (by kernel_rfl) (fun _ _ _ h => h) (Or.inl ⟨by rfl, ?_⟩) ?_ ?_
 rotate_left
 · intro w'
   go_simp
   with_reducible rfl
 rotate_left
 · simp only [Act.put, sa, sb, sc, i64_w, i32_w]
   rfl
 refine take_ (i := 1) (N := some 4) (v := ?_) (a' := ?_) #[true, true, false, true, false, false, false] rfl rfl (by kernel_rfl) (fun _ _ _ h => h) (Or.inl ⟨by rfl, ?_⟩) hHeld ?_ ?_
 rotate_left
 · rintro w' ⟨s0, s1, s2⟩
   go_simp
   with_reducible rfl
 rotate_left
 · simp only [Act.put, sa, sb, sc, i64_w, i32_w]
   rfl
 refine take_ (i := 4) (N := some 7) (v := ?_) (a' := ?_) #[true, true, false, true, true, false, false] rfl rfl (by kernel_rfl) (fun _ _ _ h => h) (Or.inl ⟨by rfl, ?_⟩) hHeld ?_ ?_
 rotate_left
 · rintro w' ⟨s0, s1, s2⟩
   go_simp
   with_reducible rfl
 rotate_left
 · simp only [Act.put, sa, sb, sc, i64_w, i32_w]
   rfl
 refine one_ (i := 2) (N := some 5) #[true, true, true, true, true, false, false] rfl rfl (by kernel_rfl) (by decide) (fun K hK => ?_)
 refine goes_ Try.func151 (by kernel_rfl) rfl #[.agg #[.bool a0_0, .slice Ao3 l0_1.length co3]] (by rfl) rfl rfl (by (try simp only [List.map_toArray, List.map_cons, List.map_nil]); first | done | rfl | (simp only [List.length_drop, List.length_take]; rfl)) ?_
 with_reducible refine (spec_l1neg.calls k a0_0 (fun k_ => some k_ = (.slice Ao3 l0_1.length co3 : Value).ownBlock) (.slice Ao3 l0_1.length co3) l0_1 t269 t270 w0 _ ?side1 ?side2 A2.out).mono ?_
 (case side1 => exact pH HB)
 (case side2 => exact Kd.R_tight rfl HO0_1.out)
 rintro e w7 ⟨v271, rfl, ho0, hb, hkp⟩
 refine ⟨_, rfl, ?_⟩
 replace BK267 := AM (blk_kept (pB BK267) hkp (fun hs_ => (fun e_ => (Kd.R_ne HO0_1.out BK267.out (by decide)) e_) hs_)); replace BK268 := AM (blk_kept (pB BK268) hkp (fun hs_ => (fun e_ => (Kd.R_ne HO0_1.out BK268.out (by decide)) e_) hs_)); have HO272 := AM (Kd.R_mono (ok' := fun k_ => (P0_1_ k_ ∨ w.heap.size ≤ k_)) ho0 (fun k_ hk_ => Or.elim hk_ (fun hs_ => (HO0_1.out.1 k_ (hs_).symm)) (fun hn_ => (.inr (Nat.le_trans (by first | exact HK.out.1 | exact (show Kept w _ (fun k_ => P0_1_ k_) from by repeat (first | (with_reducible first | exact HK.out | apply Kept.alloc | apply Kept.drewN | apply Kept.drew | refine Kept.setCell ?_ (.inr GW267.out) _ | refine Kept.setCell ?_ (.inr GW268.out) _) | exact HK.out)).1) hn_))))); replace HK := AM (Kept.then_ (S := (fun k_ => P0_1_ k_)) (by repeat (first | (with_reducible first | exact HK.out | apply Kept.alloc | apply Kept.drewN | apply Kept.drew | refine Kept.setCell ?_ (.inr GW267.out) _ | refine Kept.setCell ?_ (.inr GW268.out) _) | exact HK.out)) hkp (fun k_ hs_ => (fun e_ => (HO0_1.out.1 k_ e_.symm)) hs_)); replace HB := AM (hb); clear HO0_1
 (try clear hb)
 (try clear hkp)
 (try clear ho0)
 obtain ⟨Ao8, co8, eo8⟩ := Kd.R_slice HO272.out
 (first | subst eo8 | (injection eo8 with f1_ f2_ f3_; have f4_ := f1_.symm; have f5_ := f3_.symm; clear f1_ f2_ f3_; subst f4_; subst f5_))
 refine hK.out _ _ ⟨(blk_cell BK267.out 0).trans rfl, (blk_cell BK267.out 1).trans rfl, (blk_cell BK267.out 2).trans rfl⟩ (fun hHeld => ?_)
 clear hK K
 refine norm_ (a' := ?_) ?_ ?_
 rotate_left
 · show Act.put _ (some 5) _ = _
   simp only [Act.put, sa, sb, sc, i64_w, i32_w]
   rfl
 refine pure_ (i := 5) (N := some 8) (v := ?_) (a' := ?_) #[true, true, true, true, true, true, false] rfl rfl (by kernel_rfl) (fun _ _ _ h => h) (Or.inl ⟨by rfl, ?_⟩) ?_ ?_
 rotate_left
 · intro w'
   go_simp
   with_reducible rfl
 rotate_left
 · simp only [Act.put, sa, sb, sc, i64_w, i32_w]
   rfl
 refine one_ (i := 6) (N := none) #[true, true, true, true, true, true, true] rfl rfl (by kernel_rfl) (by decide) (fun K hK => ?_)
 have hs9 : w7.cell? ⟨gb268, 0, none⟩ = some (.bool false) := (blk_cell BK268.out 0).trans rfl
 have hfs9 := blk_frozen BK268.out 0; have hns9_0 := NB267_268.out; have hms9_0 := NB268_267.out
 have hs10 : w7.cell? ⟨gb268, 1, none⟩ = some (.slice none 0 0) := (blk_cell BK268.out 1).trans rfl
 have hfs10 := blk_frozen BK268.out 1; have hns10_0 := NB267_268.out; have hms10_0 := NB268_267.out
 have hs11 : w7.cell? ⟨gb268, 2, none⟩ = some (.int .i64 0) := (blk_cell BK268.out 2).trans rfl
 have hfs11 := blk_frozen BK268.out 2; have hns11_0 := NB267_268.out; have hms11_0 := NB268_267.out
 refine skip_ (w1 := ?_) (by rfl) rfl ?_ ?_
 rotate_left
 · go_simp
   rfl
 refine hK.out _ _ ⟨((cell_far (p := ⟨gb268, _, none⟩) NB267_268.out _).trans (((cell_far (p := ⟨gb268, _, none⟩) NB267_268.out _).trans (((cell_far (p := ⟨gb268, _, none⟩) NB267_268.out _).trans (hHeld.1)))))), ((cell_far (p := ⟨gb268, _, none⟩) NB267_268.out _).trans (((cell_far (p := ⟨gb268, _, none⟩) NB267_268.out _).trans (((cell_far (p := ⟨gb268, _, none⟩) NB267_268.out _).trans (hHeld.2.1)))))), ((cell_far (p := ⟨gb268, _, none⟩) NB267_268.out _).trans (((cell_far (p := ⟨gb268, _, none⟩) NB267_268.out _).trans (((cell_far (p := ⟨gb268, _, none⟩) NB267_268.out _).trans (hHeld.2.2))))))⟩ (fun hHeld => ?_)
 clear hK K
 refine done_ (by kernel_rfl) ?_
 try go_wp2
 refine bodyPost_ret (results_cell_row rfl _ _ gb268 139 #[.bool t269, .slice Ao8 t270.length co8, .int .i64 a0_2] (0, 0) _ rfl (by refine sB ?_; refine blk_put (cs := #[.bool t269, .slice Ao8 t270.length co8, .int .i64 0]) ?_ 2 _ rfl; refine sB ?_; refine blk_put (cs := #[.bool t269, .slice none 0 0, .int .i64 0]) ?_ 1 _ rfl; refine sB ?_; refine blk_put (cs := #[.bool false, .slice none 0 0, .int .i64 0]) ?_ 0 _ rfl; refine sB ?_; exact BK268.out) Try.underlying139 rfl (by kernel_rfl)) rfl ?_
 exact ⟨_, by first | rfl | (simp [errW_none, errW_some] <;> rfl) | (simp [*, errW_none, errW_some] <;> rfl), by (with_reducible repeat (first | apply Kd.R_alloc | apply Kd.R_drewN | apply Kd.R_drew)); exact Kd.R_mono (Kd.R_far (p := ⟨gb268, 2, none⟩) (Kd.R_far (p := ⟨gb268, 1, none⟩) (Kd.R_far (p := ⟨gb268, 0, none⟩) (Kd.R_types HO272.out BK268.out (by decide)) (fun _ hk => hk.2) (.bool t269)) (fun _ hk => hk.2) (.slice Ao8 t270.length co8)) (fun _ hk => hk.2) (.int .i64 a0_2)) (fun _ hk => hk.1), pH HB, by repeat (first | (with_reducible first | exact HK.out | apply Kept.alloc | apply Kept.drewN | apply Kept.drew | refine Kept.setCell ?_ (.inr GW267.out) _ | refine Kept.setCell ?_ (.inr GW268.out) _) | exact HK.out)⟩

/-! ### spec_l1sign: function 123 -/
def spec_l1sign.f (a0_0 : Bool) (l0_1 : List Int) : Option (Int) := if (l0_1.length : Int) = 0 then (some 0) else (if a0_0 = true then (some (-1)) else (some 1))
set_option maxHeartbeats 8000000 in
set_option maxRecDepth 100000 in
theorem spec_l1sign.calls (a0_0 : Bool) (A0_1 : Option Addr) (c0_1 : Nat) (l0_1 : List Int) (r : Int) (w : World) (hr0_1 : Kd.C (Kd.int .i64) w A0_1 l0_1.length l0_1) (hc0_1 : l0_1.length ≤ c0_1) (h : spec_l1sign.f a0_0 l0_1 = some r) :
 Calls Try.prog 123 #[.agg #[.bool a0_0, .slice A0_1 l0_1.length c0_1]] w fun e w' => e = .returned (.int .i64 r) ∧ Below w.heap.size w w' := by
 have hu93 := Try.underlying93; have HR0_1 := AM hr0_1; have HC0_1 := AM hc0_1; clear hr0_1 hc0_1; have HB := AM (Below.refl w.heap.size w)
 have H : (if (l0_1.length : Int) = 0 then (some 0) else (if a0_0 = true then (some (-1)) else (some 1))) = some r := h
 clear h
 by_cases c2 : (l0_1.length : Int) = 0
 · rw [if_pos c2] at H
   have c2b0 : ((l0_1.length : Int) == 0) = true := beq_iff_eq.mpr c2
   have c2b1 : ((l0_1.length : Int) != 0) = false := bne_eq_false_iff_eq.mpr c2
   clear c2
   obtain rfl := Option.some.inj H
   go_enter Try.func123, Try.ntmps123
   go_wp2_with (first | ((with_reducible refine gate_dst (N := 1) rfl ?_); refine box_event ?hg (N := 1) ?hd (cs := #[.bool a0_0, .slice A0_1 l0_1.length c0_1]) (t := 93) ?hr ?_; (case hd => rfl); (case hg => rfl); (case hr => first | (go_simp; done) | (go_simp; rfl)); intro gb273 hg w3 hbox hb; have BK273 := AM (hbox); have GW273 := gH HB hg; have GE273 := gH HB hg; replace HB := AM (below_step (pH HB) hb); clear hb hbox hg; have ⟨hcz4_0, hcz4_1, hfz4_0, hfz4_1⟩ := z2 BK273))
   go_ret
   exact ⟨by first | rfl | (simp [errW_none, errW_some] <;> rfl) | (simp [*, errW_none, errW_some] <;> rfl), pH HB⟩
 rw [if_neg c2] at H
 have c2b0 : ((l0_1.length : Int) == 0) = false := beq_eq_false_iff_ne.mpr c2
 have c2b1 : ((l0_1.length : Int) != 0) = true := bne_iff_ne.mpr c2
 have c2b2 : ¬ (l0_1 = []) := fun h_ => c2 (by rw [h_]; rfl)
 by_cases c5 : a0_0 = true
 · subst c5
   have H1 : (some (-1)) = some r := by rw [if_pos rfl] at H; exact H
   clear H; have H := H1; clear H1
   obtain rfl := Option.some.inj H
   go_enter Try.func123, Try.ntmps123
   go_wp2_with (first | ((with_reducible refine gate_dst (N := 1) rfl ?_); refine box_event ?hg (N := 1) ?hd (cs := #[.bool true, .slice A0_1 l0_1.length c0_1]) (t := 93) ?hr ?_; (case hd => rfl); (case hg => rfl); (case hr => first | (go_simp; done) | (go_simp; rfl)); intro gb273 hg w6 hbox hb; have BK273 := AM (hbox); have GW273 := gH HB hg; have GE273 := gH HB hg; replace HB := AM (below_step (pH HB) hb); clear hb hbox hg; have ⟨hcz7_0, hcz7_1, hfz7_0, hfz7_1⟩ := z2 BK273))
   go_ret
   exact ⟨by first | rfl | (simp [errW_none, errW_some] <;> rfl) | (simp [*, errW_none, errW_some] <;> rfl), pH HB⟩
 replace c5 := Bool.eq_false_iff.mpr c5
 subst c5
 have H1 : (some 1) = some r := by rw [if_neg (show ¬ (false = true) by decide)] at H; exact H
 clear H; have H := H1; clear H1
 obtain rfl := Option.some.inj H
 go_enter Try.func123, Try.ntmps123
 go_wp2_with (first | ((with_reducible refine gate_dst (N := 1) rfl ?_); refine box_event ?hg (N := 1) ?hd (cs := #[.bool false, .slice A0_1 l0_1.length c0_1]) (t := 93) ?hr ?_; (case hd => rfl); (case hg => rfl); (case hr => first | (go_simp; done) | (go_simp; rfl)); intro gb273 hg w8 hbox hb; have BK273 := AM (hbox); have GW273 := gH HB hg; have GE273 := gH HB hg; replace HB := AM (below_step (pH HB) hb); clear hb hbox hg; have ⟨hcz9_0, hcz9_1, hfz9_0, hfz9_1⟩ := z2 BK273))
 go_ret
 exact ⟨by first | rfl | (simp [errW_none, errW_some] <;> rfl) | (simp [*, errW_none, errW_some] <;> rfl), pH HB⟩

/-! ### spec_l3order: function 78 -/
def spec_l3order.f (k : Nat) (a0 : Int) (a1 : Int) : Option (Int) := (spec_l2float.f k a0).bind fun bt274 => ((spec_l2float.f k a1).bind fun bt279 => ((spec_l2neg.f k bt279.1 bt279.2.1 bt279.2.2).bind fun bt284 => ((spec_l2add.f k bt274.1 bt274.2.1 bt274.2.2 bt284.1 bt284.2.1 bt284.2.2).bind fun bt289 => ((spec_l1sign.f bt289.1 bt289.2.1).bind fun t295 => (some t295)))))
theorem spec_l3order.mono : ∀ a0 a1 k, LeO (spec_l3order.f k a0 a1) (spec_l3order.f (k + 1) a0 a1) := by
 intro a0 a1 k
 unfold spec_l3order.f
 repeat' with_reducible first | exact spec_l2add.mono _ _ _ _ _ _ _ | exact spec_l2float.mono _ _ | exact spec_l2neg.mono _ _ _ _ | exact LeO.refl _ | exact LeO.none _ | refine LeO.ite ?_ ?_ | refine LeO.bind ?_ (fun _ => ?_)
set_option maxHeartbeats 8000000 in
set_option maxRecDepth 100000 in
theorem spec_l3order.calls (k : Nat) (a0 : Int) (a1 : Int) (r : Int) (w : World) (h : spec_l3order.f k a0 a1 = some r) :
 Calls Try.prog 78 #[.int .u32 a0, .int .u32 a1] w fun e w' => e = .returned (.int .i64 r) ∧ Below w.heap.size w w' := by
 have hu139 := Try.underlying139; have hu93 := Try.underlying93; have HB := AM (Below.refl w.heap.size w)
 have H : ((spec_l2float.f k a0).bind fun bt274 => ((spec_l2float.f k a1).bind fun bt279 => ((spec_l2neg.f k bt279.1 bt279.2.1 bt279.2.2).bind fun bt284 => ((spec_l2add.f k bt274.1 bt274.2.1 bt274.2.2 bt284.1 bt284.2.1 bt284.2.2).bind fun bt289 => ((spec_l1sign.f bt289.1 bt289.2.1).bind fun t295 => (some t295)))))) = some r := h
 clear h
 replace H := Option.bind_eq_some_iff.mp H
 obtain ⟨⟨t274, t275, t278⟩, A30, H⟩ := H
 (try dsimp only at H)
 have A3 := AM A30; clear A30
 replace H := Option.bind_eq_some_iff.mp H
 obtain ⟨⟨t279, t280, t283⟩, A40, H⟩ := H
 (try dsimp only at H)
 have A4 := AM A40; clear A40
 replace H := Option.bind_eq_some_iff.mp H
 obtain ⟨⟨t284, t285, t288⟩, A50, H⟩ := H
 (try dsimp only at H)
 have A5 := AM A50; clear A50
 replace H := Option.bind_eq_some_iff.mp H
 obtain ⟨⟨t289, t290, t293⟩, A60, H⟩ := H
 (try dsimp only at H)
 have A6 := AM A60; clear A60
 replace H := Option.bind_eq_some_iff.mp H
 obtain ⟨t295, A70, H⟩ := H
 (try dsimp only at H)
 have A7 := AM A70; clear A70
 obtain rfl := Option.some.inj H
 go_enter Try.func78, Try.ntmps78
 go_wp2_with (first | ((with_reducible refine gate_callee (f := 108) rfl ?_); refine goesL_ (some 7) rfl rfl Try.func108 (by kernel_rfl) rfl #[.int .u32 a0] rfl (by (try simp only [List.map_toArray, List.map_cons, List.map_nil]); first | done | rfl | (simp only [List.length_drop, List.length_take]; rfl)) ?_; (with_reducible refine (spec_l2float.calls k a0 t274 t275 t278 _ A3.out).mono ?_); rintro e w8 ⟨v276, rfl, ho0, hb⟩; refine ⟨_, rfl, ?_⟩; have HO277 := AM (Kd.R_lower ho0 (below_size (pH HB))); replace HB := AM (below_step (pH HB) hb); (try clear hb); (try clear hb2); (try clear hk); (try clear hi); (try clear ho0)) | ((with_reducible refine gate_callee (f := 108) rfl ?_); refine goesL_ (some 9) rfl rfl Try.func108 (by kernel_rfl) rfl #[.int .u32 a1] rfl (by (try simp only [List.map_toArray, List.map_cons, List.map_nil]); first | done | rfl | (simp only [List.length_drop, List.length_take]; rfl)) ?_; (with_reducible refine (spec_l2float.calls k a1 t279 t280 t283 _ A4.out).mono ?_); rintro e w9 ⟨v281, rfl, ho0, hb⟩; refine ⟨_, rfl, ?_⟩; have HO282 := AM (Kd.R_lower (Kd.R_new' ho0 (Kd.R_lt (pR HO277))) (below_size (pH HB))); replace HO277 := AM (Kd.R_elder' (pR HO277) (Kd.R_base ho0) hb); replace HB := AM (below_step (pH HB) hb); (try clear hb); (try clear hb2); (try clear hk); (try clear hi); (try clear ho0); obtain ⟨Ao10, co10, eo10⟩ := Kd.R_slice HO282.out; subst eo10) | ((with_reducible refine gate_callee (f := 122) rfl ?_); refine goesL_ (some 10) rfl rfl Try.func122 (by kernel_rfl) rfl #[.agg #[.bool t279, .slice Ao10 t280.length co10, .int .i64 t283]] rfl (by (try simp only [List.map_toArray, List.map_cons, List.map_nil]); first | done | rfl | (simp only [List.length_drop, List.length_take]; rfl)) ?_; (with_reducible refine (spec_l2neg.calls k t279 (fun k_ => some k_ = (.slice Ao10 t280.length co10 : Value).ownBlock) (.slice Ao10 t280.length co10) t280 t283 t284 t285 t288 w _ ?side1 ?side2 A5.out).mono ?_); (case side1 => exact pH HB); (case side2 => exact Kd.R_tight rfl HO282.out); rintro e w11 ⟨v286, rfl, ho0, hb, hkp⟩; refine ⟨_, rfl, ?_⟩; have HO287 := AM (Kd.R_mono (ok' := fun k_ => some k_ ≠ (v276 : Value).ownBlock) ho0 (fun k_ hk_ => Or.elim hk_ (fun hs_ => fun e_ => (((HO277.out).1 k_ e_.symm).2) hs_) (fun hn_ => (Kd.fresh' (Kd.R_lt (pR HO277)) k_ hn_)))); replace HO277 := AM (Kd.R_mono (ok' := fun k_ => some k_ ≠ (v286 : Value).ownBlock) (Kd.R_keptB (HO277.out) hkp (fun k_ hk_ hs_ => (hk_.2) hs_)) (fun k_ hk_ => fun e_ => Or.elim (ho0.1 k_ e_.symm) (fun hs_ => hk_.2.1 hs_) (fun hn_ => Nat.not_le.2 hk_.2.2 hn_))); replace HB := AM (hb); clear HO282; (try clear hb); (try clear hkp); (try clear ho0); obtain ⟨Ao12, co12, eo12⟩ := Kd.R_slice HO277.out; subst eo12; obtain ⟨Ao13, co13, eo13⟩ := Kd.R_slice HO287.out; subst eo13) | ((with_reducible refine gate_callee (f := 121) rfl ?_); refine goesL_ (some 11) rfl rfl Try.func121 (by kernel_rfl) rfl #[.agg #[.bool t274, .slice Ao12 t275.length co12, .int .i64 t278], .agg #[.bool t284, .slice Ao13 t285.length co13, .int .i64 t288]] rfl (by (try simp only [List.map_toArray, List.map_cons, List.map_nil]); first | done | rfl | (simp only [List.length_drop, List.length_take]; rfl)) ?_; (with_reducible refine (spec_l2add.calls k t274 (fun k_ => some k_ = (.slice Ao12 t275.length co12 : Value).ownBlock) (.slice Ao12 t275.length co12) t275 t278 t284 (fun k_ => some k_ = (.slice Ao13 t285.length co13 : Value).ownBlock) (.slice Ao13 t285.length co13) t285 t288 t289 t290 t293 w _ ?side1 ?side2 ?side3 ?side4 ?side5 A6.out).mono ?_); (case side1 => exact pH HB); (case side2 => exact Kd.R_tight rfl HO277.out); (case side3 => exact fun k_ e_ => (HO277.out.1 k_ e_.symm)); (case side4 => exact Kd.R_tight rfl HO287.out); (case side5 => exact fun k_ e_ => (HO287.out.1 k_ e_.symm)); rintro e w14 ⟨v291, rfl, ho0, hb, hkp⟩; refine ⟨_, rfl, ?_⟩; have HO292 := AM (Kd.R_mono (ok' := fun k_ => True) ho0 (fun k_ hk_ => trivial)); replace HB := AM (hb); clear HO277 HO287; (try clear hb); (try clear hkp); (try clear ho0)) | ((with_reducible refine gate_dst (N := 5) rfl ?_); refine box_event ?hg (N := 5) ?hd (cs := #[.bool false, .slice none 0 0, .int .i64 0]) (t := 139) ?hr ?_; (case hd => rfl); (case hg => rfl); (case hr => first | (go_simp; done) | (go_simp; rfl)); intro gb294 hg w15 hbox hb; replace HO292 := AM (Kd.R_below (pR HO292) hb); have BK294 := AM (hbox); have GW294 := gH HB hg; have GE294 := gH HB hg; replace HB := AM (below_step (pH HB) hb); clear hb hbox hg; have ⟨hcz16_0, hcz16_1, hcz16_2, hfz16_0, hfz16_1, hfz16_2⟩ := z3 BK294; obtain ⟨Ao17, co17, eo17⟩ := Kd.R_slice HO292.out; subst eo17) | ((with_reducible refine gate_callee (f := 123) rfl ?_); refine goesL_ (some 14) rfl rfl Try.func123 (by kernel_rfl) rfl #[.agg #[.bool t289, .slice Ao17 t290.length co17]] rfl (by (try simp only [List.map_toArray, List.map_cons, List.map_nil]); first | done | rfl | (simp only [List.length_drop, List.length_take]; rfl)) ?_; (with_reducible refine (spec_l1sign.calls t289 _ _ t290 t295 _ ?side1 ?side2 A7.out).mono ?_); (case side1 => refine (Kd.R_reads' (e := 3) (base := w.heap.size) (ok := fun k_ => True) (n := t290.length) (c := co17) ?_).2.2; exact (by (with_reducible repeat (first | apply Kd.R_alloc | apply Kd.R_drewN | apply Kd.R_drew)); exact (Kd.R_mono (Kd.R_far (p := ⟨gb294, 2, none⟩) (Kd.R_far (p := ⟨gb294, 1, none⟩) (Kd.R_far (p := ⟨gb294, 0, none⟩) (Kd.R_types HO292.out BK294.out (by decide)) (fun _ hk => hk.2) (.bool t289)) (fun _ hk => hk.2) (.slice Ao17 t290.length co17)) (fun _ hk => hk.2) (.int .i64 t293)) (fun _ h_ => h_.1)))); (case side2 => exact (Kd.R_reads' HO292.out).2.1); rintro e w18 ⟨rfl, hb⟩; refine ⟨_, rfl, ?_⟩; replace HO292 := AM (Kd.R_below (by (with_reducible repeat (first | apply Kd.R_alloc | apply Kd.R_drewN | apply Kd.R_drew)); exact (Kd.R_mono (Kd.R_far (p := ⟨gb294, 2, none⟩) (Kd.R_far (p := ⟨gb294, 1, none⟩) (Kd.R_far (p := ⟨gb294, 0, none⟩) (Kd.R_types HO292.out BK294.out (by decide)) (fun _ hk => hk.2) (.bool t289)) (fun _ hk => hk.2) (.slice Ao17 t290.length co17)) (fun _ hk => hk.2) (.int .i64 t293)) (fun _ h_ => h_.1))) hb); replace BK294 := AM (blk_below (g := gb294) (o := .cells #[.bool t289, .slice Ao17 t290.length co17, .int .i64 t293] 139 (0, 0)) (by refine sB ?_; refine blk_put (cs := #[.bool t289, .slice Ao17 t290.length co17, .int .i64 0]) ?_ 2 _ rfl; refine sB ?_; refine blk_put (cs := #[.bool t289, .slice none 0 0, .int .i64 0]) ?_ 1 _ rfl; refine sB ?_; refine blk_put (cs := #[.bool false, .slice none 0 0, .int .i64 0]) ?_ 0 _ rfl; refine sB ?_; exact BK294.out) hb); replace HB := AM (below_step (pH HB) hb); (try clear hb); (try clear hb2); (try clear hk); (try clear hi)))
 go_ret
 exact ⟨by first | rfl | (simp [errW_none, errW_some] <;> rfl) | (simp [*, errW_none, errW_some] <;> rfl), pH HB⟩

/-! ### spec_FloatOrder: function 31 -/
def spec_FloatOrder.f (k : Nat) (a0 : Int) (a1 : Int) : Option (Int × Int) := (spec_l2finite.f a0).bind fun t296 => (if t296 = true then ((spec_l2finite.f a1).bind fun t297 => (if t297 = true then ((spec_l3order.f k a0 a1).bind fun t298 => (some (t298, 0))) else (some (0, 1)))) else (some (0, 1)))
theorem spec_FloatOrder.mono : ∀ a0 a1 k, LeO (spec_FloatOrder.f k a0 a1) (spec_FloatOrder.f (k + 1) a0 a1) := by
 intro a0 a1 k
 unfold spec_FloatOrder.f
 repeat' with_reducible first | exact spec_l3order.mono _ _ _ | exact LeO.refl _ | exact LeO.none _ | refine LeO.ite ?_ ?_ | refine LeO.bind ?_ (fun _ => ?_)
set_option maxHeartbeats 8000000 in
set_option maxRecDepth 100000 in
theorem spec_FloatOrder.calls (k : Nat) (a0 : Int) (a1 : Int) (r1 : Int) (r2 : Int) (w : World) (h : spec_FloatOrder.f k a0 a1 = some (r1, r2)) :
 Calls Try.prog 31 #[.int .u32 a0, .int .u32 a1] w fun e w' => e = .returned (.tuple #[.int .i64 r1, .int .i64 r2]) ∧ Below w.heap.size w w' := by
 have HB := AM (Below.refl w.heap.size w)
 have H : ((spec_l2finite.f a0).bind fun t296 => (if t296 = true then ((spec_l2finite.f a1).bind fun t297 => (if t297 = true then ((spec_l3order.f k a0 a1).bind fun t298 => (some (t298, 0))) else (some (0, 1)))) else (some (0, 1)))) = some (r1, r2) := h
 clear h
 replace H := Option.bind_eq_some_iff.mp H
 obtain ⟨t296, A30, H⟩ := H
 (try dsimp only at H)
 have A3 := AM A30; clear A30
 by_cases c4 : t296 = true
 rotate_left
 · replace c4 := Bool.eq_false_iff.mpr c4
   subst c4
   have H1 : (some (0, 1)) = some (r1, r2) := by rw [if_neg (show ¬ (false = true) by decide)] at H; exact H
   clear H; have H := H1; clear H1
   simp only [Option.some.injEq, Prod.mk.injEq] at H
   obtain ⟨rfl, rfl⟩ := H
   go_enter Try.func31, Try.ntmps31
   go_wp2_with (first | ((with_reducible refine gate_callee (f := 77) rfl ?_); refine goesL_ (some 7) rfl rfl Try.func77 (by kernel_rfl) rfl #[.int .u32 a0] rfl (by (try simp only [List.map_toArray, List.map_cons, List.map_nil]); first | done | rfl | (simp only [List.length_drop, List.length_take]; rfl)) ?_; (with_reducible refine (spec_l2finite.calls a0 false _ A3.out).mono ?_); rintro e w' ⟨rfl, ⟨nd, rfl⟩⟩; refine ⟨_, rfl, ?_⟩))
   go_ret2
   exact ⟨by first | rfl | (simp [errW_none, errW_some] <;> rfl) | (simp [*, errW_none, errW_some] <;> rfl), pH HB⟩

 subst c4
 have H1 : ((spec_l2finite.f a1).bind fun t297 => (if t297 = true then ((spec_l3order.f k a0 a1).bind fun t298 => (some (t298, 0))) else (some (0, 1)))) = some (r1, r2) := by rw [if_pos rfl] at H; exact H
 clear H; have H := H1; clear H1
 replace H := Option.bind_eq_some_iff.mp H
 obtain ⟨t297, A50, H⟩ := H
 (try dsimp only at H)
 have A5 := AM A50; clear A50
 by_cases c6 : t297 = true
 rotate_left
 · replace c6 := Bool.eq_false_iff.mpr c6
   subst c6
   have H1 : (some (0, 1)) = some (r1, r2) := by rw [if_neg (show ¬ (false = true) by decide)] at H; exact H
   clear H; have H := H1; clear H1
   simp only [Option.some.injEq, Prod.mk.injEq] at H
   obtain ⟨rfl, rfl⟩ := H
   go_enter Try.func31, Try.ntmps31
   go_wp2_with (first | ((with_reducible refine gate_callee (f := 77) rfl ?_); refine goesL_ (some 7) rfl rfl Try.func77 (by kernel_rfl) rfl #[.int .u32 a0] rfl (by (try simp only [List.map_toArray, List.map_cons, List.map_nil]); first | done | rfl | (simp only [List.length_drop, List.length_take]; rfl)) ?_; (with_reducible refine (spec_l2finite.calls a0 true _ A3.out).mono ?_); rintro e w' ⟨rfl, ⟨nd, rfl⟩⟩; refine ⟨_, rfl, ?_⟩) | (go_at_call 77; (with_reducible refine (spec_l2finite.calls a1 false _ A5.out).mono ?_); rintro e w' ⟨rfl, ⟨nd, rfl⟩⟩))
   go_ret2
   exact ⟨by first | rfl | (simp [errW_none, errW_some] <;> rfl) | (simp [*, errW_none, errW_some] <;> rfl), pH HB⟩
 subst c6
 have H1 : ((spec_l3order.f k a0 a1).bind fun t298 => (some (t298, 0))) = some (r1, r2) := by rw [if_pos rfl] at H; exact H
 clear H; have H := H1; clear H1
 replace H := Option.bind_eq_some_iff.mp H
 obtain ⟨t298, A70, H⟩ := H
 (try dsimp only at H)
 have A7 := AM A70; clear A70
 simp only [Option.some.injEq, Prod.mk.injEq] at H
 obtain ⟨rfl, rfl⟩ := H
 go_enter Try.func31, Try.ntmps31
 go_wp2_with (first | ((with_reducible refine gate_callee (f := 77) rfl ?_); refine goesL_ (some 7) rfl rfl Try.func77 (by kernel_rfl) rfl #[.int .u32 a0] rfl (by (try simp only [List.map_toArray, List.map_cons, List.map_nil]); first | done | rfl | (simp only [List.length_drop, List.length_take]; rfl)) ?_; (with_reducible refine (spec_l2finite.calls a0 true _ A3.out).mono ?_); rintro e w' ⟨rfl, ⟨nd, rfl⟩⟩; refine ⟨_, rfl, ?_⟩) | (go_at_call 77; (with_reducible refine (spec_l2finite.calls a1 true _ A5.out).mono ?_); rintro e w' ⟨rfl, ⟨nd, rfl⟩⟩) | ((with_reducible refine gate_callee (f := 78) rfl ?_); refine goesL_ (some 16) rfl rfl Try.func78 (by kernel_rfl) rfl #[.int .u32 a0, .int .u32 a1] rfl (by (try simp only [List.map_toArray, List.map_cons, List.map_nil]); first | done | rfl | (simp only [List.length_drop, List.length_take]; rfl)) ?_; (with_reducible refine (spec_l3order.calls k a0 a1 t298 _ A7.out).mono ?_); rintro e w8 ⟨rfl, hb⟩; refine ⟨_, rfl, ?_⟩; replace HB := AM (below_step (pH HB) hb); (try clear hb); (try clear hb2); (try clear hk); (try clear hi)))
 go_ret2
 exact ⟨by first | rfl | (simp [errW_none, errW_some] <;> rfl) | (simp [*, errW_none, errW_some] <;> rfl), pH HB⟩
/-! ### impl_finite: function 79 -/
set_option maxRecDepth 100000 in
theorem run_f32 (x : Int) (w : World) : (callFunc 124 #[.int .u32 x]).run Try.prog w = .ok (.value (.float .f32 x.toNat)) w := by
  rw [run_callFunc_extern (e := Extern.MathFloatBits.float32frombits) Try.func124 (by kernel_rfl) (by kernel_rfl) (by kernel_rfl) (by kernel_rfl)]
  rfl
set_option maxRecDepth 100000 in
theorem run_b64 (b : Nat) (w : World) : (callFunc 166 #[.float .f64 b]).run Try.prog w = .ok (.value (.int .u64 b)) w := by
  rw [run_callFunc_extern (e := Extern.MathFloatBits.float64bits) Try.func166 (by kernel_rfl) (by kernel_rfl) (by kernel_rfl) (by kernel_rfl)]
  rfl
set_option maxRecDepth 100000 in
theorem run_f64 (x : Int) (w : World) : (callFunc 165 #[.int .u64 x]).run Try.prog w = .ok (.value (.float .f64 x.toNat)) w := by
  rw [run_callFunc_extern (e := Extern.MathFloatBits.float64frombits) Try.func165 (by kernel_rfl) (by kernel_rfl) (by kernel_rfl) (by kernel_rfl)]
  rfl
set_option maxRecDepth 100000 in
theorem finite_calls (x : Int) (b : Nat) (r : Bool) (w w1 : World) (hc : (convert 166 165 (.float .f32 x.toNat)).run Try.prog w = .ok (.float .f64 b) w1) (hw : Drawn0 w w1)
    (hr : r = ((!(FloatKind.f64.format.order (bits .andNot .u64 b 9223372036854775808).toNat 9218868437227405311 == some .gt)) && (!(FloatKind.f64.format.order b b != some .eq)))) :
    Calls Try.prog 79 #[.int .u32 x] w fun e w' => e = .returned (.bool r) ∧ Drawn0 w w' := by
  obtain ⟨n1, rfl⟩ := hw
  have h1 := run_f32 x
  have h2 := run_b64 b
  have h3 := run_f64 (bits .andNot .u64 b 9223372036854775808)
  cases h4 : (FloatKind.f64.format.order (bits .andNot .u64 b 9223372036854775808).toNat 9218868437227405311 == some .gt) with
  | true =>
    rw [h4] at hr
    subst hr
    go_enter Try.func79, Try.ntmps79
    go_wp2
    go_ret
    exact ⟨rfl, by repeat (first | exact Drawn0.refl _ | apply Drawn0.step)⟩
  | false =>
    rw [h4] at hr
    subst hr
    go_enter Try.func79, Try.ntmps79
    go_wp2
    go_ret
    exact ⟨rfl, by repeat (first | exact Drawn0.refl _ | apply Drawn0.step)⟩
theorem fl_and (b : Nat) (hb : b < 18446744073709551616) : (bits .andNot .u64 (b : Int) 9223372036854775808).toNat = b % 9223372036854775808 := by
  show (IntKind.u64.wrap (((BitVec.ofInt 64 ((b : Nat) : Int) &&& ~~~ (BitVec.ofInt 64 ((9223372036854775808 : Nat) : Int))).toNat : Nat) : Int)).toNat = _
  have e : (~~~ (BitVec.ofInt 64 ((9223372036854775808 : Nat) : Int))).toNat = 2 ^ 63 - 1 := by decide
  rw [BitVec.toNat_and, e, Nat.and_two_pow_sub_one_eq_mod, BitVec.ofInt_natCast, BitVec.toNat_ofNat, Nat.mod_eq_of_lt (a := b) (by omega)]
  have h : ∀ z : Int, IntKind.u64.wrap z = z % 18446744073709551616 := fun z => by simp [IntKind.wrap, IntKind.bits, IntKind.signed]
  rw [h]
  omega
theorem fl_nearest (neg : Bool) (mag : Nat) (place : Int) (hm : mag < 16777216) (h0 : -149 ≤ place) (h1 : place ≤ 104) : ∃ rung, rung ≤ 9218868437227405311 ∧ Ieee.double.nearest neg mag place = Ieee.double.word neg rung := by
  unfold Ieee.Format.nearest
  by_cases hz : mag = 0
  · rw [if_pos hz]
    exact ⟨0, by omega, rfl⟩
  · rw [if_neg hz]
    have hlog : mag.log2 < 24 := (Nat.log2_lt hz).2 (by omega)
    have hup : mag < 2 ^ (mag.log2 + 1) := Nat.lt_log2_self
    have e1 : Ieee.double.leastPlace = -1074 := by decide
    have e2 : (Ieee.double.fractionBits : Int) = 52 := by decide
    have e3 : Ieee.double.binade = 4503599627370496 := by decide
    have e4 : Ieee.double.infRung = 9218868437227405312 := by decide
    dsimp only
    rw [e1, e2, e3, e4, Int.max_eq_left (by omega)]
    have e5 : (place - (place + (mag.log2 : Int) - 52)).toNat = 52 - mag.log2 := by omega
    have e6 : (place + (mag.log2 : Int) - 52 - place).toNat = 0 := by omega
    rw [e5, e6]
    have hk : mag <<< (52 - mag.log2) < 2 ^ 53 := by
      rw [Nat.shiftLeft_eq]
      have : 2 ^ (mag.log2 + 1) * 2 ^ (52 - mag.log2) = 2 ^ 53 := by rw [← Nat.pow_add]; congr 1; omega
      rw [← this]
      exact Nat.mul_lt_mul_of_pos_right hup (Nat.two_pow_pos _)
    have hc : Ieee.Toward.even.cut neg (mag <<< (52 - mag.log2)) 0 = mag <<< (52 - mag.log2) := by
      generalize mag <<< (52 - mag.log2) = n
      simp [Ieee.Toward.cut, Nat.mod_one]
    rw [hc]
    have hk2 : mag <<< (52 - mag.log2) ≤ 9007199254740991 := by
      rw [show (2 : Nat) ^ 53 = 9007199254740992 from by kernel_rfl] at hk
      generalize mag <<< (52 - mag.log2) = n at hk ⊢
      clear hup hlog hz e1 e2 e3 e4 e5 e6 hc
      omega
    clear hk hc
    generalize mag <<< (52 - mag.log2) = n at hk2 ⊢
    have hq : (place + (mag.log2 : Int) - 52 - -1074).toNat ≤ 1149 := by omega
    generalize (place + (mag.log2 : Int) - 52 - -1074).toNat = q at hq ⊢
    clear hup hlog hz e1 e2 e3 e4 e5 e6
    refine ⟨_, Nat.le_trans (Nat.min_le_left _ _) ?_, rfl⟩
    omega
theorem fl_word (neg : Bool) (rung : Nat) : Ieee.double.word neg rung = if neg then 9223372036854775808 + rung else rung := by
  have : Ieee.double.signWeight = 9223372036854775808 := by decide
  unfold Ieee.Format.word
  rw [this]
theorem fl_read (w : Nat) : Ieee.double.read w = (if w % 9223372036854775808 < 4503599627370496 then .number (w / 9223372036854775808 % 2 == 1) (w % 9223372036854775808) (-1074)
    else if w % 9223372036854775808 < 9218868437227405312 then .number (w / 9223372036854775808 % 2 == 1) (4503599627370496 + w % 9223372036854775808 % 4503599627370496) (-1074 + ((w % 9223372036854775808 / 4503599627370496 - 1 : Nat) : Int))
    else if w % 9223372036854775808 = 9218868437227405312 then .infinity (w / 9223372036854775808 % 2 == 1) else .nan (w / 9223372036854775808 % 2 == 1) (w % 9223372036854775808 - 9218868437227405312)) := by
  have e0 : Ieee.double.signWeight = 9223372036854775808 := by decide
  have e1 : Ieee.double.leastPlace = -1074 := by decide
  have e3 : Ieee.double.binade = 4503599627370496 := by decide
  have e4 : Ieee.double.infRung = 9218868437227405312 := by decide
  unfold Ieee.Format.read
  rw [e0, e1, e3, e4]
theorem fl_max : Ieee.double.read 9218868437227405311 = .number false 9007199254740991 971 := by rw [fl_read]; decide
theorem fl_small (rung : Nat) (h : rung ≤ 9218868437227405311) : ∃ m i, Ieee.double.read rung = .number false m i ∧ m ≤ 9007199254740991 ∧ i ≤ 971 := by
  rw [fl_read, Nat.mod_eq_of_lt (by omega), Nat.div_eq_of_lt (by omega)]
  split
  · exact ⟨_, _, rfl, by omega, by omega⟩
  · rw [if_pos (by omega)]
    exact ⟨_, _, rfl, by omega, by omega⟩
theorem fl_gt (rung : Nat) (h : rung ≤ 9218868437227405311) : (Ieee.double.order rung 9218868437227405311 == some .gt) = false := by
  obtain ⟨m, i, h1, h2, h3⟩ := fl_small rung h
  unfold Ieee.Format.order
  rw [h1, fl_max]
  simp only [Ieee.Datum.order]
  rw [Int.min_eq_left h3]
  have : Ieee.signed false m (i - i).toNat ≤ Ieee.signed false 9007199254740991 (971 - i).toNat := by
    simp only [Ieee.signed, Int.sub_self, Int.toNat_zero, Nat.shiftLeft_zero, Bool.false_eq_true, if_false]
    rw [Nat.shiftLeft_eq]
    have := Nat.two_pow_pos (971 - i).toNat
    have : 9007199254740991 * 1 ≤ 9007199254740991 * 2 ^ (971 - i).toNat := Nat.mul_le_mul_left _ this
    omega
  generalize Ieee.signed false m (i - i).toNat = a at this
  generalize Ieee.signed false 9007199254740991 (971 - i).toNat = c at this
  have : compare a c ≠ .gt := by
    rw [Ne, Int.compare_eq_gt]
    omega
  generalize compare a c = o at this ⊢
  cases o <;> simp_all
theorem fl_fin (b : Nat) (neg : Bool) (rung : Nat) (h : rung ≤ 9218868437227405311) (hb : b = Ieee.double.word neg rung) :
    b < 18446744073709551616 ∧ b % 9223372036854775808 = rung ∧ (∃ s m i, Ieee.double.read b = .number s m i) := by
  rw [fl_word] at hb
  have h1 : b < 18446744073709551616 ∧ b % 9223372036854775808 = rung := by
    cases neg <;> simp at hb <;> omega
  refine ⟨h1.1, h1.2, ?_⟩
  rw [fl_read, h1.2]
  split
  · exact ⟨_, _, _, rfl⟩
  · rw [if_pos (by omega)]
    exact ⟨_, _, _, rfl⟩
theorem fl_self (b : Nat) (s : Bool) (m : Nat) (i : Int) (h : Ieee.double.read b = .number s m i) : (Ieee.double.order b b != some .eq) = false := by
  unfold Ieee.Format.order
  rw [h]
  simp only [Ieee.Datum.order]
  rw [show compare (Ieee.signed s m (i - min i i).toNat) (Ieee.signed s m (i - min i i).toNat) = .eq from by rw [Int.compare_eq_eq]]
  rfl
theorem fl_single (x : Nat) (hx : x < 4294967296) : Ieee.single.read x = (if x % 2147483648 < 8388608 then .number (x / 2147483648 % 2 == 1) (x % 2147483648) (-149)
    else if x % 2147483648 < 2139095040 then .number (x / 2147483648 % 2 == 1) (8388608 + x % 2147483648 % 8388608) (-149 + ((x % 2147483648 / 8388608 - 1 : Nat) : Int))
    else if x % 2147483648 = 2139095040 then .infinity (x / 2147483648 % 2 == 1) else .nan (x / 2147483648 % 2 == 1) (x % 2147483648 - 2139095040)) := by
  have e0 : Ieee.single.signWeight = 2147483648 := by decide
  have e1 : Ieee.single.leastPlace = -149 := by decide
  have e3 : Ieee.single.binade = 8388608 := by decide
  have e4 : Ieee.single.infRung = 2139095040 := by decide
  unfold Ieee.Format.read
  rw [e0, e1, e3, e4]
theorem fl_single_num (x : Nat) (hx : x < 4294967296) (h : x / 8388608 % 256 ≠ 255) : ∃ s m i, Ieee.single.read x = .number s m i ∧ m < 16777216 ∧ -149 ≤ i ∧ i ≤ 104 := by
  rw [fl_single x hx]
  split
  · exact ⟨_, _, _, rfl, by omega, by omega, by omega⟩
  · rw [if_pos (by omega)]
    exact ⟨_, _, _, rfl, by omega, by omega, by omega⟩
theorem fl_inf_gt : (Ieee.double.order 9218868437227405312 9218868437227405311 == some .gt) = true := by
  unfold Ieee.Format.order
  rw [fl_max, fl_read]
  decide
theorem fl_convert (x : Nat) (hx : x < 4294967296) (w : World) : ∃ (b : Nat) (w1 : World), (convert 166 165 (.float .f32 x)).run Try.prog w = .ok (.float .f64 b) w1 ∧ Drawn0 w w1 ∧
    ((!(FloatKind.f64.format.order (bits .andNot .u64 b 9223372036854775808).toNat 9218868437227405311 == some .gt)) && (!(FloatKind.f64.format.order b b != some .eq))) = (x / 8388608 % 256 != 255) := by
  have ha : (Try.prog.underlying 166).isSome = true := by kernel_rfl
  have hb : Try.prog.underlying 165 = some (.float .f64) := by kernel_rfl
  show ∃ (b : Nat) (w1 : World), _ ∧ _ ∧ ((!(Ieee.double.order (bits .andNot .u64 b 9223372036854775808).toNat 9218868437227405311 == some .gt)) && (!(Ieee.double.order b b != some .eq))) = _
  by_cases h : x / 8388608 % 256 = 255
  · have hr : (x / 8388608 % 256 != 255) = false := by simp [h]
    rw [hr]
    by_cases h1 : x % 2147483648 = 2139095040
    · have hd : FloatKind.f32.decode x = .infinity (x / 2147483648 % 2 == 1) := by
        show Ieee.single.read x = _
        rw [fl_single x hx, if_neg (by omega), if_neg (by omega), if_pos h1]
      refine ⟨_, w, run_convert_float_float w 166 165 .f32 .f64 x (FloatKind.f64.encode (.infinity (x / 2147483648 % 2 == 1))) ha hb (by unfold floatToFloatBits; rw [if_neg (by decide), hd]), Drawn0.refl w, ?_⟩
      have e : FloatKind.f64.encode (.infinity (x / 2147483648 % 2 == 1)) = Ieee.double.word (x / 2147483648 % 2 == 1) 9218868437227405312 := by
        show Ieee.double.word _ Ieee.double.infRung = _
        rw [show Ieee.double.infRung = 9218868437227405312 from by decide]
      rw [e, fl_word]
      have h2 : ∀ s : Bool, (bits .andNot .u64 (((if s then 9223372036854775808 + 9218868437227405312 else 9218868437227405312 : Nat)) : Int) 9223372036854775808).toNat = 9218868437227405312 := by decide
      rw [h2, fl_inf_gt]
      rfl
    · have hd : ∃ s f, FloatKind.f32.decode x = .nan s f := by
        refine ⟨x / 2147483648 % 2 == 1, x % 2147483648 - 2139095040, ?_⟩
        show Ieee.single.read x = _
        rw [fl_single x hx, if_neg (by omega), if_neg (by omega), if_neg h1]
      obtain ⟨s, f, hd⟩ := hd
      obtain ⟨u, hs'⟩ := Option.isSome_iff_exists.1 ha
      refine ⟨(Question.nanConv .f64 x).cut (w.tape w.drawn (.nanConv .f64 x)), w.drew, ?_, ⟨1, rfl⟩, ?_⟩
      · cases u <;> simp [convert, run_underlying hs', run_underlying hb, Conv.floatToFloat, hd, Question.forced]
      · generalize w.tape w.drawn (.nanConv .f64 x) = t
        have hb2 : (Question.nanConv .f64 x).cut t = t % 2 * 9223372036854775808 + 9218868437227405312 + 1 + t / 2 % 4503599627370495 := rfl
        rw [hb2]
        have hz : t / 2 % 4503599627370495 < 4503599627370495 := Nat.mod_lt _ (by omega)
        have ht : t % 2 < 2 := Nat.mod_lt _ (by omega)
        generalize t / 2 % 4503599627370495 = z at hz ⊢
        generalize t % 2 = s2 at ht ⊢
        have hr1 : ∀ q : Nat, q % 9223372036854775808 = 9218868437227405313 + z → ∃ s f, Ieee.double.read q = .nan s f := by
          intro q hq
          rw [fl_read, hq, if_neg (by omega), if_neg (by omega), if_neg (by omega)]
          exact ⟨_, _, rfl⟩
        obtain ⟨s3, f3, h3⟩ := hr1 (s2 * 9223372036854775808 + 9218868437227405312 + 1 + z) (by omega)
        rw [fl_and _ (by omega)]
        obtain ⟨s4, f4, h4⟩ := hr1 ((s2 * 9223372036854775808 + 9218868437227405312 + 1 + z) % 9223372036854775808) (by omega)
        unfold Ieee.Format.order
        rw [h3, h4]
        rfl
  · have hr : (x / 8388608 % 256 != 255) = true := by simp [h]
    rw [hr]
    obtain ⟨s, m, i, hd, hm, hi0, hi1⟩ := fl_single_num x hx h
    obtain ⟨rung, hrg, hw⟩ := fl_nearest s m i hm hi0 hi1
    obtain ⟨f1, f2, s5, m5, i5, f3⟩ := fl_fin (Ieee.double.nearest s m i) s rung hrg hw
    refine ⟨Ieee.double.nearest s m i, w, run_convert_float_float w 166 165 .f32 .f64 x _ ha hb ?_, Drawn0.refl w, ?_⟩
    · have hd' : FloatKind.f32.decode x = .number s m i := hd
      unfold floatToFloatBits
      rw [if_neg (by decide), hd']
      have he : FloatKind.f64.encode (.number s m i) = Ieee.double.nearest s m i := rfl
      have hf : (FloatKind.f64.decode (Ieee.double.nearest s m i)).isInfinity = false := by
        have : FloatKind.f64.decode (Ieee.double.nearest s m i) = .number s5 m5 i5 := f3
        rw [this]
        rfl
      dsimp only
      rw [he, hf]
      rfl
    · rw [fl_and _ f1, f2, fl_gt rung hrg, fl_self _ _ _ _ f3]
      rfl
def impl_finite.f (a0 : Int) : Option Bool := if 0 ≤ a0 ∧ a0 < 4294967296 then some (a0 / 8388608 % 256 != 255) else none
theorem impl_finite.calls (a0 : Int) (r : Bool) (w : World) (h : impl_finite.f a0 = some r) :
    Calls Try.prog 79 #[.int .u32 a0] w fun e w' => e = .returned (.bool r) ∧ Drawn0 w w' := by
  unfold impl_finite.f at h
  by_cases hr : 0 ≤ a0 ∧ a0 < 4294967296
  · rw [if_pos hr] at h
    obtain rfl := Option.some.inj h
    obtain ⟨n, rfl⟩ := Int.eq_ofNat_of_zero_le hr.1
    obtain ⟨b, w1, h1, h2, h3⟩ := fl_convert n (by omega) w
    refine finite_calls (n : Int) b _ w w1 (by simpa using h1) h2 ?_
    rw [h3]
    have e : (((n : Nat) : Int) / 8388608 % 256 != 255) = (n / 8388608 % 256 != 255) := by
      by_cases hn : n / 8388608 % 256 = 255
      · rw [bne_eq_false_iff_eq.2 hn, bne_eq_false_iff_eq.2 (by omega)]
      · rw [bne_iff_ne.2 hn, bne_iff_ne.2 (by omega)]
    exact e
  · rw [if_neg hr] at h
    cases h

end Go.Proofs.Ytcpdeenhjodmfaa.QFloatOrder
