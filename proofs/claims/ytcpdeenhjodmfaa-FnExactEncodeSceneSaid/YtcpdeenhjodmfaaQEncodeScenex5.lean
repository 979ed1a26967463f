-- Written by wip/tools/mkprint.py (my program) out of the translation, for this claim. Not trusted: Lean checks it.
import Derived.Test.YtcpdeenhjodmfaaQEncodeScenex0
import Derived.Test.YtcpdeenhjodmfaaQEncodeScenex4
namespace Go.Proofs.Ytcpdeenhjodmfaa.QEncodeScene
open Go.RowKit Go.Proofs.YtcpdeenhjodmfaaW.PrintWords Go.Proofs.YtcpdeenhjodmfaaW.PrintLast Go.Proofs.YtcpdeenhjodmfaaW.PrintMore
attribute [local go_sem] max2_int min2_int max_two min_two max_three min_three max_four min_four   -- for this text's walks alone
set_option linter.unusedVariables false
set_option linter.unusedSimpArgs false

/-! ### spec_l6scene: function 110 -/
mutual
def spec_l6scene.l0 : Nat → List Int → Int → List (S151) → List (S127) → List (S125) → Option (List Int)
 | 0, _, _, _, _, _ => none
 | k + 1, x3, x4, x247000, x247001, x247002 => if x4 < (x247000.length : Int) then (if 0 ≤ x4 then ((spec_l6point.f k ((rd_T151 x247000 x4).f0.f0) ((rd_T151 x247000 x4).f0.f1) ((rd_T151 x247000 x4).f0.f2)).bind fun t269 => (if x3.length + t269.length < 140737488355328 then ((some (x3 ++ t269 : List Int)).bind fun y272 => ((spec_l6point.f k ((rd_T151 x247000 x4).f1.f0) ((rd_T151 x247000 x4).f1.f1) ((rd_T151 x247000 x4).f1.f2)).bind fun t276 => (if y272.length + t276.length < 140737488355328 then ((some (y272 ++ t276 : List Int)).bind fun y279 => ((spec_l6point.f k ((rd_T151 x247000 x4).f2.f0) ((rd_T151 x247000 x4).f2.f1) ((rd_T151 x247000 x4).f2.f2)).bind fun t283 => (if y279.length + t283.length < 140737488355328 then (spec_l6scene.l0 k (y279 ++ t283) (wrap64 (x4 + 1)) x247000 x247001 x247002) else (none)))) else (none)))) else (none))) else (none)) else (spec_l6scene.l1 k x3 0 x247000 x247001 x247002)
def spec_l6scene.l1 : Nat → List Int → Int → List (S151) → List (S127) → List (S125) → Option (List Int)
 | 0, _, _, _, _, _ => none
 | k + 1, x3, x5, x247000, x247001, x247002 => if x5 < (x247001.length : Int) then (if 0 ≤ x5 then ((spec_l6point.f k ((rd_T127 x247001 x5).f0.f0) ((rd_T127 x247001 x5).f0.f1) ((rd_T127 x247001 x5).f0.f2)).bind fun t290 => (if x3.length + t290.length < 140737488355328 then ((some (x3 ++ t290 : List Int)).bind fun y293 => ((spec_l6point.f k ((rd_T127 x247001 x5).f1.f0) ((rd_T127 x247001 x5).f1.f1) ((rd_T127 x247001 x5).f1.f2)).bind fun t297 => (if y293.length + t297.length < 140737488355328 then (spec_l6scene.l1 k (y293 ++ t297) (wrap64 (x5 + 1)) x247000 x247001 x247002) else (none)))) else (none))) else (none)) else (spec_l6scene.l2 k x3 0 x247000 x247001 x247002)
def spec_l6scene.l2 : Nat → List Int → Int → List (S151) → List (S127) → List (S125) → Option (List Int)
 | 0, _, _, _, _, _ => none
 | k + 1, x3, x6, x247000, x247001, x247002 => if x6 < (x247002.length : Int) then (if 0 ≤ x6 then ((spec_l6point.f k ((rd_T125 x247002 x6).f0) ((rd_T125 x247002 x6).f1) ((rd_T125 x247002 x6).f2)).bind fun t304 => (if x3.length + t304.length < 140737488355328 then (spec_l6scene.l2 k (x3 ++ t304) (wrap64 (x6 + 1)) x247000 x247001 x247002) else (none))) else (none)) else (some x3)
end
def spec_l6scene.f (k : Nat) (l0_0 : List (S151)) (l0_1 : List (S127)) (l0_2 : List (S125)) : Option (List Int) := (some (([83, 67, 69, 78] : List Int) : List Int)).bind fun y247 => ((spec_l6little.f k (l0_0.length : Int) 2).bind fun t250 => (if (y247.length + t250.length < 140737488355328 ∧ 0 < t250.length) then ((some (y247 ++ t250 : List Int)).bind fun y253 => ((spec_l6little.f k (l0_1.length : Int) 2).bind fun t256 => (if y253.length + t256.length < 140737488355328 then ((some (y253 ++ t256 : List Int)).bind fun y259 => ((spec_l6little.f k (l0_2.length : Int) 1).bind fun t262 => (if y259.length + t262.length < 140737488355328 then (spec_l6scene.l0 k (y259 ++ t262) 0 l0_0 l0_1 l0_2) else (none)))) else (none)))) else (none)))
theorem spec_l6scene.mono_l : ∀ k, (∀ y0 y1 y2 y3 y4, LeO (spec_l6scene.l0 k y0 y1 y2 y3 y4) (spec_l6scene.l0 (k + 1) y0 y1 y2 y3 y4)) ∧ (∀ y0 y1 y2 y3 y4, LeO (spec_l6scene.l1 k y0 y1 y2 y3 y4) (spec_l6scene.l1 (k + 1) y0 y1 y2 y3 y4)) ∧ (∀ y0 y1 y2 y3 y4, LeO (spec_l6scene.l2 k y0 y1 y2 y3 y4) (spec_l6scene.l2 (k + 1) y0 y1 y2 y3 y4))
 | 0 => ⟨fun _ _ _ _ _ r h => by simp [spec_l6scene.l0] at h, fun _ _ _ _ _ r h => by simp [spec_l6scene.l1] at h, fun _ _ _ _ _ r h => by simp [spec_l6scene.l2] at h⟩
 | k + 1 => by
  obtain ⟨ih0, ih1, ih2⟩ := spec_l6scene.mono_l k
  refine ⟨?_, ?_, ?_⟩
  · intro y0 y1 y2 y3 y4
    unfold spec_l6scene.l0
    repeat' with_reducible first | exact ih0 _ _ _ _ _ | exact ih1 _ _ _ _ _ | exact ih2 _ _ _ _ _ | exact spec_l6little.mono _ _ _ | exact spec_l6point.mono _ _ _ _ | exact LeO.refl _ | exact LeO.none _ | refine LeO.ite ?_ ?_ | refine LeO.bind ?_ (fun _ => ?_)
  · intro y0 y1 y2 y3 y4
    unfold spec_l6scene.l1
    repeat' with_reducible first | exact ih0 _ _ _ _ _ | exact ih1 _ _ _ _ _ | exact ih2 _ _ _ _ _ | exact spec_l6little.mono _ _ _ | exact spec_l6point.mono _ _ _ _ | exact LeO.refl _ | exact LeO.none _ | refine LeO.ite ?_ ?_ | refine LeO.bind ?_ (fun _ => ?_)
  intro y0 y1 y2 y3 y4
  unfold spec_l6scene.l2
  repeat' with_reducible first | exact ih0 _ _ _ _ _ | exact ih1 _ _ _ _ _ | exact ih2 _ _ _ _ _ | exact spec_l6little.mono _ _ _ | exact spec_l6point.mono _ _ _ _ | exact LeO.refl _ | exact LeO.none _ | refine LeO.ite ?_ ?_ | refine LeO.bind ?_ (fun _ => ?_)
theorem spec_l6scene.mono : ∀ a0 a1 a2 k, LeO (spec_l6scene.f k a0 a1 a2) (spec_l6scene.f (k + 1) a0 a1 a2) := by
 intro a0 a1 a2 k
 obtain ⟨ih0, ih1, ih2⟩ := spec_l6scene.mono_l k
 unfold spec_l6scene.f
 repeat' with_reducible first | exact ih0 _ _ _ _ _ | exact ih1 _ _ _ _ _ | exact ih2 _ _ _ _ _ | exact spec_l6little.mono _ _ _ | exact spec_l6point.mono _ _ _ _ | exact LeO.refl _ | exact LeO.none _ | refine LeO.ite ?_ ?_ | refine LeO.bind ?_ (fun _ => ?_)
set_option maxHeartbeats 8000000 in
set_option maxRecDepth 100000 in
theorem spec_l6scene.calls (k : Nat) (A0_0 : Option Addr) (c0_0 : Nat) (l0_0 : List (S151)) (A0_1 : Option Addr) (c0_1 : Nat) (l0_1 : List (S127)) (A0_2 : Option Addr) (c0_2 : Nat) (l0_2 : List (S125)) (r : List Int) (w : World) (hr0_0 : Kd.C k151 w A0_0 l0_0.length l0_0) (hc0_0 : l0_0.length ≤ c0_0) (hr0_1 : Kd.C k127 w A0_1 l0_1.length l0_1) (hc0_1 : l0_1.length ≤ c0_1) (hr0_2 : Kd.C k125 w A0_2 l0_2.length l0_2) (hc0_2 : l0_2.length ≤ c0_2) (h : spec_l6scene.f k l0_0 l0_1 l0_2 = some r) :
 Calls Try.prog 110 #[.agg #[.slice A0_0 l0_0.length c0_0, .slice A0_1 l0_1.length c0_1, .slice A0_2 l0_2.length c0_2]] w fun e w' => ∃ v0_ : Value, e = .returned (v0_) ∧ Kd.R (Kd.int .u8) 5 w' w.heap.size (fun _ => True) v0_ r ∧ Below w.heap.size w w' := by
 have hu69 := Try.underlying69; have hu125 := Try.underlying125; have HR0_0 := AM hr0_0; have HC0_0 := AM hc0_0; clear hr0_0 hc0_0; have HR0_1 := AM hr0_1; have HC0_1 := AM hc0_1; clear hr0_1 hc0_1; have HR0_2 := AM hr0_2; have HC0_2 := AM hc0_2; clear hr0_2 hc0_2; have HB := AM (Below.refl w.heap.size w)
 have H : ((some (([83, 67, 69, 78] : List Int) : List Int)).bind fun y247 => ((spec_l6little.f k (l0_0.length : Int) 2).bind fun t250 => (if (y247.length + t250.length < 140737488355328 ∧ 0 < t250.length) then ((some (y247 ++ t250 : List Int)).bind fun y253 => ((spec_l6little.f k (l0_1.length : Int) 2).bind fun t256 => (if y253.length + t256.length < 140737488355328 then ((some (y253 ++ t256 : List Int)).bind fun y259 => ((spec_l6little.f k (l0_2.length : Int) 1).bind fun t262 => (if y259.length + t262.length < 140737488355328 then (spec_l6scene.l0 k (y259 ++ t262) 0 l0_0 l0_1 l0_2) else (none)))) else (none)))) else (none)))) = some r := h
 clear h
 obtain ⟨y247, hy247⟩ : ∃ y_ : List Int, y_ = (([83, 67, 69, 78] : List Int)) := ⟨_, rfl⟩
 replace H : ((spec_l6little.f k (l0_0.length : Int) 2).bind fun t250 => (if (y247.length + t250.length < 140737488355328 ∧ 0 < t250.length) then ((some (y247 ++ t250 : List Int)).bind fun y253 => ((spec_l6little.f k (l0_1.length : Int) 2).bind fun t256 => (if y253.length + t256.length < 140737488355328 then ((some (y253 ++ t256 : List Int)).bind fun y259 => ((spec_l6little.f k (l0_2.length : Int) 1).bind fun t262 => (if y259.length + t262.length < 140737488355328 then (spec_l6scene.l0 k (y259 ++ t262) 0 l0_0 l0_1 l0_2) else (none)))) else (none)))) else (none))) = some r := by first | (rw [hy247]; with_reducible exact H) | (have H2_ := (Option.bind_some _ _).symm.trans H; rw [hy247]; with_reducible exact H2_) | (have H2_ := (Option.bind_some _ _).symm.trans H; with_reducible exact H2_) | with_reducible exact H | (rw [hy247]; exact H) | exact H
 have Ny247 := AM hy247; clear hy247
 replace H := Option.bind_eq_some_iff.mp H
 obtain ⟨t250, A20, H⟩ := H
 (try dsimp only at H)
 have A2 := AM A20; clear A20
 by_cases c3 : (y247.length + t250.length < 140737488355328 ∧ 0 < t250.length)
 rotate_left
 · rw [if_neg c3] at H
   exact absurd H (by simp)

 rw [if_pos c3] at H
 have LMc3 := AM c3; clear c3
 obtain ⟨y253, hy253⟩ : ∃ y_ : List Int, y_ = (y247 ++ t250) := ⟨_, rfl⟩
 replace H : ((spec_l6little.f k (l0_1.length : Int) 2).bind fun t256 => (if y253.length + t256.length < 140737488355328 then ((some (y253 ++ t256 : List Int)).bind fun y259 => ((spec_l6little.f k (l0_2.length : Int) 1).bind fun t262 => (if y259.length + t262.length < 140737488355328 then (spec_l6scene.l0 k (y259 ++ t262) 0 l0_0 l0_1 l0_2) else (none)))) else (none))) = some r := by first | (rw [hy253]; with_reducible exact H) | (have H2_ := (Option.bind_some _ _).symm.trans H; rw [hy253]; with_reducible exact H2_) | (have H2_ := (Option.bind_some _ _).symm.trans H; with_reducible exact H2_) | with_reducible exact H | (rw [hy253]; exact H) | exact H
 have Ny253 := AM hy253; clear hy253
 replace H := Option.bind_eq_some_iff.mp H
 obtain ⟨t256, A40, H⟩ := H
 (try dsimp only at H)
 have A4 := AM A40; clear A40
 by_cases c5 : y253.length + t256.length < 140737488355328
 rotate_left
 · rw [if_neg c5] at H
   exact absurd H (by simp)
 rw [if_pos c5] at H
 have LMc5 := AM c5; clear c5
 obtain ⟨y259, hy259⟩ : ∃ y_ : List Int, y_ = (y253 ++ t256) := ⟨_, rfl⟩
 replace H : ((spec_l6little.f k (l0_2.length : Int) 1).bind fun t262 => (if y259.length + t262.length < 140737488355328 then (spec_l6scene.l0 k (y259 ++ t262) 0 l0_0 l0_1 l0_2) else (none))) = some r := by first | (rw [hy259]; with_reducible exact H) | (have H2_ := (Option.bind_some _ _).symm.trans H; rw [hy259]; with_reducible exact H2_) | (have H2_ := (Option.bind_some _ _).symm.trans H; with_reducible exact H2_) | with_reducible exact H | (rw [hy259]; exact H) | exact H
 have Ny259 := AM hy259; clear hy259
 replace H := Option.bind_eq_some_iff.mp H
 obtain ⟨t262, A60, H⟩ := H
 (try dsimp only at H)
 have A6 := AM A60; clear A60
 by_cases c7 : y259.length + t262.length < 140737488355328
 rotate_left
 · rw [if_neg c7] at H
   exact absurd H (by simp)
 rw [if_pos c7] at H
 have LMc7 := AM c7; clear c7
 obtain ⟨y265, hy265⟩ : ∃ y_ : List Int, y_ = (y259 ++ t262) := ⟨_, rfl⟩
 replace H : (spec_l6scene.l0 k y265 0 l0_0 l0_1 l0_2) = some r := by first | (rw [hy265]; with_reducible exact H) | (have H2_ := (Option.bind_some _ _).symm.trans H; rw [hy265]; with_reducible exact H2_) | (have H2_ := (Option.bind_some _ _).symm.trans H; with_reducible exact H2_) | with_reducible exact H | (rw [hy265]; exact H) | exact H
 have Ny265 := AM hy265; clear hy265
 have H' := AM H
 clear H
 go_enter Try.func110, Try.ntmps110
 go_wp2_with (first | ((with_reducible refine gate_dst (N := 1) rfl ?_); refine box_event ?hg (N := 1) ?hd (cs := #[.slice A0_0 l0_0.length c0_0, .slice A0_1 l0_1.length c0_1, .slice A0_2 l0_2.length c0_2]) (t := 69) ?hr ?_; (case hd => rfl); (case hg => rfl); (case hr => first | (go_simp; done) | (go_simp; rfl)); intro gb246 hg w8 hbox hb; have BK246 := AM (hbox); have GW246 := gH HB hg; have GE246 := gH HB hg; replace HB := AM (below_step (pH HB) hb); clear hb hbox hg) | ((with_reducible refine gate_dst (N := 7) rfl ?_); refine lit_mark_event ?hg ?hg2 (N := 7) (N2 := 8) ?hd ?hd2 Try.underlying41 Try.underlying5 ?ho2 (cs := #[.int .u8 83, .int .u8 67, .int .u8 69, .int .u8 78]) (n := 4) ?hr ?hev ?_; (case hd => rfl); (case hd2 => rfl); (case hg => rfl); (case hg2 => rfl); (case ho2 => rfl); (case hr => first | (go_simp; done) | (go_simp; rfl)); (case hev => intro v_; first | rfl | (go_simp; done)); intro gl248 hgl_ w9 hmk_ hb; have ML248 := AM hmk_; replace BK246 := bB BK246 hb; replace HB := AM (below_step (pH HB) hb); clear hb hmk_ hgl_; have ⟨hcz11_0, hcz11_1, hcz11_2, hfz11_0, hfz11_1, hfz11_2⟩ := z3 BK246) | ((with_reducible refine gate_callee (f := 120) rfl ?_); refine goesL_ (some 13) rfl rfl Try.func120 (by kernel_rfl) rfl #[.int .i64 (l0_0.length : Int), .int .i64 2] rfl (by (try simp only [List.map_toArray, List.map_cons, List.map_nil]); first | done | rfl | (simp only [List.length_drop, List.length_take]; rfl)) ?_; (with_reducible refine (spec_l6little.calls k (l0_0.length : Int) 2 t250 _ A2.out).mono ?_); rintro e w12 ⟨v251, rfl, ho0, hb⟩; refine ⟨_, rfl, ?_⟩; have HO252 := AM (Kd.R_lower (ho0) (below_size (pH HB))); replace ML248 := bB ML248 hb; replace BK246 := bB BK246 hb; replace HB := AM (below_step (pH HB) hb); (try clear hb); (try clear hb2); (try clear hk); (try clear hi); (try clear ho0); obtain ⟨Ao14, co14, eo14⟩ := Kd.R_slice HO252.out; subst eo14) | ((with_reducible refine gate_builtin (b := .append) (xs := #[.tmp 9, .tmp 13]) rfl ?_); at_builtin; refine append_mark rfl (.tmp 9) (.tmp 13) 41 5 rfl Try.underlying41 info5 gl248 [83, 67, 69, 78] t250 Ao14 t250.length co14 (4, 5) ?aH ?aX ?aM ?aR ?aP ?aL ?_; (case aH => rfl); (case aX => rfl); (case aM => exact (pB ML248)); (case aR => exact cR HO252); (case aP => exact LMc3.out.2); (case aL => have := LMc3.out; have e_ := congrArg List.length Ny247.out; simp at e_ ⊢; omega); intro v254 w13 ho hb hg; rw [← Ny247.out, ← Ny253.out] at ho; have HO255 := AM (Kd.R_lower (Kd.R_mono (ok' := (fun k_ => some k_ ≠ (.slice Ao14 t250.length co14 : Value).ownBlock)) (Kd.R_new' ho (Kd.R_lt (pR HO252))) (fun _ hk => hk.2)) (below_size (pH HB))); replace BK246 := bB BK246 hb; replace HO252 := AM (Kd.R_elder' (pR HO252) (Kd.R_base ho) hb); replace HB := AM (below_step (pH HB) hb); clear ML248; clear ho hb hg; have ⟨hcz15_0, hcz15_1, hcz15_2, hfz15_0, hfz15_1, hfz15_2⟩ := z3 BK246) | ((with_reducible refine gate_callee (f := 120) rfl ?_); refine goesL_ (some 19) rfl rfl Try.func120 (by kernel_rfl) rfl #[.int .i64 (l0_1.length : Int), .int .i64 2] rfl (by (try simp only [List.map_toArray, List.map_cons, List.map_nil]); first | done | rfl | (simp only [List.length_drop, List.length_take]; rfl)) ?_; (with_reducible refine (spec_l6little.calls k (l0_1.length : Int) 2 t256 _ A4.out).mono ?_); rintro e w16 ⟨v257, rfl, ho0, hb⟩; refine ⟨_, rfl, ?_⟩; have HO258 := AM (Kd.R_lower (Kd.R_new' (Kd.R_new' ho0 (Kd.R_lt (pR HO252))) (Kd.R_lt (pR HO255))) (below_size (pH HB))); replace HO252 := AM (Kd.R_elder' (pR HO252) (Kd.R_base ho0) hb); replace HO255 := AM (Kd.R_elder' (pR HO255) (Kd.R_base ho0) hb); replace BK246 := bB BK246 hb; replace HB := AM (below_step (pH HB) hb); (try clear hb); (try clear hb2); (try clear hk); (try clear hi); (try clear ho0); obtain ⟨Ao18, co18, eo18⟩ := Kd.R_slice HO258.out; subst eo18) | ((with_reducible refine gate_builtin (b := .append) (xs := #[.tmp 15, .tmp 19]) rfl ?_); at_builtin; refine Kd.R_append_rows (Kd.int .u8) (w0 := w) w.heap.size rfl (.tmp 15) (.tmp 19) 41 5 (.int .u8 0) 1 rfl Try.underlying41 info5 rfl (by decide) (by omega) v254 y253 t256 _ _ _ (fun k_ => some k_ ≠ (.slice Ao14 t250.length co14 : Value).ownBlock ∧ some k_ ≠ (.slice Ao18 t256.length co18 : Value).ownBlock) (fun _ => False) rfl rfl ?aO ?aR (fun _ _ h => h) (fun _ h => h.elim) ?aF ?aB ?aS ?aL ?_; (case aR => exact cR HO258); (case aB => exact (pH HB)); (case aF => exact (fun k_ hk => ⟨Kd.fresh' (Kd.R_lt (pR HO252)) k_ hk, Kd.fresh' (Kd.R_lt (pR HO258)) k_ hk⟩)); (case aO => exact (pR HO255)); (case aS => exact (below_size (pH HB))); (case aL => have := LMc5.out; omega); intro v260 w17 ho hb hg hat; rw [← Ny259.out] at ho; replace BK246 := AM (blk_grown (g := gb246) (o := .cells #[.slice A0_0 l0_0.length c0_0, .slice A0_1 l0_1.length c0_1, .slice A0_2 l0_2.length c0_2] 69 (0, 0)) (pB BK246) hg (Kd.R_ne HO255.out BK246.out (by decide))); replace HO252 := AM (Kd.R_after (ok := (fun k_ => some k_ ≠ (.slice Ao18 t256.length co18 : Value).ownBlock)) (by (with_reducible repeat (first | apply Kd.R_alloc | apply Kd.R_drewN | apply Kd.R_drew)); exact Kd.R_mono HO252.out (fun _ hk => ⟨hk.2, hk.1.2⟩)) hg hat); replace HO258 := AM (Kd.R_after (ok := (fun k_ => some k_ ≠ (.slice Ao14 t250.length co14 : Value).ownBlock)) (by (with_reducible repeat (first | apply Kd.R_alloc | apply Kd.R_drewN | apply Kd.R_drew)); exact Kd.R_mono HO258.out (fun _ hk => ⟨hk.1.2, hk.2⟩)) hg hat); replace HB := AM (hb); have HO261 := AM (ho); clear HO255; clear ho hb hg hat; have ⟨hcz19_0, hcz19_1, hcz19_2, hfz19_0, hfz19_1, hfz19_2⟩ := z3 BK246) | ((with_reducible refine gate_callee (f := 120) rfl ?_); refine goesL_ (some 25) rfl rfl Try.func120 (by kernel_rfl) rfl #[.int .i64 (l0_2.length : Int), .int .i64 1] rfl (by (try simp only [List.map_toArray, List.map_cons, List.map_nil]); first | done | rfl | (simp only [List.length_drop, List.length_take]; rfl)) ?_; (with_reducible refine (spec_l6little.calls k (l0_2.length : Int) 1 t262 _ A6.out).mono ?_); rintro e w20 ⟨v263, rfl, ho0, hb⟩; refine ⟨_, rfl, ?_⟩; have HO264 := AM (Kd.R_lower (Kd.R_new' (Kd.R_new' (Kd.R_new' ho0 (Kd.R_lt (pR HO252))) (Kd.R_lt (pR HO258))) (Kd.R_lt (pR HO261))) (below_size (pH HB))); replace HO252 := AM (Kd.R_elder' (pR HO252) (Kd.R_base ho0) hb); replace HO258 := AM (Kd.R_elder' (pR HO258) (Kd.R_base ho0) hb); replace HO261 := AM (Kd.R_elder' (pR HO261) (Kd.R_base ho0) hb); replace BK246 := bB BK246 hb; replace HB := AM (below_step (pH HB) hb); (try clear hb); (try clear hb2); (try clear hk); (try clear hi); (try clear ho0); obtain ⟨Ao22, co22, eo22⟩ := Kd.R_slice HO264.out; subst eo22) | ((with_reducible refine gate_builtin (b := .append) (xs := #[.tmp 21, .tmp 25]) rfl ?_); at_builtin; refine Kd.R_append_rows (Kd.int .u8) (w0 := w) w.heap.size rfl (.tmp 21) (.tmp 25) 41 5 (.int .u8 0) 1 rfl Try.underlying41 info5 rfl (by decide) (by omega) v260 y259 t262 _ _ _ (fun k_ => some k_ ≠ (.slice Ao14 t250.length co14 : Value).ownBlock ∧ some k_ ≠ (.slice Ao18 t256.length co18 : Value).ownBlock ∧ some k_ ≠ (.slice Ao22 t262.length co22 : Value).ownBlock) (fun _ => False) rfl rfl ?aO ?aR (fun _ _ h => h) (fun _ h => h.elim) ?aF ?aB ?aS ?aL ?_; (case aR => exact cR HO264); (case aB => exact (pH HB)); (case aF => exact (fun k_ hk => ⟨Kd.fresh' (Kd.R_lt (pR HO252)) k_ hk, Kd.fresh' (Kd.R_lt (pR HO258)) k_ hk, Kd.fresh' (Kd.R_lt (pR HO264)) k_ hk⟩)); (case aO => exact (by (with_reducible repeat (first | apply Kd.R_alloc | apply Kd.R_drewN | apply Kd.R_drew)); exact Kd.R_mono HO261.out (fun _ hk => ⟨hk.1.1, ⟨hk.1.2, hk.2⟩⟩))); (case aS => exact (below_size (pH HB))); (case aL => have := LMc7.out; omega); intro v266 w21 ho hb hg hat; rw [← Ny265.out] at ho; replace BK246 := AM (blk_grown (g := gb246) (o := .cells #[.slice A0_0 l0_0.length c0_0, .slice A0_1 l0_1.length c0_1, .slice A0_2 l0_2.length c0_2] 69 (0, 0)) (pB BK246) hg (Kd.R_ne HO261.out BK246.out (by decide))); replace HO252 := AM (Kd.R_after (ok := (fun k_ => some k_ ≠ (.slice Ao18 t256.length co18 : Value).ownBlock ∧ some k_ ≠ (.slice Ao22 t262.length co22 : Value).ownBlock)) (by (with_reducible repeat (first | apply Kd.R_alloc | apply Kd.R_drewN | apply Kd.R_drew)); exact Kd.R_mono HO252.out (fun _ hk => ⟨⟨hk.1.1, hk.2⟩, hk.1.2⟩)) hg hat); replace HO258 := AM (Kd.R_after (ok := (fun k_ => some k_ ≠ (.slice Ao14 t250.length co14 : Value).ownBlock ∧ some k_ ≠ (.slice Ao22 t262.length co22 : Value).ownBlock)) (by (with_reducible repeat (first | apply Kd.R_alloc | apply Kd.R_drewN | apply Kd.R_drew)); exact Kd.R_mono HO258.out (fun _ hk => ⟨⟨hk.1.1, hk.2⟩, hk.1.2⟩)) hg hat); replace HO264 := AM (Kd.R_after (ok := (fun k_ => some k_ ≠ (.slice Ao14 t250.length co14 : Value).ownBlock ∧ some k_ ≠ (.slice Ao18 t256.length co18 : Value).ownBlock)) (by (with_reducible repeat (first | apply Kd.R_alloc | apply Kd.R_drewN | apply Kd.R_drew)); exact Kd.R_mono HO264.out (fun _ hk => ⟨⟨hk.1.1.2, hk.1.2⟩, hk.2⟩)) hg hat); replace HB := AM (hb); have HO267 := AM (ho); clear HO261; clear ho hb hg hat))
 go_loopg [3, 4] k (fun kq v3 v4 w' => ∃ (x3_1 : List Int) (x4_1 : Int), v4 = .int .i64 x4_1 ∧ Aside0 (spec_l6scene.l0 kq x3_1 x4_1 l0_0 l0_1 l0_2 = some r) ∧ Aside0 (kq ≤ k) ∧ Aside0 (Kd.R (Kd.int .u8) 5 w' w.heap.size (fun _ => True) v3 x3_1) ∧ Aside0 (w'.heap[gb246]? = some (.cells #[(.slice A0_0 l0_0.length c0_0), (.slice A0_1 l0_1.length c0_1), (.slice A0_2 l0_2.length c0_2)] 69 (0, 0))) ∧ Aside0 (Below w.heap.size w w'))
 case atStart => exact ⟨(y265), (0), (by first | rfl | (simp; done) | (simp [*]; done)), H', ⟨Nat.le_refl _⟩, ⟨by (with_reducible repeat (first | apply Kd.R_alloc | apply Kd.R_drewN | apply Kd.R_drew)); exact Kd.R_mono HO267.out (fun _ hk => trivial)⟩, ⟨by refine sB ?_; exact BK246.out⟩, ⟨pH HB⟩⟩
 case round =>
  clear H'
  try clear c1
  try clear p2
  try clear c3
  try clear c5
  try clear c7
  try clear c11
  try clear c12
  try clear hcz11_0
  try clear hcz11_1
  try clear hcz11_2
  try clear hcz15_0
  try clear hcz15_1
  try clear hcz15_2
  try clear hcz19_0
  try clear hcz19_1
  try clear hcz19_2
  try clear hfz11_0
  try clear hfz11_1
  try clear hfz11_2
  try clear hfz15_0
  try clear hfz15_1
  try clear hfz15_2
  try clear hfz19_0
  try clear hfz19_1
  try clear hfz19_2
  obtain ⟨x3_1, x4_1, rfl, HA, HK1, HO_3, BK246, HB⟩ := hrel
  cases gk with
  | zero => exact absurd HA.out (by simp [spec_l6scene.l0])
  | succ k1 =>
   have H := HA.out; clear HA
   simp only [spec_l6scene.l0] at H
   by_cases c23 : x4_1 < (l0_0.length : Int)
   · rw [if_pos c23] at H
     have c23b0 : decide (x4_1 < (l0_0.length : Int)) = true := decide_eq_true c23
     clear c23
     by_cases c24 : 0 ≤ x4_1
     rotate_left
     · rw [if_neg c24] at H
       exact absurd H (by simp)
     rw [if_pos c24] at H
     have c24b0 : decide (0 ≤ x4_1) = true := decide_eq_true c24
     clear c24
     replace H := Option.bind_eq_some_iff.mp H
     obtain ⟨t269, A250, H⟩ := H
     (try dsimp only at H)
     have A25 := AM A250; clear A250
     by_cases c26 : x3_1.length + t269.length < 140737488355328
     rotate_left
     · rw [if_neg c26] at H
       exact absurd H (by simp)
     rw [if_pos c26] at H
     have LMc26 := AM c26; clear c26
     obtain ⟨y272, hy272⟩ : ∃ y_ : List Int, y_ = (x3_1 ++ t269) := ⟨_, rfl⟩
     replace H : ((spec_l6point.f k1 ((rd_T151 l0_0 x4_1).f1.f0) ((rd_T151 l0_0 x4_1).f1.f1) ((rd_T151 l0_0 x4_1).f1.f2)).bind fun t276 => (if y272.length + t276.length < 140737488355328 then ((some (y272 ++ t276 : List Int)).bind fun y279 => ((spec_l6point.f k1 ((rd_T151 l0_0 x4_1).f2.f0) ((rd_T151 l0_0 x4_1).f2.f1) ((rd_T151 l0_0 x4_1).f2.f2)).bind fun t283 => (if y279.length + t283.length < 140737488355328 then (spec_l6scene.l0 k1 (y279 ++ t283) (wrap64 (x4_1 + 1)) l0_0 l0_1 l0_2) else (none)))) else (none))) = some r := by first | (rw [hy272]; with_reducible exact H) | (have H2_ := (Option.bind_some _ _).symm.trans H; rw [hy272]; with_reducible exact H2_) | (have H2_ := (Option.bind_some _ _).symm.trans H; with_reducible exact H2_) | with_reducible exact H | (rw [hy272]; exact H) | exact H
     have Ny272 := AM hy272; clear hy272
     replace H := Option.bind_eq_some_iff.mp H
     obtain ⟨t276, A270, H⟩ := H
     (try dsimp only at H)
     have A27 := AM A270; clear A270
     by_cases c28 : y272.length + t276.length < 140737488355328
     rotate_left
     · rw [if_neg c28] at H
       exact absurd H (by simp)
     rw [if_pos c28] at H
     have LMc28 := AM c28; clear c28
     obtain ⟨y279, hy279⟩ : ∃ y_ : List Int, y_ = (y272 ++ t276) := ⟨_, rfl⟩
     replace H : ((spec_l6point.f k1 ((rd_T151 l0_0 x4_1).f2.f0) ((rd_T151 l0_0 x4_1).f2.f1) ((rd_T151 l0_0 x4_1).f2.f2)).bind fun t283 => (if y279.length + t283.length < 140737488355328 then (spec_l6scene.l0 k1 (y279 ++ t283) (wrap64 (x4_1 + 1)) l0_0 l0_1 l0_2) else (none))) = some r := by first | (rw [hy279]; with_reducible exact H) | (have H2_ := (Option.bind_some _ _).symm.trans H; rw [hy279]; with_reducible exact H2_) | (have H2_ := (Option.bind_some _ _).symm.trans H; with_reducible exact H2_) | with_reducible exact H | (rw [hy279]; exact H) | exact H
     have Ny279 := AM hy279; clear hy279
     replace H := Option.bind_eq_some_iff.mp H
     obtain ⟨t283, A290, H⟩ := H
     (try dsimp only at H)
     have A29 := AM A290; clear A290
     by_cases c30 : y279.length + t283.length < 140737488355328
     rotate_left
     · rw [if_neg c30] at H
       exact absurd H (by simp)
     rw [if_pos c30] at H
     have LMc30 := AM c30; clear c30
     obtain ⟨y286, hy286⟩ : ∃ y_ : List Int, y_ = (y279 ++ t283) := ⟨_, rfl⟩
     replace H : (spec_l6scene.l0 k1 y286 (wrap64 (x4_1 + 1)) l0_0 l0_1 l0_2) = some r := by first | (rw [hy286]; with_reducible exact H) | (have H2_ := (Option.bind_some _ _).symm.trans H; rw [hy286]; with_reducible exact H2_) | (have H2_ := (Option.bind_some _ _).symm.trans H; with_reducible exact H2_) | with_reducible exact H | (rw [hy286]; exact H) | exact H
     have Ny286 := AM hy286; clear hy286
     have H' := AM H
     clear H
     have hcz31_0 : wr.cell? ⟨gb246, 0, none⟩ = some (.slice A0_0 l0_0.length c0_0) := (blk_cell BK246.out 0).trans rfl
     have hcz31_1 : wr.cell? ⟨gb246, 1, none⟩ = some (.slice A0_1 l0_1.length c0_1) := (blk_cell BK246.out 1).trans rfl
     have hcz31_2 : wr.cell? ⟨gb246, 2, none⟩ = some (.slice A0_2 l0_2.length c0_2) := (blk_cell BK246.out 2).trans rfl
     have hfz31_0 := blk_frozen BK246.out 0; have hfz31_1 := blk_frozen BK246.out 1; have hfz31_2 := blk_frozen BK246.out 2
     have p268 : 0 ≤ (x4_1 : Int) := of_decide_eq_true (by first | (with_reducible assumption) | assumption)
     have q268 : x4_1 < (l0_0.length : Int) := of_decide_eq_true (by first | (with_reducible assumption) | assumption)
     obtain ⟨ad268, e268, hx268_0, hx268_1, hx268_2, hx268_3, hx268_4, hx268_5, hx268_6, hx268_7, hx268_8⟩ := at_T151 HR0_0.out x4_1 p268 q268
     cases e268
     replace hx268_0 := (HB.out.cell (World.block_lt_of_cell? w _ hx268_0)).trans hx268_0; replace hx268_1 := (HB.out.cell (World.block_lt_of_cell? w _ hx268_1)).trans hx268_1; replace hx268_2 := (HB.out.cell (World.block_lt_of_cell? w _ hx268_2)).trans hx268_2; replace hx268_3 := (HB.out.cell (World.block_lt_of_cell? w _ hx268_3)).trans hx268_3; replace hx268_4 := (HB.out.cell (World.block_lt_of_cell? w _ hx268_4)).trans hx268_4; replace hx268_5 := (HB.out.cell (World.block_lt_of_cell? w _ hx268_5)).trans hx268_5; replace hx268_6 := (HB.out.cell (World.block_lt_of_cell? w _ hx268_6)).trans hx268_6; replace hx268_7 := (HB.out.cell (World.block_lt_of_cell? w _ hx268_7)).trans hx268_7; replace hx268_8 := (HB.out.cell (World.block_lt_of_cell? w _ hx268_8)).trans hx268_8; replace p268 := eq_true p268; replace q268 := eq_true q268
     go_wp2_with (first | ((with_reducible refine gate_callee (f := 145) rfl ?_); refine goesL_ (some 41) rfl rfl Try.func145 (by kernel_rfl) rfl #[.agg #[.int .u32 ((rd_T151 l0_0 x4_1).f0.f0), .int .u32 ((rd_T151 l0_0 x4_1).f0.f1), .int .u32 ((rd_T151 l0_0 x4_1).f0.f2)]] rfl (by (try simp only [List.map_toArray, List.map_cons, List.map_nil]); first | done | rfl | (simp only [List.length_drop, List.length_take]; rfl)) ?_; (with_reducible refine (spec_l6point.calls k1 ((rd_T151 l0_0 x4_1).f0.f0) ((rd_T151 l0_0 x4_1).f0.f1) ((rd_T151 l0_0 x4_1).f0.f2) t269 _ A25.out).mono ?_); rintro e w32 ⟨v270, rfl, ho0, hb⟩; refine ⟨_, rfl, ?_⟩; have HO271 := AM (Kd.R_lower (Kd.R_new' ho0 (Kd.R_lt (pR HO_3))) (below_size (pH HB))); replace HO_3 := AM (Kd.R_elder' (pR HO_3) (Kd.R_base ho0) hb); replace BK246 := bB BK246 hb; replace HB := AM (below_step (pH HB) hb); (try clear hb); (try clear hb2); (try clear hk); (try clear hi); (try clear ho0); obtain ⟨Ao34, co34, eo34⟩ := Kd.R_slice HO271.out; subst eo34) | ((with_reducible refine gate_builtin (b := .append) (xs := #[.tmp 34, .tmp 41]) rfl ?_); at_builtin; refine Kd.R_append_rows (Kd.int .u8) (w0 := w) w.heap.size rfl (.tmp 34) (.tmp 41) 41 5 (.int .u8 0) 1 rfl Try.underlying41 info5 rfl (by decide) (by omega) u3 x3_1 t269 _ _ _ (fun k_ => some k_ ≠ (.slice Ao34 t269.length co34 : Value).ownBlock) (fun _ => False) rfl rfl ?aO ?aR (fun _ _ h => h) (fun _ h => h.elim) ?aF ?aB ?aS ?aL ?_; (case aR => exact cR HO271); (case aB => exact (pH HB)); (case aF => exact (fun k_ hk => Kd.fresh' (Kd.R_lt (pR HO271)) k_ hk)); (case aO => exact (by (with_reducible repeat (first | apply Kd.R_alloc | apply Kd.R_drewN | apply Kd.R_drew)); exact Kd.R_mono HO_3.out (fun _ hk => hk.2))); (case aS => exact (below_size (pH HB))); (case aL => have := LMc26.out; omega); intro v273 w33 ho hb hg hat; rw [← Ny272.out] at ho; replace BK246 := AM (blk_grown (g := gb246) (o := .cells #[.slice (some ad268) l0_0.length c0_0, .slice A0_1 l0_1.length c0_1, .slice A0_2 l0_2.length c0_2] 69 (0, 0)) (pB BK246) hg (Kd.R_ne HO_3.out BK246.out (by decide))); replace HO271 := AM (Kd.R_after (ok := (fun _ => True)) (pR HO271) hg hat); replace HB := AM (hb); have HO274 := AM (ho); clear HO_3; clear ho hb hg hat; have ⟨hcz35_0, hcz35_1, hcz35_2, hfz35_0, hfz35_1, hfz35_2⟩ := z3 BK246; have p275 : 0 ≤ (x4_1 : Int) := of_decide_eq_true (by first | (with_reducible assumption) | assumption); have q275 : x4_1 < (l0_0.length : Int) := of_decide_eq_true (by first | (with_reducible assumption) | assumption); obtain ⟨ad275, e275, hx275_0, hx275_1, hx275_2, hx275_3, hx275_4, hx275_5, hx275_6, hx275_7, hx275_8⟩ := at_T151 HR0_0.out x4_1 p275 q275; obtain rfl : ad268 = ad275 := (by injection e275); replace hx275_0 := (HB.out.cell (World.block_lt_of_cell? w _ hx275_0)).trans hx275_0; replace hx275_1 := (HB.out.cell (World.block_lt_of_cell? w _ hx275_1)).trans hx275_1; replace hx275_2 := (HB.out.cell (World.block_lt_of_cell? w _ hx275_2)).trans hx275_2; replace hx275_3 := (HB.out.cell (World.block_lt_of_cell? w _ hx275_3)).trans hx275_3; replace hx275_4 := (HB.out.cell (World.block_lt_of_cell? w _ hx275_4)).trans hx275_4; replace hx275_5 := (HB.out.cell (World.block_lt_of_cell? w _ hx275_5)).trans hx275_5; replace hx275_6 := (HB.out.cell (World.block_lt_of_cell? w _ hx275_6)).trans hx275_6; replace hx275_7 := (HB.out.cell (World.block_lt_of_cell? w _ hx275_7)).trans hx275_7; replace hx275_8 := (HB.out.cell (World.block_lt_of_cell? w _ hx275_8)).trans hx275_8; replace p275 := eq_true p275; replace q275 := eq_true q275) | ((with_reducible refine gate_callee (f := 145) rfl ?_); refine goesL_ (some 50) rfl rfl Try.func145 (by kernel_rfl) rfl #[.agg #[.int .u32 ((rd_T151 l0_0 x4_1).f1.f0), .int .u32 ((rd_T151 l0_0 x4_1).f1.f1), .int .u32 ((rd_T151 l0_0 x4_1).f1.f2)]] rfl (by (try simp only [List.map_toArray, List.map_cons, List.map_nil]); first | done | rfl | (simp only [List.length_drop, List.length_take]; rfl)) ?_; (with_reducible refine (spec_l6point.calls k1 ((rd_T151 l0_0 x4_1).f1.f0) ((rd_T151 l0_0 x4_1).f1.f1) ((rd_T151 l0_0 x4_1).f1.f2) t276 _ A27.out).mono ?_); rintro e w36 ⟨v277, rfl, ho0, hb⟩; refine ⟨_, rfl, ?_⟩; have HO278 := AM (Kd.R_lower (Kd.R_new' (Kd.R_new' ho0 (Kd.R_lt (pR HO271))) (Kd.R_lt (pR HO274))) (below_size (pH HB))); replace HO271 := AM (Kd.R_elder' (pR HO271) (Kd.R_base ho0) hb); replace HO274 := AM (Kd.R_elder' (pR HO274) (Kd.R_base ho0) hb); replace BK246 := bB BK246 hb; replace HB := AM (below_step (pH HB) hb); (try clear hb); (try clear hb2); (try clear hk); (try clear hi); (try clear ho0); obtain ⟨Ao38, co38, eo38⟩ := Kd.R_slice HO278.out; subst eo38) | ((with_reducible refine gate_builtin (b := .append) (xs := #[.tmp 43, .tmp 50]) rfl ?_); at_builtin; refine Kd.R_append_rows (Kd.int .u8) (w0 := w) w.heap.size rfl (.tmp 43) (.tmp 50) 41 5 (.int .u8 0) 1 rfl Try.underlying41 info5 rfl (by decide) (by omega) v273 y272 t276 _ _ _ (fun k_ => some k_ ≠ (.slice Ao34 t269.length co34 : Value).ownBlock ∧ some k_ ≠ (.slice Ao38 t276.length co38 : Value).ownBlock) (fun _ => False) rfl rfl ?aO ?aR (fun _ _ h => h) (fun _ h => h.elim) ?aF ?aB ?aS ?aL ?_; (case aR => exact cR HO278); (case aB => exact (pH HB)); (case aF => exact (fun k_ hk => ⟨Kd.fresh' (Kd.R_lt (pR HO271)) k_ hk, Kd.fresh' (Kd.R_lt (pR HO278)) k_ hk⟩)); (case aO => exact (pR HO274)); (case aS => exact (below_size (pH HB))); (case aL => have := LMc28.out; omega); intro v280 w37 ho hb hg hat; rw [← Ny279.out] at ho; replace BK246 := AM (blk_grown (g := gb246) (o := .cells #[.slice (some ad268) l0_0.length c0_0, .slice A0_1 l0_1.length c0_1, .slice A0_2 l0_2.length c0_2] 69 (0, 0)) (pB BK246) hg (Kd.R_ne HO274.out BK246.out (by decide))); replace HO271 := AM (Kd.R_after (ok := (fun k_ => some k_ ≠ (.slice Ao38 t276.length co38 : Value).ownBlock)) (by (with_reducible repeat (first | apply Kd.R_alloc | apply Kd.R_drewN | apply Kd.R_drew)); exact Kd.R_mono HO271.out (fun _ hk => ⟨hk.2, hk.1.2⟩)) hg hat); replace HO278 := AM (Kd.R_after (ok := (fun k_ => some k_ ≠ (.slice Ao34 t269.length co34 : Value).ownBlock)) (by (with_reducible repeat (first | apply Kd.R_alloc | apply Kd.R_drewN | apply Kd.R_drew)); exact Kd.R_mono HO278.out (fun _ hk => ⟨hk.1.2, hk.2⟩)) hg hat); replace HB := AM (hb); have HO281 := AM (ho); clear HO274; clear ho hb hg hat; have ⟨hcz39_0, hcz39_1, hcz39_2, hfz39_0, hfz39_1, hfz39_2⟩ := z3 BK246; have p282 : 0 ≤ (x4_1 : Int) := of_decide_eq_true (by first | (with_reducible assumption) | assumption); have q282 : x4_1 < (l0_0.length : Int) := of_decide_eq_true (by first | (with_reducible assumption) | assumption); obtain ⟨ad282, e282, hx282_0, hx282_1, hx282_2, hx282_3, hx282_4, hx282_5, hx282_6, hx282_7, hx282_8⟩ := at_T151 HR0_0.out x4_1 p282 q282; obtain rfl : ad268 = ad282 := (by injection e282); replace hx282_0 := (HB.out.cell (World.block_lt_of_cell? w _ hx282_0)).trans hx282_0; replace hx282_1 := (HB.out.cell (World.block_lt_of_cell? w _ hx282_1)).trans hx282_1; replace hx282_2 := (HB.out.cell (World.block_lt_of_cell? w _ hx282_2)).trans hx282_2; replace hx282_3 := (HB.out.cell (World.block_lt_of_cell? w _ hx282_3)).trans hx282_3; replace hx282_4 := (HB.out.cell (World.block_lt_of_cell? w _ hx282_4)).trans hx282_4; replace hx282_5 := (HB.out.cell (World.block_lt_of_cell? w _ hx282_5)).trans hx282_5; replace hx282_6 := (HB.out.cell (World.block_lt_of_cell? w _ hx282_6)).trans hx282_6; replace hx282_7 := (HB.out.cell (World.block_lt_of_cell? w _ hx282_7)).trans hx282_7; replace hx282_8 := (HB.out.cell (World.block_lt_of_cell? w _ hx282_8)).trans hx282_8; replace p282 := eq_true p282; replace q282 := eq_true q282) | ((with_reducible refine gate_callee (f := 145) rfl ?_); refine goesL_ (some 59) rfl rfl Try.func145 (by kernel_rfl) rfl #[.agg #[.int .u32 ((rd_T151 l0_0 x4_1).f2.f0), .int .u32 ((rd_T151 l0_0 x4_1).f2.f1), .int .u32 ((rd_T151 l0_0 x4_1).f2.f2)]] rfl (by (try simp only [List.map_toArray, List.map_cons, List.map_nil]); first | done | rfl | (simp only [List.length_drop, List.length_take]; rfl)) ?_; (with_reducible refine (spec_l6point.calls k1 ((rd_T151 l0_0 x4_1).f2.f0) ((rd_T151 l0_0 x4_1).f2.f1) ((rd_T151 l0_0 x4_1).f2.f2) t283 _ A29.out).mono ?_); rintro e w40 ⟨v284, rfl, ho0, hb⟩; refine ⟨_, rfl, ?_⟩; have HO285 := AM (Kd.R_lower (Kd.R_new' (Kd.R_new' (Kd.R_new' ho0 (Kd.R_lt (pR HO271))) (Kd.R_lt (pR HO278))) (Kd.R_lt (pR HO281))) (below_size (pH HB))); replace HO271 := AM (Kd.R_elder' (pR HO271) (Kd.R_base ho0) hb); replace HO278 := AM (Kd.R_elder' (pR HO278) (Kd.R_base ho0) hb); replace HO281 := AM (Kd.R_elder' (pR HO281) (Kd.R_base ho0) hb); replace BK246 := bB BK246 hb; replace HB := AM (below_step (pH HB) hb); (try clear hb); (try clear hb2); (try clear hk); (try clear hi); (try clear ho0); obtain ⟨Ao42, co42, eo42⟩ := Kd.R_slice HO285.out; subst eo42) | ((with_reducible refine gate_builtin (b := .append) (xs := #[.tmp 52, .tmp 59]) rfl ?_); at_builtin; refine Kd.R_append_rows (Kd.int .u8) (w0 := w) w.heap.size rfl (.tmp 52) (.tmp 59) 41 5 (.int .u8 0) 1 rfl Try.underlying41 info5 rfl (by decide) (by omega) v280 y279 t283 _ _ _ (fun k_ => some k_ ≠ (.slice Ao34 t269.length co34 : Value).ownBlock ∧ some k_ ≠ (.slice Ao38 t276.length co38 : Value).ownBlock ∧ some k_ ≠ (.slice Ao42 t283.length co42 : Value).ownBlock) (fun _ => False) rfl rfl ?aO ?aR (fun _ _ h => h) (fun _ h => h.elim) ?aF ?aB ?aS ?aL ?_; (case aR => exact cR HO285); (case aB => exact (pH HB)); (case aF => exact (fun k_ hk => ⟨Kd.fresh' (Kd.R_lt (pR HO271)) k_ hk, Kd.fresh' (Kd.R_lt (pR HO278)) k_ hk, Kd.fresh' (Kd.R_lt (pR HO285)) k_ hk⟩)); (case aO => exact (by (with_reducible repeat (first | apply Kd.R_alloc | apply Kd.R_drewN | apply Kd.R_drew)); exact Kd.R_mono HO281.out (fun _ hk => ⟨hk.1.1, ⟨hk.1.2, hk.2⟩⟩))); (case aS => exact (below_size (pH HB))); (case aL => have := LMc30.out; omega); intro v287 w41 ho hb hg hat; rw [← Ny286.out] at ho; replace BK246 := AM (blk_grown (g := gb246) (o := .cells #[.slice (some ad268) l0_0.length c0_0, .slice A0_1 l0_1.length c0_1, .slice A0_2 l0_2.length c0_2] 69 (0, 0)) (pB BK246) hg (Kd.R_ne HO281.out BK246.out (by decide))); replace HO271 := AM (Kd.R_after (ok := (fun k_ => some k_ ≠ (.slice Ao38 t276.length co38 : Value).ownBlock ∧ some k_ ≠ (.slice Ao42 t283.length co42 : Value).ownBlock)) (by (with_reducible repeat (first | apply Kd.R_alloc | apply Kd.R_drewN | apply Kd.R_drew)); exact Kd.R_mono HO271.out (fun _ hk => ⟨⟨hk.1.1, hk.2⟩, hk.1.2⟩)) hg hat); replace HO278 := AM (Kd.R_after (ok := (fun k_ => some k_ ≠ (.slice Ao34 t269.length co34 : Value).ownBlock ∧ some k_ ≠ (.slice Ao42 t283.length co42 : Value).ownBlock)) (by (with_reducible repeat (first | apply Kd.R_alloc | apply Kd.R_drewN | apply Kd.R_drew)); exact Kd.R_mono HO278.out (fun _ hk => ⟨⟨hk.1.1, hk.2⟩, hk.1.2⟩)) hg hat); replace HO285 := AM (Kd.R_after (ok := (fun k_ => some k_ ≠ (.slice Ao34 t269.length co34 : Value).ownBlock ∧ some k_ ≠ (.slice Ao38 t276.length co38 : Value).ownBlock)) (by (with_reducible repeat (first | apply Kd.R_alloc | apply Kd.R_drewN | apply Kd.R_drew)); exact Kd.R_mono HO285.out (fun _ hk => ⟨⟨hk.1.1.2, hk.1.2⟩, hk.2⟩)) hg hat); replace HB := AM (hb); have HO288 := AM (ho); clear HO281; clear ho hb hg hat))
     go_roundg k1
     case measure => have := HK1.out; omega
     case rel => exact ⟨(y286), (wrap64 (x4_1 + 1)), (by first | rfl | (simp; done) | (simp [*]; done)), H', ⟨by have := HK1.out; omega⟩, ⟨by (with_reducible repeat (first | apply Kd.R_alloc | apply Kd.R_drewN | apply Kd.R_drew)); exact Kd.R_mono HO288.out (fun _ hk => trivial)⟩, ⟨by refine sB ?_; exact BK246.out⟩, ⟨pH HB⟩⟩
   rw [if_neg c23] at H
   have c23b0 : decide (x4_1 < (l0_0.length : Int)) = false := decide_eq_false c23
   clear c23
   have H' := AM H
   clear H
   have hcz43_0 : wr.cell? ⟨gb246, 0, none⟩ = some (.slice A0_0 l0_0.length c0_0) := (blk_cell BK246.out 0).trans rfl
   have hcz43_1 : wr.cell? ⟨gb246, 1, none⟩ = some (.slice A0_1 l0_1.length c0_1) := (blk_cell BK246.out 1).trans rfl
   have hcz43_2 : wr.cell? ⟨gb246, 2, none⟩ = some (.slice A0_2 l0_2.length c0_2) := (blk_cell BK246.out 2).trans rfl
   have hfz43_0 := blk_frozen BK246.out 0; have hfz43_1 := blk_frozen BK246.out 1; have hfz43_2 := blk_frozen BK246.out 2
   go_wp2
   go_loopg [3, 5] k1 (fun kq v3 v5 w' => ∃ (x3_2 : List Int) (x5_2 : Int), v5 = .int .i64 x5_2 ∧ Aside0 (spec_l6scene.l1 kq x3_2 x5_2 l0_0 l0_1 l0_2 = some r) ∧ Aside0 (kq ≤ k1) ∧ Aside0 (Kd.R (Kd.int .u8) 5 w' w.heap.size (fun _ => True) v3 x3_2) ∧ Aside0 (w'.heap[gb246]? = some (.cells #[(.slice A0_0 l0_0.length c0_0), (.slice A0_1 l0_1.length c0_1), (.slice A0_2 l0_2.length c0_2)] 69 (0, 0))) ∧ Aside0 (Below w.heap.size w w'))
   case atStart => exact ⟨(x3_1), (0), (by first | rfl | (simp; done) | (simp [*]; done)), H', ⟨Nat.le_refl _⟩, ⟨by (with_reducible repeat (first | apply Kd.R_alloc | apply Kd.R_drewN | apply Kd.R_drew)); exact HO_3.out⟩, ⟨by refine sB ?_; exact BK246.out⟩, ⟨pH HB⟩⟩
   case round =>
    clear H'
    try clear c1
    try clear c2
    try clear p2
    try clear q2
    try clear hx2
    try clear c3
    try clear c5
    try clear p6
    try clear c7
    try clear c11
    try clear c12
    try clear c14
    try clear c23
    try clear c23b0
    try clear c24
    try clear c24b0
    try clear c26
    try clear p26
    try clear q26
    try clear hx26
    try clear p27
    try clear q27
    try clear hx27
    try clear c28
    try clear p28
    try clear q28
    try clear hx28
    try clear c30
    try clear hcz11_0
    try clear hcz11_1
    try clear hcz11_2
    try clear hcz15_0
    try clear hcz15_1
    try clear hcz15_2
    try clear hcz19_0
    try clear hcz19_1
    try clear hcz19_2
    try clear hcz31_0
    try clear hcz31_1
    try clear hcz31_2
    try clear hcz35_0
    try clear hcz35_1
    try clear hcz35_2
    try clear hcz39_0
    try clear hcz39_1
    try clear hcz39_2
    try clear hcz43_0
    try clear hcz43_1
    try clear hcz43_2
    try clear hfz11_0
    try clear hfz11_1
    try clear hfz11_2
    try clear hfz15_0
    try clear hfz15_1
    try clear hfz15_2
    try clear hfz19_0
    try clear hfz19_1
    try clear hfz19_2
    try clear hfz31_0
    try clear hfz31_1
    try clear hfz31_2
    try clear hfz35_0
    try clear hfz35_1
    try clear hfz35_2
    try clear hfz39_0
    try clear hfz39_1
    try clear hfz39_2
    try clear hfz43_0
    try clear hfz43_1
    try clear hfz43_2
    try clear hx268_0
    try clear hx268_1
    try clear hx268_2
    try clear hx268_3
    try clear hx268_4
    try clear hx268_5
    try clear hx268_6
    try clear hx268_7
    try clear hx268_8
    try clear hx275_0
    try clear hx275_1
    try clear hx275_2
    try clear hx275_3
    try clear hx275_4
    try clear hx275_5
    try clear hx275_6
    try clear hx275_7
    try clear hx275_8
    try clear hx282_0
    try clear hx282_1
    try clear hx282_2
    try clear hx282_3
    try clear hx282_4
    try clear hx282_5
    try clear hx282_6
    try clear hx282_7
    try clear hx282_8
    try clear p2
    try clear p268
    try clear p275
    try clear p282
    try clear q268
    try clear q275
    try clear q282
    obtain ⟨x3_2, x5_2, rfl, HA, HK2, HO_3, BK246, HB⟩ := hrel
    cases gk with
    | zero => exact absurd HA.out (by simp [spec_l6scene.l1])
    | succ k2 =>
     have H := HA.out; clear HA
     simp only [spec_l6scene.l1] at H
     by_cases c44 : x5_2 < (l0_1.length : Int)
     · rw [if_pos c44] at H
       have c44b0 : decide (x5_2 < (l0_1.length : Int)) = true := decide_eq_true c44
       clear c44
       by_cases c45 : 0 ≤ x5_2
       rotate_left
       · rw [if_neg c45] at H
         exact absurd H (by simp)
       rw [if_pos c45] at H
       have c45b0 : decide (0 ≤ x5_2) = true := decide_eq_true c45
       clear c45
       replace H := Option.bind_eq_some_iff.mp H
       obtain ⟨t290, A460, H⟩ := H
       (try dsimp only at H)
       have A46 := AM A460; clear A460
       by_cases c47 : x3_2.length + t290.length < 140737488355328
       rotate_left
       · rw [if_neg c47] at H
         exact absurd H (by simp)
       rw [if_pos c47] at H
       have LMc47 := AM c47; clear c47
       obtain ⟨y293, hy293⟩ : ∃ y_ : List Int, y_ = (x3_2 ++ t290) := ⟨_, rfl⟩
       replace H : ((spec_l6point.f k2 ((rd_T127 l0_1 x5_2).f1.f0) ((rd_T127 l0_1 x5_2).f1.f1) ((rd_T127 l0_1 x5_2).f1.f2)).bind fun t297 => (if y293.length + t297.length < 140737488355328 then (spec_l6scene.l1 k2 (y293 ++ t297) (wrap64 (x5_2 + 1)) l0_0 l0_1 l0_2) else (none))) = some r := by first | (rw [hy293]; with_reducible exact H) | (have H2_ := (Option.bind_some _ _).symm.trans H; rw [hy293]; with_reducible exact H2_) | (have H2_ := (Option.bind_some _ _).symm.trans H; with_reducible exact H2_) | with_reducible exact H | (rw [hy293]; exact H) | exact H
       have Ny293 := AM hy293; clear hy293
       replace H := Option.bind_eq_some_iff.mp H
       obtain ⟨t297, A480, H⟩ := H
       (try dsimp only at H)
       have A48 := AM A480; clear A480
       by_cases c49 : y293.length + t297.length < 140737488355328
       rotate_left
       · rw [if_neg c49] at H
         exact absurd H (by simp)
       rw [if_pos c49] at H
       have LMc49 := AM c49; clear c49
       obtain ⟨y300, hy300⟩ : ∃ y_ : List Int, y_ = (y293 ++ t297) := ⟨_, rfl⟩
       replace H : (spec_l6scene.l1 k2 y300 (wrap64 (x5_2 + 1)) l0_0 l0_1 l0_2) = some r := by first | (rw [hy300]; with_reducible exact H) | (have H2_ := (Option.bind_some _ _).symm.trans H; rw [hy300]; with_reducible exact H2_) | (have H2_ := (Option.bind_some _ _).symm.trans H; with_reducible exact H2_) | with_reducible exact H | (rw [hy300]; exact H) | exact H
       have Ny300 := AM hy300; clear hy300
       have H' := AM H
       clear H
       have hcz50_0 : wr.cell? ⟨gb246, 0, none⟩ = some (.slice A0_0 l0_0.length c0_0) := (blk_cell BK246.out 0).trans rfl
       have hcz50_1 : wr.cell? ⟨gb246, 1, none⟩ = some (.slice A0_1 l0_1.length c0_1) := (blk_cell BK246.out 1).trans rfl
       have hcz50_2 : wr.cell? ⟨gb246, 2, none⟩ = some (.slice A0_2 l0_2.length c0_2) := (blk_cell BK246.out 2).trans rfl
       have hfz50_0 := blk_frozen BK246.out 0; have hfz50_1 := blk_frozen BK246.out 1; have hfz50_2 := blk_frozen BK246.out 2
       have p289 : 0 ≤ (x5_2 : Int) := of_decide_eq_true (by first | (with_reducible assumption) | assumption)
       have q289 : x5_2 < (l0_1.length : Int) := of_decide_eq_true (by first | (with_reducible assumption) | assumption)
       obtain ⟨ad289, e289, hx289_0, hx289_1, hx289_2, hx289_3, hx289_4, hx289_5⟩ := at_T127 HR0_1.out x5_2 p289 q289
       cases e289
       replace hx289_0 := (HB.out.cell (World.block_lt_of_cell? w _ hx289_0)).trans hx289_0; replace hx289_1 := (HB.out.cell (World.block_lt_of_cell? w _ hx289_1)).trans hx289_1; replace hx289_2 := (HB.out.cell (World.block_lt_of_cell? w _ hx289_2)).trans hx289_2; replace hx289_3 := (HB.out.cell (World.block_lt_of_cell? w _ hx289_3)).trans hx289_3; replace hx289_4 := (HB.out.cell (World.block_lt_of_cell? w _ hx289_4)).trans hx289_4; replace hx289_5 := (HB.out.cell (World.block_lt_of_cell? w _ hx289_5)).trans hx289_5; replace p289 := eq_true p289; replace q289 := eq_true q289
       go_wp2_with (first | ((with_reducible refine gate_callee (f := 145) rfl ?_); refine goesL_ (some 75) rfl rfl Try.func145 (by kernel_rfl) rfl #[.agg #[.int .u32 ((rd_T127 l0_1 x5_2).f0.f0), .int .u32 ((rd_T127 l0_1 x5_2).f0.f1), .int .u32 ((rd_T127 l0_1 x5_2).f0.f2)]] rfl (by (try simp only [List.map_toArray, List.map_cons, List.map_nil]); first | done | rfl | (simp only [List.length_drop, List.length_take]; rfl)) ?_; (with_reducible refine (spec_l6point.calls k2 ((rd_T127 l0_1 x5_2).f0.f0) ((rd_T127 l0_1 x5_2).f0.f1) ((rd_T127 l0_1 x5_2).f0.f2) t290 _ A46.out).mono ?_); rintro e w51 ⟨v291, rfl, ho0, hb⟩; refine ⟨_, rfl, ?_⟩; have HO292 := AM (Kd.R_lower (Kd.R_new' ho0 (Kd.R_lt (pR HO_3))) (below_size (pH HB))); replace HO_3 := AM (Kd.R_elder' (pR HO_3) (Kd.R_base ho0) hb); replace BK246 := bB BK246 hb; replace HB := AM (below_step (pH HB) hb); (try clear hb); (try clear hb2); (try clear hk); (try clear hi); (try clear ho0); obtain ⟨Ao53, co53, eo53⟩ := Kd.R_slice HO292.out; subst eo53) | ((with_reducible refine gate_builtin (b := .append) (xs := #[.tmp 68, .tmp 75]) rfl ?_); at_builtin; refine Kd.R_append_rows (Kd.int .u8) (w0 := w) w.heap.size rfl (.tmp 68) (.tmp 75) 41 5 (.int .u8 0) 1 rfl Try.underlying41 info5 rfl (by decide) (by omega) u3 x3_2 t290 _ _ _ (fun k_ => some k_ ≠ (.slice Ao53 t290.length co53 : Value).ownBlock) (fun _ => False) rfl rfl ?aO ?aR (fun _ _ h => h) (fun _ h => h.elim) ?aF ?aB ?aS ?aL ?_; (case aR => exact cR HO292); (case aB => exact (pH HB)); (case aF => exact (fun k_ hk => Kd.fresh' (Kd.R_lt (pR HO292)) k_ hk)); (case aO => exact (by (with_reducible repeat (first | apply Kd.R_alloc | apply Kd.R_drewN | apply Kd.R_drew)); exact Kd.R_mono HO_3.out (fun _ hk => hk.2))); (case aS => exact (below_size (pH HB))); (case aL => have := LMc47.out; omega); intro v294 w52 ho hb hg hat; rw [← Ny293.out] at ho; replace BK246 := AM (blk_grown (g := gb246) (o := .cells #[.slice A0_0 l0_0.length c0_0, .slice (some ad289) l0_1.length c0_1, .slice A0_2 l0_2.length c0_2] 69 (0, 0)) (pB BK246) hg (Kd.R_ne HO_3.out BK246.out (by decide))); replace HO292 := AM (Kd.R_after (ok := (fun _ => True)) (pR HO292) hg hat); replace HB := AM (hb); have HO295 := AM (ho); clear HO_3; clear ho hb hg hat; have ⟨hcz54_0, hcz54_1, hcz54_2, hfz54_0, hfz54_1, hfz54_2⟩ := z3 BK246; have p296 : 0 ≤ (x5_2 : Int) := of_decide_eq_true (by first | (with_reducible assumption) | assumption); have q296 : x5_2 < (l0_1.length : Int) := of_decide_eq_true (by first | (with_reducible assumption) | assumption); obtain ⟨ad296, e296, hx296_0, hx296_1, hx296_2, hx296_3, hx296_4, hx296_5⟩ := at_T127 HR0_1.out x5_2 p296 q296; obtain rfl : ad289 = ad296 := (by injection e296); replace hx296_0 := (HB.out.cell (World.block_lt_of_cell? w _ hx296_0)).trans hx296_0; replace hx296_1 := (HB.out.cell (World.block_lt_of_cell? w _ hx296_1)).trans hx296_1; replace hx296_2 := (HB.out.cell (World.block_lt_of_cell? w _ hx296_2)).trans hx296_2; replace hx296_3 := (HB.out.cell (World.block_lt_of_cell? w _ hx296_3)).trans hx296_3; replace hx296_4 := (HB.out.cell (World.block_lt_of_cell? w _ hx296_4)).trans hx296_4; replace hx296_5 := (HB.out.cell (World.block_lt_of_cell? w _ hx296_5)).trans hx296_5; replace p296 := eq_true p296; replace q296 := eq_true q296) | ((with_reducible refine gate_callee (f := 145) rfl ?_); refine goesL_ (some 84) rfl rfl Try.func145 (by kernel_rfl) rfl #[.agg #[.int .u32 ((rd_T127 l0_1 x5_2).f1.f0), .int .u32 ((rd_T127 l0_1 x5_2).f1.f1), .int .u32 ((rd_T127 l0_1 x5_2).f1.f2)]] rfl (by (try simp only [List.map_toArray, List.map_cons, List.map_nil]); first | done | rfl | (simp only [List.length_drop, List.length_take]; rfl)) ?_; (with_reducible refine (spec_l6point.calls k2 ((rd_T127 l0_1 x5_2).f1.f0) ((rd_T127 l0_1 x5_2).f1.f1) ((rd_T127 l0_1 x5_2).f1.f2) t297 _ A48.out).mono ?_); rintro e w55 ⟨v298, rfl, ho0, hb⟩; refine ⟨_, rfl, ?_⟩; have HO299 := AM (Kd.R_lower (Kd.R_new' (Kd.R_new' ho0 (Kd.R_lt (pR HO292))) (Kd.R_lt (pR HO295))) (below_size (pH HB))); replace HO292 := AM (Kd.R_elder' (pR HO292) (Kd.R_base ho0) hb); replace HO295 := AM (Kd.R_elder' (pR HO295) (Kd.R_base ho0) hb); replace BK246 := bB BK246 hb; replace HB := AM (below_step (pH HB) hb); (try clear hb); (try clear hb2); (try clear hk); (try clear hi); (try clear ho0); obtain ⟨Ao57, co57, eo57⟩ := Kd.R_slice HO299.out; subst eo57) | ((with_reducible refine gate_builtin (b := .append) (xs := #[.tmp 77, .tmp 84]) rfl ?_); at_builtin; refine Kd.R_append_rows (Kd.int .u8) (w0 := w) w.heap.size rfl (.tmp 77) (.tmp 84) 41 5 (.int .u8 0) 1 rfl Try.underlying41 info5 rfl (by decide) (by omega) v294 y293 t297 _ _ _ (fun k_ => some k_ ≠ (.slice Ao53 t290.length co53 : Value).ownBlock ∧ some k_ ≠ (.slice Ao57 t297.length co57 : Value).ownBlock) (fun _ => False) rfl rfl ?aO ?aR (fun _ _ h => h) (fun _ h => h.elim) ?aF ?aB ?aS ?aL ?_; (case aR => exact cR HO299); (case aB => exact (pH HB)); (case aF => exact (fun k_ hk => ⟨Kd.fresh' (Kd.R_lt (pR HO292)) k_ hk, Kd.fresh' (Kd.R_lt (pR HO299)) k_ hk⟩)); (case aO => exact (pR HO295)); (case aS => exact (below_size (pH HB))); (case aL => have := LMc49.out; omega); intro v301 w56 ho hb hg hat; rw [← Ny300.out] at ho; replace BK246 := AM (blk_grown (g := gb246) (o := .cells #[.slice A0_0 l0_0.length c0_0, .slice (some ad289) l0_1.length c0_1, .slice A0_2 l0_2.length c0_2] 69 (0, 0)) (pB BK246) hg (Kd.R_ne HO295.out BK246.out (by decide))); replace HO292 := AM (Kd.R_after (ok := (fun k_ => some k_ ≠ (.slice Ao57 t297.length co57 : Value).ownBlock)) (by (with_reducible repeat (first | apply Kd.R_alloc | apply Kd.R_drewN | apply Kd.R_drew)); exact Kd.R_mono HO292.out (fun _ hk => ⟨hk.2, hk.1.2⟩)) hg hat); replace HO299 := AM (Kd.R_after (ok := (fun k_ => some k_ ≠ (.slice Ao53 t290.length co53 : Value).ownBlock)) (by (with_reducible repeat (first | apply Kd.R_alloc | apply Kd.R_drewN | apply Kd.R_drew)); exact Kd.R_mono HO299.out (fun _ hk => ⟨hk.1.2, hk.2⟩)) hg hat); replace HB := AM (hb); have HO302 := AM (ho); clear HO295; clear ho hb hg hat))
       go_roundg k2
       case measure => have := HK1.out; have := HK2.out; omega
       case rel => exact ⟨(y300), (wrap64 (x5_2 + 1)), (by first | rfl | (simp; done) | (simp [*]; done)), H', ⟨by have := HK1.out; have := HK2.out; omega⟩, ⟨by (with_reducible repeat (first | apply Kd.R_alloc | apply Kd.R_drewN | apply Kd.R_drew)); exact Kd.R_mono HO302.out (fun _ hk => trivial)⟩, ⟨by refine sB ?_; exact BK246.out⟩, ⟨pH HB⟩⟩
     rw [if_neg c44] at H
     have c44b0 : decide (x5_2 < (l0_1.length : Int)) = false := decide_eq_false c44
     clear c44
     have H' := AM H
     clear H
     have hcz58_0 : wr.cell? ⟨gb246, 0, none⟩ = some (.slice A0_0 l0_0.length c0_0) := (blk_cell BK246.out 0).trans rfl
     have hcz58_1 : wr.cell? ⟨gb246, 1, none⟩ = some (.slice A0_1 l0_1.length c0_1) := (blk_cell BK246.out 1).trans rfl
     have hcz58_2 : wr.cell? ⟨gb246, 2, none⟩ = some (.slice A0_2 l0_2.length c0_2) := (blk_cell BK246.out 2).trans rfl
     have hfz58_0 := blk_frozen BK246.out 0; have hfz58_1 := blk_frozen BK246.out 1; have hfz58_2 := blk_frozen BK246.out 2
     go_wp2
     go_loopg [3, 6] k2 (fun kq v3 v6 w' => ∃ (x3_3 : List Int) (x6_3 : Int), v6 = .int .i64 x6_3 ∧ Aside0 (spec_l6scene.l2 kq x3_3 x6_3 l0_0 l0_1 l0_2 = some r) ∧ Aside0 (kq ≤ k2) ∧ Aside0 (Kd.R (Kd.int .u8) 5 w' w.heap.size (fun _ => True) v3 x3_3) ∧ Aside0 (w'.heap[gb246]? = some (.cells #[(.slice A0_0 l0_0.length c0_0), (.slice A0_1 l0_1.length c0_1), (.slice A0_2 l0_2.length c0_2)] 69 (0, 0))) ∧ Aside0 (Below w.heap.size w w'))
     case atStart => exact ⟨(x3_2), (0), (by first | rfl | (simp; done) | (simp [*]; done)), H', ⟨Nat.le_refl _⟩, ⟨by (with_reducible repeat (first | apply Kd.R_alloc | apply Kd.R_drewN | apply Kd.R_drew)); exact HO_3.out⟩, ⟨by refine sB ?_; exact BK246.out⟩, ⟨pH HB⟩⟩
     case round =>
      clear H'
      try clear c1
      try clear c2
      try clear p2
      try clear q2
      try clear hx2
      try clear c3
      try clear c4
      try clear c5
      try clear p6
      try clear c7
      try clear c11
      try clear c12
      try clear c14
      try clear c23
      try clear c23b0
      try clear c24
      try clear c24b0
      try clear c26
      try clear p26
      try clear q26
      try clear hx26
      try clear p27
      try clear q27
      try clear hx27
      try clear c28
      try clear p28
      try clear q28
      try clear hx28
      try clear p29
      try clear q29
      try clear hx29
      try clear c30
      try clear c44
      try clear c44b0
      try clear c45
      try clear c45b0
      try clear c47
      try clear c49
      try clear hcz11_0
      try clear hcz11_1
      try clear hcz11_2
      try clear hcz15_0
      try clear hcz15_1
      try clear hcz15_2
      try clear hcz19_0
      try clear hcz19_1
      try clear hcz19_2
      try clear hcz31_0
      try clear hcz31_1
      try clear hcz31_2
      try clear hcz35_0
      try clear hcz35_1
      try clear hcz35_2
      try clear hcz39_0
      try clear hcz39_1
      try clear hcz39_2
      try clear hcz43_0
      try clear hcz43_1
      try clear hcz43_2
      try clear hcz50_0
      try clear hcz50_1
      try clear hcz50_2
      try clear hcz54_0
      try clear hcz54_1
      try clear hcz54_2
      try clear hcz58_0
      try clear hcz58_1
      try clear hcz58_2
      try clear hfz11_0
      try clear hfz11_1
      try clear hfz11_2
      try clear hfz15_0
      try clear hfz15_1
      try clear hfz15_2
      try clear hfz19_0
      try clear hfz19_1
      try clear hfz19_2
      try clear hfz31_0
      try clear hfz31_1
      try clear hfz31_2
      try clear hfz35_0
      try clear hfz35_1
      try clear hfz35_2
      try clear hfz39_0
      try clear hfz39_1
      try clear hfz39_2
      try clear hfz43_0
      try clear hfz43_1
      try clear hfz43_2
      try clear hfz50_0
      try clear hfz50_1
      try clear hfz50_2
      try clear hfz54_0
      try clear hfz54_1
      try clear hfz54_2
      try clear hfz58_0
      try clear hfz58_1
      try clear hfz58_2
      try clear hx268_0
      try clear hx268_1
      try clear hx268_2
      try clear hx268_3
      try clear hx268_4
      try clear hx268_5
      try clear hx268_6
      try clear hx268_7
      try clear hx268_8
      try clear hx275_0
      try clear hx275_1
      try clear hx275_2
      try clear hx275_3
      try clear hx275_4
      try clear hx275_5
      try clear hx275_6
      try clear hx275_7
      try clear hx275_8
      try clear hx282_0
      try clear hx282_1
      try clear hx282_2
      try clear hx282_3
      try clear hx282_4
      try clear hx282_5
      try clear hx282_6
      try clear hx282_7
      try clear hx282_8
      try clear hx289_0
      try clear hx289_1
      try clear hx289_2
      try clear hx289_3
      try clear hx289_4
      try clear hx289_5
      try clear hx296_0
      try clear hx296_1
      try clear hx296_2
      try clear hx296_3
      try clear hx296_4
      try clear hx296_5
      try clear p2
      try clear p26
      try clear p268
      try clear p27
      try clear p275
      try clear p28
      try clear p282
      try clear p289
      try clear p296
      try clear p6
      try clear q2
      try clear q26
      try clear q268
      try clear q27
      try clear q275
      try clear q28
      try clear q282
      try clear q289
      try clear q296
      obtain ⟨x3_3, x6_3, rfl, HA, HK3, HO_3, BK246, HB⟩ := hrel
      cases gk with
      | zero => exact absurd HA.out (by simp [spec_l6scene.l2])
      | succ k3 =>
       have H := HA.out; clear HA
       simp only [spec_l6scene.l2] at H
       by_cases c59 : x6_3 < (l0_2.length : Int)
       rotate_left
       · rw [if_neg c59] at H
         have c59b0 : decide (x6_3 < (l0_2.length : Int)) = false := decide_eq_false c59
         clear c59
         obtain rfl := Option.some.inj H
         have hcz67_0 : wr.cell? ⟨gb246, 0, none⟩ = some (.slice A0_0 l0_0.length c0_0) := (blk_cell BK246.out 0).trans rfl
         have hcz67_1 : wr.cell? ⟨gb246, 1, none⟩ = some (.slice A0_1 l0_1.length c0_1) := (blk_cell BK246.out 1).trans rfl
         have hcz67_2 : wr.cell? ⟨gb246, 2, none⟩ = some (.slice A0_2 l0_2.length c0_2) := (blk_cell BK246.out 2).trans rfl
         have hfz67_0 := blk_frozen BK246.out 0; have hfz67_1 := blk_frozen BK246.out 1; have hfz67_2 := blk_frozen BK246.out 2
         go_wp2
         go_ret
         exact ⟨_, by first | rfl | (simp [errW_none, errW_some] <;> rfl) | (simp [*, errW_none, errW_some] <;> rfl), by (with_reducible repeat (first | apply Kd.R_alloc | apply Kd.R_drewN | apply Kd.R_drew)); exact HO_3.out, pH HB⟩
       rw [if_pos c59] at H
       have c59b0 : decide (x6_3 < (l0_2.length : Int)) = true := decide_eq_true c59
       clear c59
       by_cases c60 : 0 ≤ x6_3
       rotate_left
       · rw [if_neg c60] at H
         exact absurd H (by simp)
       rw [if_pos c60] at H
       have c60b0 : decide (0 ≤ x6_3) = true := decide_eq_true c60
       clear c60
       replace H := Option.bind_eq_some_iff.mp H
       obtain ⟨t304, A610, H⟩ := H
       (try dsimp only at H)
       have A61 := AM A610; clear A610
       by_cases c62 : x3_3.length + t304.length < 140737488355328
       rotate_left
       · rw [if_neg c62] at H
         exact absurd H (by simp)
       rw [if_pos c62] at H
       have LMc62 := AM c62; clear c62
       obtain ⟨y307, hy307⟩ : ∃ y_ : List Int, y_ = (x3_3 ++ t304) := ⟨_, rfl⟩
       replace H : (spec_l6scene.l2 k3 y307 (wrap64 (x6_3 + 1)) l0_0 l0_1 l0_2) = some r := by first | (rw [hy307]; with_reducible exact H) | (have H2_ := (Option.bind_some _ _).symm.trans H; rw [hy307]; with_reducible exact H2_) | (have H2_ := (Option.bind_some _ _).symm.trans H; with_reducible exact H2_) | with_reducible exact H | (rw [hy307]; exact H) | exact H
       have Ny307 := AM hy307; clear hy307
       have H' := AM H
       clear H
       have hcz63_0 : wr.cell? ⟨gb246, 0, none⟩ = some (.slice A0_0 l0_0.length c0_0) := (blk_cell BK246.out 0).trans rfl
       have hcz63_1 : wr.cell? ⟨gb246, 1, none⟩ = some (.slice A0_1 l0_1.length c0_1) := (blk_cell BK246.out 1).trans rfl
       have hcz63_2 : wr.cell? ⟨gb246, 2, none⟩ = some (.slice A0_2 l0_2.length c0_2) := (blk_cell BK246.out 2).trans rfl
       have hfz63_0 := blk_frozen BK246.out 0; have hfz63_1 := blk_frozen BK246.out 1; have hfz63_2 := blk_frozen BK246.out 2
       have p303 : 0 ≤ (x6_3 : Int) := of_decide_eq_true (by first | (with_reducible assumption) | assumption)
       have q303 : x6_3 < (l0_2.length : Int) := of_decide_eq_true (by first | (with_reducible assumption) | assumption)
       obtain ⟨ad303, e303, hx303_0, hx303_1, hx303_2⟩ := at_T125 HR0_2.out x6_3 p303 q303
       cases e303
       replace hx303_0 := (HB.out.cell (World.block_lt_of_cell? w _ hx303_0)).trans hx303_0; replace hx303_1 := (HB.out.cell (World.block_lt_of_cell? w _ hx303_1)).trans hx303_1; replace hx303_2 := (HB.out.cell (World.block_lt_of_cell? w _ hx303_2)).trans hx303_2; replace p303 := eq_true p303; replace q303 := eq_true q303
       go_wp2_with (first | ((with_reducible refine gate_callee (f := 145) rfl ?_); refine goesL_ (some 99) rfl rfl Try.func145 (by kernel_rfl) rfl #[.agg #[.int .u32 ((rd_T125 l0_2 x6_3).f0), .int .u32 ((rd_T125 l0_2 x6_3).f1), .int .u32 ((rd_T125 l0_2 x6_3).f2)]] rfl (by (try simp only [List.map_toArray, List.map_cons, List.map_nil]); first | done | rfl | (simp only [List.length_drop, List.length_take]; rfl)) ?_; (with_reducible refine (spec_l6point.calls k3 ((rd_T125 l0_2 x6_3).f0) ((rd_T125 l0_2 x6_3).f1) ((rd_T125 l0_2 x6_3).f2) t304 _ A61.out).mono ?_); rintro e w64 ⟨v305, rfl, ho0, hb⟩; refine ⟨_, rfl, ?_⟩; have HO306 := AM (Kd.R_lower (Kd.R_new' ho0 (Kd.R_lt (pR HO_3))) (below_size (pH HB))); replace HO_3 := AM (Kd.R_elder' (pR HO_3) (Kd.R_base ho0) hb); replace BK246 := bB BK246 hb; replace HB := AM (below_step (pH HB) hb); (try clear hb); (try clear hb2); (try clear hk); (try clear hi); (try clear ho0); obtain ⟨Ao66, co66, eo66⟩ := Kd.R_slice HO306.out; subst eo66) | ((with_reducible refine gate_builtin (b := .append) (xs := #[.tmp 93, .tmp 99]) rfl ?_); at_builtin; refine Kd.R_append_rows (Kd.int .u8) (w0 := w) w.heap.size rfl (.tmp 93) (.tmp 99) 41 5 (.int .u8 0) 1 rfl Try.underlying41 info5 rfl (by decide) (by omega) u3 x3_3 t304 _ _ _ (fun k_ => some k_ ≠ (.slice Ao66 t304.length co66 : Value).ownBlock) (fun _ => False) rfl rfl ?aO ?aR (fun _ _ h => h) (fun _ h => h.elim) ?aF ?aB ?aS ?aL ?_; (case aR => exact cR HO306); (case aB => exact (pH HB)); (case aF => exact (fun k_ hk => Kd.fresh' (Kd.R_lt (pR HO306)) k_ hk)); (case aO => exact (by (with_reducible repeat (first | apply Kd.R_alloc | apply Kd.R_drewN | apply Kd.R_drew)); exact Kd.R_mono HO_3.out (fun _ hk => hk.2))); (case aS => exact (below_size (pH HB))); (case aL => have := LMc62.out; omega); intro v308 w65 ho hb hg hat; rw [← Ny307.out] at ho; replace BK246 := AM (blk_grown (g := gb246) (o := .cells #[.slice A0_0 l0_0.length c0_0, .slice A0_1 l0_1.length c0_1, .slice (some ad303) l0_2.length c0_2] 69 (0, 0)) (pB BK246) hg (Kd.R_ne HO_3.out BK246.out (by decide))); replace HO306 := AM (Kd.R_after (ok := (fun _ => True)) (pR HO306) hg hat); replace HB := AM (hb); have HO309 := AM (ho); clear HO_3; clear ho hb hg hat))
       go_roundg k3
       case measure => have := HK1.out; have := HK2.out; have := HK3.out; omega
       case rel => exact ⟨(y307), (wrap64 (x6_3 + 1)), (by first | rfl | (simp; done) | (simp [*]; done)), H', ⟨by have := HK1.out; have := HK2.out; have := HK3.out; omega⟩, ⟨by (with_reducible repeat (first | apply Kd.R_alloc | apply Kd.R_drewN | apply Kd.R_drew)); exact Kd.R_mono HO309.out (fun _ hk => trivial)⟩, ⟨by refine sB ?_; exact BK246.out⟩, ⟨pH HB⟩⟩
/-! ### spec_EncodeScene: function 51 -/
def spec_EncodeScene.f (k : Nat) (l0_0 : List (S151)) (l0_1 : List (S127)) (l0_2 : List (S125)) : Option (List Int) := (spec_ValidScene.f k l0_0 l0_1 l0_2).bind fun t311 => (if t311 = true then ((spec_l6scene.f k l0_0 l0_1 l0_2).bind fun t312 => (some t312)) else (some ([] : List Int)))
theorem spec_EncodeScene.mono : ∀ a0 a1 a2 k, LeO (spec_EncodeScene.f k a0 a1 a2) (spec_EncodeScene.f (k + 1) a0 a1 a2) := by
 intro a0 a1 a2 k
 unfold spec_EncodeScene.f
 repeat' with_reducible first | exact spec_ValidScene.mono _ _ _ _ | exact spec_l6scene.mono _ _ _ _ | exact LeO.refl _ | exact LeO.none _ | refine LeO.ite ?_ ?_ | refine LeO.bind ?_ (fun _ => ?_)
set_option maxHeartbeats 8000000 in
set_option maxRecDepth 100000 in
theorem spec_EncodeScene.calls (k : Nat) (A0_0 : Option Addr) (c0_0 : Nat) (l0_0 : List (S151)) (A0_1 : Option Addr) (c0_1 : Nat) (l0_1 : List (S127)) (A0_2 : Option Addr) (c0_2 : Nat) (l0_2 : List (S125)) (r : List Int) (w : World) (hr0_0 : Kd.C k151 w A0_0 l0_0.length l0_0) (hc0_0 : l0_0.length ≤ c0_0) (hr0_1 : Kd.C k127 w A0_1 l0_1.length l0_1) (hc0_1 : l0_1.length ≤ c0_1) (hr0_2 : Kd.C k125 w A0_2 l0_2.length l0_2) (hc0_2 : l0_2.length ≤ c0_2) (h : spec_EncodeScene.f k l0_0 l0_1 l0_2 = some r) :
 Calls Try.prog 51 #[.agg #[.slice A0_0 l0_0.length c0_0, .slice A0_1 l0_1.length c0_1, .slice A0_2 l0_2.length c0_2]] w fun e w' => ∃ v0_ : Value, e = .returned (v0_) ∧ Kd.R (Kd.int .u8) 5 w' w.heap.size (fun _ => True) v0_ r ∧ Below w.heap.size w w' := by
 have hu69 := Try.underlying69; have HR0_0 := AM hr0_0; have HC0_0 := AM hc0_0; clear hr0_0 hc0_0; have HR0_1 := AM hr0_1; have HC0_1 := AM hc0_1; clear hr0_1 hc0_1; have HR0_2 := AM hr0_2; have HC0_2 := AM hc0_2; clear hr0_2 hc0_2; have HB := AM (Below.refl w.heap.size w)
 have H : ((spec_ValidScene.f k l0_0 l0_1 l0_2).bind fun t311 => (if t311 = true then ((spec_l6scene.f k l0_0 l0_1 l0_2).bind fun t312 => (some t312)) else (some ([] : List Int)))) = some r := h
 clear h
 replace H := Option.bind_eq_some_iff.mp H
 obtain ⟨t311, A20, H⟩ := H
 (try dsimp only at H)
 have A2 := AM A20; clear A20
 by_cases c3 : t311 = true
 rotate_left
 · replace c3 := Bool.eq_false_iff.mpr c3
   subst c3
   have H1 : (some ([] : List Int)) = some r := by rw [if_neg (show ¬ (false = true) by decide)] at H; exact H
   clear H; have H := H1; clear H1
   obtain rfl := Option.some.inj H
   go_enter Try.func51, Try.ntmps51
   go_wp2_with (first | ((with_reducible refine gate_dst (N := 1) rfl ?_); refine box_event ?hg (N := 1) ?hd (cs := #[.slice A0_0 l0_0.length c0_0, .slice A0_1 l0_1.length c0_1, .slice A0_2 l0_2.length c0_2]) (t := 69) ?hr ?_; (case hd => rfl); (case hg => rfl); (case hr => first | (go_simp; done) | (go_simp; rfl)); intro gb310 hg w10 hbox hb; have BK310 := AM (hbox); have GW310 := gH HB hg; have GE310 := gH HB hg; replace HB := AM (below_step (pH HB) hb); clear hb hbox hg; have ⟨hcz11_0, hcz11_1, hcz11_2, hfz11_0, hfz11_1, hfz11_2⟩ := z3 BK310) | ((with_reducible refine gate_callee (f := 38) rfl ?_); refine goesL_ (some 4) rfl rfl Try.func38 (by kernel_rfl) rfl #[.agg #[.slice A0_0 l0_0.length c0_0, .slice A0_1 l0_1.length c0_1, .slice A0_2 l0_2.length c0_2]] rfl (by (try simp only [List.map_toArray, List.map_cons, List.map_nil]); first | done | rfl | (simp only [List.length_drop, List.length_take]; rfl)) ?_; (with_reducible refine (spec_ValidScene.calls k _ _ l0_0 _ _ l0_1 _ _ l0_2 false _ ?side1 ?side2 ?side3 ?side4 ?side5 ?side6 A2.out).mono ?_); (case side1 => exact cB HR0_0 HB); (case side2 => exact HC0_0.out); (case side3 => exact cB HR0_1 HB); (case side4 => exact HC0_1.out); (case side5 => exact cB HR0_2 HB); (case side6 => exact HC0_2.out); rintro e w12 ⟨rfl, hb⟩; refine ⟨_, rfl, ?_⟩; replace BK310 := bB BK310 hb; replace HB := AM (below_step (pH HB) hb); (try clear hb); (try clear hb2); (try clear hk); (try clear hi)))
   go_ret
   exact ⟨_, by first | rfl | (simp [errW_none, errW_some] <;> rfl) | (simp [*, errW_none, errW_some] <;> rfl), by first | exact Kd.R_nil _ _ _ _ _ | exact Kd.N_nil _ _ _ _ _ | exact Kd.V_nil _ _ _ _ _ | exact Kd.Q_nil _ _ _ _ _ | exact Kd.S_nil _ _ _ _ _, pH HB⟩

 subst c3
 have H1 : ((spec_l6scene.f k l0_0 l0_1 l0_2).bind fun t312 => (some t312)) = some r := by rw [if_pos rfl] at H; exact H
 clear H; have H := H1; clear H1
 replace H := Option.bind_eq_some_iff.mp H
 obtain ⟨t312, A40, H⟩ := H
 (try dsimp only at H)
 have A4 := AM A40; clear A40
 obtain rfl := Option.some.inj H
 go_enter Try.func51, Try.ntmps51
 go_wp2_with (first | ((with_reducible refine gate_dst (N := 1) rfl ?_); refine box_event ?hg (N := 1) ?hd (cs := #[.slice A0_0 l0_0.length c0_0, .slice A0_1 l0_1.length c0_1, .slice A0_2 l0_2.length c0_2]) (t := 69) ?hr ?_; (case hd => rfl); (case hg => rfl); (case hr => first | (go_simp; done) | (go_simp; rfl)); intro gb310 hg w5 hbox hb; have BK310 := AM (hbox); have GW310 := gH HB hg; have GE310 := gH HB hg; replace HB := AM (below_step (pH HB) hb); clear hb hbox hg; have ⟨hcz6_0, hcz6_1, hcz6_2, hfz6_0, hfz6_1, hfz6_2⟩ := z3 BK310) | ((with_reducible refine gate_callee (f := 38) rfl ?_); refine goesL_ (some 4) rfl rfl Try.func38 (by kernel_rfl) rfl #[.agg #[.slice A0_0 l0_0.length c0_0, .slice A0_1 l0_1.length c0_1, .slice A0_2 l0_2.length c0_2]] rfl (by (try simp only [List.map_toArray, List.map_cons, List.map_nil]); first | done | rfl | (simp only [List.length_drop, List.length_take]; rfl)) ?_; (with_reducible refine (spec_ValidScene.calls k _ _ l0_0 _ _ l0_1 _ _ l0_2 true _ ?side1 ?side2 ?side3 ?side4 ?side5 ?side6 A2.out).mono ?_); (case side1 => exact cB HR0_0 HB); (case side2 => exact HC0_0.out); (case side3 => exact cB HR0_1 HB); (case side4 => exact HC0_1.out); (case side5 => exact cB HR0_2 HB); (case side6 => exact HC0_2.out); rintro e w7 ⟨rfl, hb⟩; refine ⟨_, rfl, ?_⟩; replace BK310 := bB BK310 hb; replace HB := AM (below_step (pH HB) hb); (try clear hb); (try clear hb2); (try clear hk); (try clear hi); have ⟨hcz8_0, hcz8_1, hcz8_2, hfz8_0, hfz8_1, hfz8_2⟩ := z3 BK310) | ((with_reducible refine gate_callee (f := 110) rfl ?_); refine goesL_ (some 7) rfl rfl Try.func110 (by kernel_rfl) rfl #[.agg #[.slice A0_0 l0_0.length c0_0, .slice A0_1 l0_1.length c0_1, .slice A0_2 l0_2.length c0_2]] rfl (by (try simp only [List.map_toArray, List.map_cons, List.map_nil]); first | done | rfl | (simp only [List.length_drop, List.length_take]; rfl)) ?_; (with_reducible refine (spec_l6scene.calls k _ _ l0_0 _ _ l0_1 _ _ l0_2 t312 _ ?side1 ?side2 ?side3 ?side4 ?side5 ?side6 A4.out).mono ?_); (case side1 => exact cB HR0_0 HB); (case side2 => exact HC0_0.out); (case side3 => exact cB HR0_1 HB); (case side4 => exact HC0_1.out); (case side5 => exact cB HR0_2 HB); (case side6 => exact HC0_2.out); rintro e w9 ⟨v313, rfl, ho0, hb⟩; refine ⟨_, rfl, ?_⟩; have HO314 := AM (Kd.R_lower ho0 (below_size (pH HB))); replace BK310 := bB BK310 hb; replace HB := AM (below_step (pH HB) hb); (try clear hb); (try clear hb2); (try clear hk); (try clear hi); (try clear ho0)))
 go_ret
 exact ⟨_, by first | rfl | (simp [errW_none, errW_some] <;> rfl) | (simp [*, errW_none, errW_some] <;> rfl), by (with_reducible repeat (first | apply Kd.R_alloc | apply Kd.R_drewN | apply Kd.R_drew)); exact HO314.out, pH HB⟩
/-! ### impl_finite: function 79 -/
set_option maxRecDepth 100000 in
theorem run_f32 (x : Int) (w : World) : (callFunc 124 #[.int .u32 x]).run Try.prog w = .ok (.value (.float .f32 x.toNat)) w := by
  rw [run_callFunc_extern (e := Extern.MathFloatBits.float32frombits) Try.func124 (by kernel_rfl) (by kernel_rfl) (by kernel_rfl) (by kernel_rfl)]
  rfl
set_option maxRecDepth 100000 in
theorem run_b64 (b : Nat) (w : World) : (callFunc 166 #[.float .f64 b]).run Try.prog w = .ok (.value (.int .u64 b)) w := by
  rw [run_callFunc_extern (e := Extern.MathFloatBits.float64bits) Try.func166 (by kernel_rfl) (by kernel_rfl) (by kernel_rfl) (by kernel_rfl)]
  rfl
set_option maxRecDepth 100000 in
theorem run_f64 (x : Int) (w : World) : (callFunc 165 #[.int .u64 x]).run Try.prog w = .ok (.value (.float .f64 x.toNat)) w := by
  rw [run_callFunc_extern (e := Extern.MathFloatBits.float64frombits) Try.func165 (by kernel_rfl) (by kernel_rfl) (by kernel_rfl) (by kernel_rfl)]
  rfl
set_option maxRecDepth 100000 in
theorem finite_calls (x : Int) (b : Nat) (r : Bool) (w w1 : World) (hc : (convert 166 165 (.float .f32 x.toNat)).run Try.prog w = .ok (.float .f64 b) w1) (hw : Drawn0 w w1)
    (hr : r = ((!(FloatKind.f64.format.order (bits .andNot .u64 b 9223372036854775808).toNat 9218868437227405311 == some .gt)) && (!(FloatKind.f64.format.order b b != some .eq)))) :
    Calls Try.prog 79 #[.int .u32 x] w fun e w' => e = .returned (.bool r) ∧ Drawn0 w w' := by
  obtain ⟨n1, rfl⟩ := hw
  have h1 := run_f32 x
  have h2 := run_b64 b
  have h3 := run_f64 (bits .andNot .u64 b 9223372036854775808)
  cases h4 : (FloatKind.f64.format.order (bits .andNot .u64 b 9223372036854775808).toNat 9218868437227405311 == some .gt) with
  | true =>
    rw [h4] at hr
    subst hr
    go_enter Try.func79, Try.ntmps79
    go_wp2
    go_ret
    exact ⟨rfl, by repeat (first | exact Drawn0.refl _ | apply Drawn0.step)⟩
  | false =>
    rw [h4] at hr
    subst hr
    go_enter Try.func79, Try.ntmps79
    go_wp2
    go_ret
    exact ⟨rfl, by repeat (first | exact Drawn0.refl _ | apply Drawn0.step)⟩
theorem fl_and (b : Nat) (hb : b < 18446744073709551616) : (bits .andNot .u64 (b : Int) 9223372036854775808).toNat = b % 9223372036854775808 := by
  show (IntKind.u64.wrap (((BitVec.ofInt 64 ((b : Nat) : Int) &&& ~~~ (BitVec.ofInt 64 ((9223372036854775808 : Nat) : Int))).toNat : Nat) : Int)).toNat = _
  have e : (~~~ (BitVec.ofInt 64 ((9223372036854775808 : Nat) : Int))).toNat = 2 ^ 63 - 1 := by decide
  rw [BitVec.toNat_and, e, Nat.and_two_pow_sub_one_eq_mod, BitVec.ofInt_natCast, BitVec.toNat_ofNat, Nat.mod_eq_of_lt (a := b) (by omega)]
  have h : ∀ z : Int, IntKind.u64.wrap z = z % 18446744073709551616 := fun z => by simp [IntKind.wrap, IntKind.bits, IntKind.signed]
  rw [h]
  omega
theorem fl_nearest (neg : Bool) (mag : Nat) (place : Int) (hm : mag < 16777216) (h0 : -149 ≤ place) (h1 : place ≤ 104) : ∃ rung, rung ≤ 9218868437227405311 ∧ Ieee.double.nearest neg mag place = Ieee.double.word neg rung := by
  unfold Ieee.Format.nearest
  by_cases hz : mag = 0
  · rw [if_pos hz]
    exact ⟨0, by omega, rfl⟩
  · rw [if_neg hz]
    have hlog : mag.log2 < 24 := (Nat.log2_lt hz).2 (by omega)
    have hup : mag < 2 ^ (mag.log2 + 1) := Nat.lt_log2_self
    have e1 : Ieee.double.leastPlace = -1074 := by decide
    have e2 : (Ieee.double.fractionBits : Int) = 52 := by decide
    have e3 : Ieee.double.binade = 4503599627370496 := by decide
    have e4 : Ieee.double.infRung = 9218868437227405312 := by decide
    dsimp only
    rw [e1, e2, e3, e4, Int.max_eq_left (by omega)]
    have e5 : (place - (place + (mag.log2 : Int) - 52)).toNat = 52 - mag.log2 := by omega
    have e6 : (place + (mag.log2 : Int) - 52 - place).toNat = 0 := by omega
    rw [e5, e6]
    have hk : mag <<< (52 - mag.log2) < 2 ^ 53 := by
      rw [Nat.shiftLeft_eq]
      have : 2 ^ (mag.log2 + 1) * 2 ^ (52 - mag.log2) = 2 ^ 53 := by rw [← Nat.pow_add]; congr 1; omega
      rw [← this]
      exact Nat.mul_lt_mul_of_pos_right hup (Nat.two_pow_pos _)
    have hc : Ieee.Toward.even.cut neg (mag <<< (52 - mag.log2)) 0 = mag <<< (52 - mag.log2) := by
      generalize mag <<< (52 - mag.log2) = n
      simp [Ieee.Toward.cut, Nat.mod_one]
    rw [hc]
    have hk2 : mag <<< (52 - mag.log2) ≤ 9007199254740991 := by
      rw [show (2 : Nat) ^ 53 = 9007199254740992 from by kernel_rfl] at hk
      generalize mag <<< (52 - mag.log2) = n at hk ⊢
      clear hup hlog hz e1 e2 e3 e4 e5 e6 hc
      omega
    clear hk hc
    generalize mag <<< (52 - mag.log2) = n at hk2 ⊢
    have hq : (place + (mag.log2 : Int) - 52 - -1074).toNat ≤ 1149 := by omega
    generalize (place + (mag.log2 : Int) - 52 - -1074).toNat = q at hq ⊢
    clear hup hlog hz e1 e2 e3 e4 e5 e6
    refine ⟨_, Nat.le_trans (Nat.min_le_left _ _) ?_, rfl⟩
    omega
theorem fl_word (neg : Bool) (rung : Nat) : Ieee.double.word neg rung = if neg then 9223372036854775808 + rung else rung := by
  have : Ieee.double.signWeight = 9223372036854775808 := by decide
  unfold Ieee.Format.word
  rw [this]
theorem fl_read (w : Nat) : Ieee.double.read w = (if w % 9223372036854775808 < 4503599627370496 then .number (w / 9223372036854775808 % 2 == 1) (w % 9223372036854775808) (-1074)
    else if w % 9223372036854775808 < 9218868437227405312 then .number (w / 9223372036854775808 % 2 == 1) (4503599627370496 + w % 9223372036854775808 % 4503599627370496) (-1074 + ((w % 9223372036854775808 / 4503599627370496 - 1 : Nat) : Int))
    else if w % 9223372036854775808 = 9218868437227405312 then .infinity (w / 9223372036854775808 % 2 == 1) else .nan (w / 9223372036854775808 % 2 == 1) (w % 9223372036854775808 - 9218868437227405312)) := by
  have e0 : Ieee.double.signWeight = 9223372036854775808 := by decide
  have e1 : Ieee.double.leastPlace = -1074 := by decide
  have e3 : Ieee.double.binade = 4503599627370496 := by decide
  have e4 : Ieee.double.infRung = 9218868437227405312 := by decide
  unfold Ieee.Format.read
  rw [e0, e1, e3, e4]
theorem fl_max : Ieee.double.read 9218868437227405311 = .number false 9007199254740991 971 := by rw [fl_read]; decide
theorem fl_small (rung : Nat) (h : rung ≤ 9218868437227405311) : ∃ m i, Ieee.double.read rung = .number false m i ∧ m ≤ 9007199254740991 ∧ i ≤ 971 := by
  rw [fl_read, Nat.mod_eq_of_lt (by omega), Nat.div_eq_of_lt (by omega)]
  split
  · exact ⟨_, _, rfl, by omega, by omega⟩
  · rw [if_pos (by omega)]
    exact ⟨_, _, rfl, by omega, by omega⟩
theorem fl_gt (rung : Nat) (h : rung ≤ 9218868437227405311) : (Ieee.double.order rung 9218868437227405311 == some .gt) = false := by
  obtain ⟨m, i, h1, h2, h3⟩ := fl_small rung h
  unfold Ieee.Format.order
  rw [h1, fl_max]
  simp only [Ieee.Datum.order]
  rw [Int.min_eq_left h3]
  have : Ieee.signed false m (i - i).toNat ≤ Ieee.signed false 9007199254740991 (971 - i).toNat := by
    simp only [Ieee.signed, Int.sub_self, Int.toNat_zero, Nat.shiftLeft_zero, Bool.false_eq_true, if_false]
    rw [Nat.shiftLeft_eq]
    have := Nat.two_pow_pos (971 - i).toNat
    have : 9007199254740991 * 1 ≤ 9007199254740991 * 2 ^ (971 - i).toNat := Nat.mul_le_mul_left _ this
    omega
  generalize Ieee.signed false m (i - i).toNat = a at this
  generalize Ieee.signed false 9007199254740991 (971 - i).toNat = c at this
  have : compare a c ≠ .gt := by
    rw [Ne, Int.compare_eq_gt]
    omega
  generalize compare a c = o at this ⊢
  cases o <;> simp_all
theorem fl_fin (b : Nat) (neg : Bool) (rung : Nat) (h : rung ≤ 9218868437227405311) (hb : b = Ieee.double.word neg rung) :
    b < 18446744073709551616 ∧ b % 9223372036854775808 = rung ∧ (∃ s m i, Ieee.double.read b = .number s m i) := by
  rw [fl_word] at hb
  have h1 : b < 18446744073709551616 ∧ b % 9223372036854775808 = rung := by
    cases neg <;> simp at hb <;> omega
  refine ⟨h1.1, h1.2, ?_⟩
  rw [fl_read, h1.2]
  split
  · exact ⟨_, _, _, rfl⟩
  · rw [if_pos (by omega)]
    exact ⟨_, _, _, rfl⟩
theorem fl_self (b : Nat) (s : Bool) (m : Nat) (i : Int) (h : Ieee.double.read b = .number s m i) : (Ieee.double.order b b != some .eq) = false := by
  unfold Ieee.Format.order
  rw [h]
  simp only [Ieee.Datum.order]
  rw [show compare (Ieee.signed s m (i - min i i).toNat) (Ieee.signed s m (i - min i i).toNat) = .eq from by rw [Int.compare_eq_eq]]
  rfl
theorem fl_single (x : Nat) (hx : x < 4294967296) : Ieee.single.read x = (if x % 2147483648 < 8388608 then .number (x / 2147483648 % 2 == 1) (x % 2147483648) (-149)
    else if x % 2147483648 < 2139095040 then .number (x / 2147483648 % 2 == 1) (8388608 + x % 2147483648 % 8388608) (-149 + ((x % 2147483648 / 8388608 - 1 : Nat) : Int))
    else if x % 2147483648 = 2139095040 then .infinity (x / 2147483648 % 2 == 1) else .nan (x / 2147483648 % 2 == 1) (x % 2147483648 - 2139095040)) := by
  have e0 : Ieee.single.signWeight = 2147483648 := by decide
  have e1 : Ieee.single.leastPlace = -149 := by decide
  have e3 : Ieee.single.binade = 8388608 := by decide
  have e4 : Ieee.single.infRung = 2139095040 := by decide
  unfold Ieee.Format.read
  rw [e0, e1, e3, e4]
theorem fl_single_num (x : Nat) (hx : x < 4294967296) (h : x / 8388608 % 256 ≠ 255) : ∃ s m i, Ieee.single.read x = .number s m i ∧ m < 16777216 ∧ -149 ≤ i ∧ i ≤ 104 := by
  rw [fl_single x hx]
  split
  · exact ⟨_, _, _, rfl, by omega, by omega, by omega⟩
  · rw [if_pos (by omega)]
    exact ⟨_, _, _, rfl, by omega, by omega, by omega⟩
theorem fl_inf_gt : (Ieee.double.order 9218868437227405312 9218868437227405311 == some .gt) = true := by
  unfold Ieee.Format.order
  rw [fl_max, fl_read]
  decide
theorem fl_convert (x : Nat) (hx : x < 4294967296) (w : World) : ∃ (b : Nat) (w1 : World), (convert 166 165 (.float .f32 x)).run Try.prog w = .ok (.float .f64 b) w1 ∧ Drawn0 w w1 ∧
    ((!(FloatKind.f64.format.order (bits .andNot .u64 b 9223372036854775808).toNat 9218868437227405311 == some .gt)) && (!(FloatKind.f64.format.order b b != some .eq))) = (x / 8388608 % 256 != 255) := by
  have ha : (Try.prog.underlying 166).isSome = true := by kernel_rfl
  have hb : Try.prog.underlying 165 = some (.float .f64) := by kernel_rfl
  show ∃ (b : Nat) (w1 : World), _ ∧ _ ∧ ((!(Ieee.double.order (bits .andNot .u64 b 9223372036854775808).toNat 9218868437227405311 == some .gt)) && (!(Ieee.double.order b b != some .eq))) = _
  by_cases h : x / 8388608 % 256 = 255
  · have hr : (x / 8388608 % 256 != 255) = false := by simp [h]
    rw [hr]
    by_cases h1 : x % 2147483648 = 2139095040
    · have hd : FloatKind.f32.decode x = .infinity (x / 2147483648 % 2 == 1) := by
        show Ieee.single.read x = _
        rw [fl_single x hx, if_neg (by omega), if_neg (by omega), if_pos h1]
      refine ⟨_, w, run_convert_float_float w 166 165 .f32 .f64 x (FloatKind.f64.encode (.infinity (x / 2147483648 % 2 == 1))) ha hb (by unfold floatToFloatBits; rw [if_neg (by decide), hd]), Drawn0.refl w, ?_⟩
      have e : FloatKind.f64.encode (.infinity (x / 2147483648 % 2 == 1)) = Ieee.double.word (x / 2147483648 % 2 == 1) 9218868437227405312 := by
        show Ieee.double.word _ Ieee.double.infRung = _
        rw [show Ieee.double.infRung = 9218868437227405312 from by decide]
      rw [e, fl_word]
      have h2 : ∀ s : Bool, (bits .andNot .u64 (((if s then 9223372036854775808 + 9218868437227405312 else 9218868437227405312 : Nat)) : Int) 9223372036854775808).toNat = 9218868437227405312 := by decide
      rw [h2, fl_inf_gt]
      rfl
    · have hd : ∃ s f, FloatKind.f32.decode x = .nan s f := by
        refine ⟨x / 2147483648 % 2 == 1, x % 2147483648 - 2139095040, ?_⟩
        show Ieee.single.read x = _
        rw [fl_single x hx, if_neg (by omega), if_neg (by omega), if_neg h1]
      obtain ⟨s, f, hd⟩ := hd
      obtain ⟨u, hs'⟩ := Option.isSome_iff_exists.1 ha
      refine ⟨(Question.nanConv .f64 x).cut (w.tape w.drawn (.nanConv .f64 x)), w.drew, ?_, ⟨1, rfl⟩, ?_⟩
      · cases u <;> simp [convert, run_underlying hs', run_underlying hb, Conv.floatToFloat, hd, Question.forced]
      · generalize w.tape w.drawn (.nanConv .f64 x) = t
        have hb2 : (Question.nanConv .f64 x).cut t = t % 2 * 9223372036854775808 + 9218868437227405312 + 1 + t / 2 % 4503599627370495 := rfl
        rw [hb2]
        have hz : t / 2 % 4503599627370495 < 4503599627370495 := Nat.mod_lt _ (by omega)
        have ht : t % 2 < 2 := Nat.mod_lt _ (by omega)
        generalize t / 2 % 4503599627370495 = z at hz ⊢
        generalize t % 2 = s2 at ht ⊢
        have hr1 : ∀ q : Nat, q % 9223372036854775808 = 9218868437227405313 + z → ∃ s f, Ieee.double.read q = .nan s f := by
          intro q hq
          rw [fl_read, hq, if_neg (by omega), if_neg (by omega), if_neg (by omega)]
          exact ⟨_, _, rfl⟩
        obtain ⟨s3, f3, h3⟩ := hr1 (s2 * 9223372036854775808 + 9218868437227405312 + 1 + z) (by omega)
        rw [fl_and _ (by omega)]
        obtain ⟨s4, f4, h4⟩ := hr1 ((s2 * 9223372036854775808 + 9218868437227405312 + 1 + z) % 9223372036854775808) (by omega)
        unfold Ieee.Format.order
        rw [h3, h4]
        rfl
  · have hr : (x / 8388608 % 256 != 255) = true := by simp [h]
    rw [hr]
    obtain ⟨s, m, i, hd, hm, hi0, hi1⟩ := fl_single_num x hx h
    obtain ⟨rung, hrg, hw⟩ := fl_nearest s m i hm hi0 hi1
    obtain ⟨f1, f2, s5, m5, i5, f3⟩ := fl_fin (Ieee.double.nearest s m i) s rung hrg hw
    refine ⟨Ieee.double.nearest s m i, w, run_convert_float_float w 166 165 .f32 .f64 x _ ha hb ?_, Drawn0.refl w, ?_⟩
    · have hd' : FloatKind.f32.decode x = .number s m i := hd
      unfold floatToFloatBits
      rw [if_neg (by decide), hd']
      have he : FloatKind.f64.encode (.number s m i) = Ieee.double.nearest s m i := rfl
      have hf : (FloatKind.f64.decode (Ieee.double.nearest s m i)).isInfinity = false := by
        have : FloatKind.f64.decode (Ieee.double.nearest s m i) = .number s5 m5 i5 := f3
        rw [this]
        rfl
      dsimp only
      rw [he, hf]
      rfl
    · rw [fl_and _ f1, f2, fl_gt rung hrg, fl_self _ _ _ _ f3]
      rfl
def impl_finite.f (a0 : Int) : Option Bool := if 0 ≤ a0 ∧ a0 < 4294967296 then some (a0 / 8388608 % 256 != 255) else none
theorem impl_finite.calls (a0 : Int) (r : Bool) (w : World) (h : impl_finite.f a0 = some r) :
    Calls Try.prog 79 #[.int .u32 a0] w fun e w' => e = .returned (.bool r) ∧ Drawn0 w w' := by
  unfold impl_finite.f at h
  by_cases hr : 0 ≤ a0 ∧ a0 < 4294967296
  · rw [if_pos hr] at h
    obtain rfl := Option.some.inj h
    obtain ⟨n, rfl⟩ := Int.eq_ofNat_of_zero_le hr.1
    obtain ⟨b, w1, h1, h2, h3⟩ := fl_convert n (by omega) w
    refine finite_calls (n : Int) b _ w w1 (by simpa using h1) h2 ?_
    rw [h3]
    have e : (((n : Nat) : Int) / 8388608 % 256 != 255) = (n / 8388608 % 256 != 255) := by
      by_cases hn : n / 8388608 % 256 = 255
      · rw [bne_eq_false_iff_eq.2 hn, bne_eq_false_iff_eq.2 (by omega)]
      · rw [bne_iff_ne.2 hn, bne_iff_ne.2 (by omega)]
    exact e
  · rw [if_neg hr] at h
    cases h

end Go.Proofs.Ytcpdeenhjodmfaa.QEncodeScene
