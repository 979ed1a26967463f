-- Written by wip/tools/mkprint.py (my program) out of the translation, for this claim. Not trusted: Lean checks it.
import Derived.Test.YtcpdeenhjodmfaaQDyMulx0
import Derived.Test.YtcpdeenhjodmfaaQDyMulx1
import Derived.Test.YtcpdeenhjodmfaaQDyMulx4
import Derived.Test.YtcpdeenhjodmfaaQDyMulx7
namespace Go.Proofs.Ytcpdeenhjodmfaa.QDyMul
open Go.RowKit Go.Proofs.YtcpdeenhjodmfaaW.PrintWords Go.Proofs.YtcpdeenhjodmfaaW.PrintLast Go.Proofs.YtcpdeenhjodmfaaW.PrintMore
attribute [local go_sem] max2_int min2_int max_two min_two max_three min_three max_four min_four   -- for this text's walks alone
set_option linter.unusedVariables false
set_option linter.unusedSimpArgs false

/-! ### laws_FnExactDyMul: function 10 -/
def laws_FnExactDyMul.f (k : Nat) (a0_0 : Bool) (l0_1 : List Int) (a0_2 : Int) (a1_0 : Bool) (l1_1 : List Int) (a1_2 : Int) : Option (Bool) := (laws_szDyadic.f a0_0 l0_1 a0_2 1048576).bind fun t417 => (if t417 < 0 then (some true) else ((laws_szDyadic.f a1_0 l1_1 a1_2 t417).bind fun t418 => (if t418 < 0 then (some true) else ((laws_toDyadic.f k a0_0 l0_1 a0_2).bind fun bt419 => ((laws_toDyadic.f k a1_0 l1_1 a1_2).bind fun bt424 => ((spec_DyMul.f k bt419.1 bt419.2.1 bt419.2.2 bt424.1 bt424.2.1 bt424.2.2).bind fun bt429 => ((laws_toDyadic.f k a0_0 l0_1 a0_2).bind fun bt436 => ((laws_toDyadic.f k a1_0 l1_1 a1_2).bind fun bt442 => ((impl_DyMul.f k bt436.1 bt436.2.1 bt436.2.2 bt442.1 bt442.2.1 bt442.2.2).bind fun bt448 => ((laws_eqDyadic.f k bt448.1 bt448.2.1 bt448.2.2.1 bt429.1 bt429.2.1 bt429.2.2.1).bind fun t455 => (if t455 = true then (if bt448.2.2.2 = bt429.2.2.2 then ((laws_toDyadic.f k a0_0 l0_1 a0_2).bind fun bt456 => ((laws_eqDyadic.f k bt436.1 bt436.2.1 bt436.2.2 bt456.1 bt456.2.1 bt456.2.2).bind fun t461 => (if t461 = true then ((laws_toDyadic.f k a1_0 l1_1 a1_2).bind fun bt462 => ((laws_eqDyadic.f k bt442.1 bt442.2.1 bt442.2.2 bt462.1 bt462.2.1 bt462.2.2).bind fun t467 => (if t467 = true then ((laws_markDyadic.f k bt436.1 bt436.2.1 bt436.2.2 1).bind fun bt468 => ((laws_markDyadic.f k bt442.1 bt442.2.1 bt442.2.2 bt468.1).bind fun bt470 => (if bt470.1 < 0 then (none) else ((laws_eqDyadic.f k bt448.1 bt448.2.1 bt448.2.2.1 bt429.1 bt429.2.1 bt429.2.2.1).bind fun t472 => (if t472 = true then ((laws_markDyadic.f k bt448.1 bt448.2.1 bt448.2.2.1 1).bind fun bt473 => ((laws_heldDyadic.f k bt448.1 bt473.2 bt448.2.2.1 1).bind fun t475 => (if t475 < 0 then (none) else (if t475 = bt473.1 then ((laws_toDyadic.f k a0_0 l0_1 a0_2).bind fun bt476 => ((laws_toDyadic.f k a1_0 l1_1 a1_2).bind fun bt481 => ((impl_DyMul.f k bt476.1 bt476.2.1 bt476.2.2 bt481.1 bt481.2.1 bt481.2.2).bind fun bt486 => ((laws_eqDyadic.f k bt486.1 bt486.2.1 bt486.2.2.1 bt429.1 bt429.2.1 bt429.2.2.1).bind fun t493 => (if t493 = true then (if bt486.2.2.2 = bt429.2.2.2 then ((laws_heldDyadic.f k bt448.1 bt473.2 bt448.2.2.1 1).bind fun t494 => (if t494 < 0 then (none) else (if t494 = bt473.1 then (some true) else (none)))) else (none)) else (none)))))) else (none))))) else (none)))))) else (none)))) else (none)))) else (none)) else (none))))))))))))
theorem laws_FnExactDyMul.mono : ∀ a0 a1 a2 a3 a4 a5 k, LeO (laws_FnExactDyMul.f k a0 a1 a2 a3 a4 a5) (laws_FnExactDyMul.f (k + 1) a0 a1 a2 a3 a4 a5) := by
 intro a0 a1 a2 a3 a4 a5 k
 unfold laws_FnExactDyMul.f
 repeat' with_reducible first | exact impl_DyMul.mono _ _ _ _ _ _ _ | exact laws_eqDyadic.mono _ _ _ _ _ _ _ | exact laws_heldDyadic.mono _ _ _ _ _ | exact laws_markDyadic.mono _ _ _ _ _ | exact laws_toDyadic.mono _ _ _ _ | exact spec_DyMul.mono _ _ _ _ _ _ _ | exact LeO.refl _ | exact LeO.none _ | refine LeO.ite ?_ ?_ | refine LeO.bind ?_ (fun _ => ?_)
def laws_FnExactDyMul.T8 : Bool × List (List Nat × List Nat) := (true, [([], []), ([0], [0]), ([], []), ([2, 1], [2]), ([1, 3, 3], [1, 3]), ([4], [4]), ([5], [5]), ([5], [5]), ([], []), ([8, 6, 4, 0, 1, 2, 3, 4, 5, 6, 8], [6, 8]), ([7, 9, 0, 1, 2, 3, 4, 5, 6, 7, 8, 9], [7])])
def laws_FnExactDyMul.B8 : List Nat := [0, 1, 0, 7, 15, 31, 63, 63, 0, 383, 1023]
theorem laws_FnExactDyMul.tab8 : rtab .any (opsOf Try.f10 8) = laws_FnExactDyMul.T8 := by kernel_rfl
theorem laws_FnExactDyMul.bits8 : waitsOk laws_FnExactDyMul.T8.2 laws_FnExactDyMul.B8 = true := by kernel_rfl
def laws_FnExactDyMul.T31 : Bool × List (List Nat × List Nat) := (true, [([], []), ([0], [0]), ([], []), ([2, 1], [2]), ([1, 3, 3], [1, 3]), ([4], [4]), ([5], [5]), ([5], [5]), ([], []), ([8, 6, 4, 0, 1, 2, 3, 4, 5, 6, 8], [6, 8]), ([7, 9, 0, 1, 2, 3, 4, 5, 6, 7, 8, 9], [7])])
def laws_FnExactDyMul.B31 : List Nat := [0, 1, 0, 7, 15, 31, 63, 63, 0, 383, 1023]
theorem laws_FnExactDyMul.tab31 : rtab .any (opsOf Try.f10 31) = laws_FnExactDyMul.T31 := by kernel_rfl
theorem laws_FnExactDyMul.bits31 : waitsOk laws_FnExactDyMul.T31.2 laws_FnExactDyMul.B31 = true := by kernel_rfl
set_option maxHeartbeats 8000000 in
set_option maxRecDepth 100000 in
theorem laws_FnExactDyMul.calls (k : Nat) (a0_0 : Bool) (A0_1 : Option Addr) (c0_1 : Nat) (l0_1 : List Int) (a0_2 : Int) (a1_0 : Bool) (A1_1 : Option Addr) (c1_1 : Nat) (l1_1 : List Int) (a1_2 : Int) (r : Bool) (w : World) (hr0_1 : Kd.C (Kd.int .u32) w A0_1 l0_1.length l0_1) (hc0_1 : l0_1.length ≤ c0_1) (hr1_1 : Kd.C (Kd.int .u32) w A1_1 l1_1.length l1_1) (hc1_1 : l1_1.length ≤ c1_1) (h : laws_FnExactDyMul.f k a0_0 l0_1 a0_2 a1_0 l1_1 a1_2 = some r) :
 Calls Try.prog 10 #[.agg #[.bool a0_0, .slice A0_1 l0_1.length c0_1, .int .i64 a0_2], .agg #[.bool a1_0, .slice A1_1 l1_1.length c1_1, .int .i64 a1_2]] w fun e w' => e = .returned (.bool r) ∧ Below w.heap.size w w' := by
 have hu74 := Try.underlying74; have hu77 := Try.underlying77; have HR0_1 := AM hr0_1; have HC0_1 := AM hc0_1; clear hr0_1 hc0_1; have HR1_1 := AM hr1_1; have HC1_1 := AM hc1_1; clear hr1_1 hc1_1; have HB := AM (Below.refl w.heap.size w)
 have H : ((laws_szDyadic.f a0_0 l0_1 a0_2 1048576).bind fun t417 => (if t417 < 0 then (some true) else ((laws_szDyadic.f a1_0 l1_1 a1_2 t417).bind fun t418 => (if t418 < 0 then (some true) else ((laws_toDyadic.f k a0_0 l0_1 a0_2).bind fun bt419 => ((laws_toDyadic.f k a1_0 l1_1 a1_2).bind fun bt424 => ((spec_DyMul.f k bt419.1 bt419.2.1 bt419.2.2 bt424.1 bt424.2.1 bt424.2.2).bind fun bt429 => ((laws_toDyadic.f k a0_0 l0_1 a0_2).bind fun bt436 => ((laws_toDyadic.f k a1_0 l1_1 a1_2).bind fun bt442 => ((impl_DyMul.f k bt436.1 bt436.2.1 bt436.2.2 bt442.1 bt442.2.1 bt442.2.2).bind fun bt448 => ((laws_eqDyadic.f k bt448.1 bt448.2.1 bt448.2.2.1 bt429.1 bt429.2.1 bt429.2.2.1).bind fun t455 => (if t455 = true then (if bt448.2.2.2 = bt429.2.2.2 then ((laws_toDyadic.f k a0_0 l0_1 a0_2).bind fun bt456 => ((laws_eqDyadic.f k bt436.1 bt436.2.1 bt436.2.2 bt456.1 bt456.2.1 bt456.2.2).bind fun t461 => (if t461 = true then ((laws_toDyadic.f k a1_0 l1_1 a1_2).bind fun bt462 => ((laws_eqDyadic.f k bt442.1 bt442.2.1 bt442.2.2 bt462.1 bt462.2.1 bt462.2.2).bind fun t467 => (if t467 = true then ((laws_markDyadic.f k bt436.1 bt436.2.1 bt436.2.2 1).bind fun bt468 => ((laws_markDyadic.f k bt442.1 bt442.2.1 bt442.2.2 bt468.1).bind fun bt470 => (if bt470.1 < 0 then (none) else ((laws_eqDyadic.f k bt448.1 bt448.2.1 bt448.2.2.1 bt429.1 bt429.2.1 bt429.2.2.1).bind fun t472 => (if t472 = true then ((laws_markDyadic.f k bt448.1 bt448.2.1 bt448.2.2.1 1).bind fun bt473 => ((laws_heldDyadic.f k bt448.1 bt473.2 bt448.2.2.1 1).bind fun t475 => (if t475 < 0 then (none) else (if t475 = bt473.1 then ((laws_toDyadic.f k a0_0 l0_1 a0_2).bind fun bt476 => ((laws_toDyadic.f k a1_0 l1_1 a1_2).bind fun bt481 => ((impl_DyMul.f k bt476.1 bt476.2.1 bt476.2.2 bt481.1 bt481.2.1 bt481.2.2).bind fun bt486 => ((laws_eqDyadic.f k bt486.1 bt486.2.1 bt486.2.2.1 bt429.1 bt429.2.1 bt429.2.2.1).bind fun t493 => (if t493 = true then (if bt486.2.2.2 = bt429.2.2.2 then ((laws_heldDyadic.f k bt448.1 bt473.2 bt448.2.2.1 1).bind fun t494 => (if t494 < 0 then (none) else (if t494 = bt473.1 then (some true) else (none)))) else (none)) else (none)))))) else (none))))) else (none)))))) else (none)))) else (none)))) else (none)) else (none))))))))))))) = some r := h
 clear h
 replace H := Option.bind_eq_some_iff.mp H
 obtain ⟨t417, A30, H⟩ := H
 (try dsimp only at H)
 have A3 := AM A30; clear A30
 by_cases c4 : t417 < 0
 · rw [if_pos c4] at H
   have c4b0 : decide (t417 < 0) = true := decide_eq_true c4
   clear c4
   obtain rfl := Option.some.inj H
   go_enter Try.func10, Try.ntmps10
   go_wp2_with (first | ((with_reducible refine gate_dst (N := 2) rfl ?_); refine box_event ?hg (N := 2) ?hd (cs := #[.bool a0_0, .slice A0_1 l0_1.length c0_1, .int .i64 a0_2]) (t := 74) ?hr ?_; (case hd => rfl); (case hg => rfl); (case hr => first | (go_simp; done) | (go_simp; rfl)); intro gb415 hg w5 hbox hb; have BK415 := AM (hbox); have GW415 := gH HB hg; have GE415 := gH HB hg; replace HB := AM (below_step (pH HB) hb); clear hb hbox hg) | ((with_reducible refine gate_dst (N := 3) rfl ?_); refine box_event ?hg (N := 3) ?hd (cs := #[.bool a1_0, .slice A1_1 l1_1.length c1_1, .int .i64 a1_2]) (t := 74) ?hr ?_; (case hd => rfl); (case hg => rfl); (case hr => first | (go_simp; done) | (go_simp; rfl)); intro gb416 hg w6 hbox hb; have BK416 := AM (hbox); have GW416 := gH HB hg; have GE416 := gH HB hg; replace HB := AM (below_step (pH HB) hb); have NB415_416 := nL BK415 hg; have NB416_415 := nG BK415 hg; replace BK415 := bB BK415 hb; clear hb hbox hg; have hnb7 := NB415_416.out; have hnc7 := NB416_415.out; have ⟨hcz8_0, hcz8_1, hcz8_2, hfz8_0, hfz8_1, hfz8_2⟩ := z3 BK415) | ((with_reducible refine gate_callee (f := 42) rfl ?_); refine goesL_ (some 19) rfl rfl Try.func42 (by kernel_rfl) rfl #[.agg #[.bool a0_0, .slice A0_1 l0_1.length c0_1, .int .i64 a0_2], .int .i64 1048576] rfl (by (try simp only [List.map_toArray, List.map_cons, List.map_nil]); first | done | rfl | (simp only [List.length_drop, List.length_take]; rfl)) ?_; (with_reducible refine (laws_szDyadic.calls a0_0 _ _ l0_1 a0_2 1048576 t417 _ ?side1 ?side2 A3.out).mono ?_); (case side1 => exact cB HR0_1 HB); (case side2 => exact HC0_1.out); rintro e w9 ⟨rfl, hb⟩; refine ⟨_, rfl, ?_⟩; replace BK415 := bB BK415 hb; replace BK416 := bB BK416 hb; replace HB := AM (below_step (pH HB) hb); (try clear hb); (try clear hb2); (try clear hk); (try clear hi)))
   go_ret
   exact ⟨by first | rfl | (simp [errW_none, errW_some] <;> rfl) | (simp [*, errW_none, errW_some] <;> rfl), pH HB⟩
 rw [if_neg c4] at H
 have c4b0 : decide (t417 < 0) = false := decide_eq_false c4
 clear c4
 replace H := Option.bind_eq_some_iff.mp H
 obtain ⟨t418, A100, H⟩ := H
 (try dsimp only at H)
 have A10 := AM A100; clear A100
 by_cases c11 : t418 < 0
 · rw [if_pos c11] at H
   have c11b0 : decide (t418 < 0) = true := decide_eq_true c11
   clear c11
   obtain rfl := Option.some.inj H
   go_enter Try.func10, Try.ntmps10
   go_wp2_with (first | ((with_reducible refine gate_dst (N := 2) rfl ?_); refine box_event ?hg (N := 2) ?hd (cs := #[.bool a0_0, .slice A0_1 l0_1.length c0_1, .int .i64 a0_2]) (t := 74) ?hr ?_; (case hd => rfl); (case hg => rfl); (case hr => first | (go_simp; done) | (go_simp; rfl)); intro gb415 hg w12 hbox hb; have BK415 := AM (hbox); have GW415 := gH HB hg; have GE415 := gH HB hg; replace HB := AM (below_step (pH HB) hb); clear hb hbox hg) | ((with_reducible refine gate_dst (N := 3) rfl ?_); refine box_event ?hg (N := 3) ?hd (cs := #[.bool a1_0, .slice A1_1 l1_1.length c1_1, .int .i64 a1_2]) (t := 74) ?hr ?_; (case hd => rfl); (case hg => rfl); (case hr => first | (go_simp; done) | (go_simp; rfl)); intro gb416 hg w13 hbox hb; have BK416 := AM (hbox); have GW416 := gH HB hg; have GE416 := gH HB hg; replace HB := AM (below_step (pH HB) hb); have NB415_416 := nL BK415 hg; have NB416_415 := nG BK415 hg; replace BK415 := bB BK415 hb; clear hb hbox hg; have hnb14 := NB415_416.out; have hnc14 := NB416_415.out; have ⟨hcz15_0, hcz15_1, hcz15_2, hfz15_0, hfz15_1, hfz15_2⟩ := z3 BK415) | ((with_reducible refine gate_callee (f := 42) rfl ?_); refine goesL_ (some 19) rfl rfl Try.func42 (by kernel_rfl) rfl #[.agg #[.bool a0_0, .slice A0_1 l0_1.length c0_1, .int .i64 a0_2], .int .i64 1048576] rfl (by (try simp only [List.map_toArray, List.map_cons, List.map_nil]); first | done | rfl | (simp only [List.length_drop, List.length_take]; rfl)) ?_; (with_reducible refine (laws_szDyadic.calls a0_0 _ _ l0_1 a0_2 1048576 t417 _ ?side1 ?side2 A3.out).mono ?_); (case side1 => exact cB HR0_1 HB); (case side2 => exact HC0_1.out); rintro e w16 ⟨rfl, hb⟩; refine ⟨_, rfl, ?_⟩; replace BK415 := bB BK415 hb; replace BK416 := bB BK416 hb; replace HB := AM (below_step (pH HB) hb); (try clear hb); (try clear hb2); (try clear hk); (try clear hi); have ⟨hcz17_0, hcz17_1, hcz17_2, hfz17_0, hfz17_1, hfz17_2⟩ := z3 BK416) | ((with_reducible refine gate_callee (f := 42) rfl ?_); refine goesL_ (some 24) rfl rfl Try.func42 (by kernel_rfl) rfl #[.agg #[.bool a1_0, .slice A1_1 l1_1.length c1_1, .int .i64 a1_2], .int .i64 t417] rfl (by (try simp only [List.map_toArray, List.map_cons, List.map_nil]); first | done | rfl | (simp only [List.length_drop, List.length_take]; rfl)) ?_; (with_reducible refine (laws_szDyadic.calls a1_0 _ _ l1_1 a1_2 t417 t418 _ ?side1 ?side2 A10.out).mono ?_); (case side1 => exact cB HR1_1 HB); (case side2 => exact HC1_1.out); rintro e w18 ⟨rfl, hb⟩; refine ⟨_, rfl, ?_⟩; replace BK415 := bB BK415 hb; replace BK416 := bB BK416 hb; replace HB := AM (below_step (pH HB) hb); (try clear hb); (try clear hb2); (try clear hk); (try clear hi)))
   go_ret
   exact ⟨by first | rfl | (simp [errW_none, errW_some] <;> rfl) | (simp [*, errW_none, errW_some] <;> rfl), pH HB⟩
 rw [if_neg c11] at H
 have c11b0 : decide (t418 < 0) = false := decide_eq_false c11
 clear c11
 replace H := Option.bind_eq_some_iff.mp H
 obtain ⟨⟨t419, t420, t423⟩, A190, H⟩ := H
 (try dsimp only at H)
 have A19 := AM A190; clear A190
 replace H := Option.bind_eq_some_iff.mp H
 obtain ⟨⟨t424, t425, t428⟩, A200, H⟩ := H
 (try dsimp only at H)
 have A20 := AM A200; clear A200
 replace H := Option.bind_eq_some_iff.mp H
 obtain ⟨⟨t429, t430, t433, t434⟩, A210, H⟩ := H
 (try dsimp only at H)
 have A21 := AM A210; clear A210
 replace H := Option.bind_eq_some_iff.mp H
 obtain ⟨⟨t436, t437, t440⟩, A220, H⟩ := H
 (try dsimp only at H)
 have A22 := AM A220; clear A220
 replace H := Option.bind_eq_some_iff.mp H
 obtain ⟨⟨t442, t443, t446⟩, A230, H⟩ := H
 (try dsimp only at H)
 have A23 := AM A230; clear A230
 replace H := Option.bind_eq_some_iff.mp H
 obtain ⟨⟨t448, t449, t452, t453⟩, A240, H⟩ := H
 (try dsimp only at H)
 have A24 := AM A240; clear A240
 replace H := Option.bind_eq_some_iff.mp H
 obtain ⟨t455, A250, H⟩ := H
 (try dsimp only at H)
 have A25 := AM A250; clear A250
 by_cases c26 : t455 = true
 rotate_left
 · replace c26 := Bool.eq_false_iff.mpr c26
   subst c26
   have H1 : (none) = some r := by rw [if_neg (show ¬ (false = true) by decide)] at H; exact H
   clear H; have H := H1; clear H1
   exact absurd H (by simp)

 subst c26
 have H1 : (if t453 = t434 then ((laws_toDyadic.f k a0_0 l0_1 a0_2).bind fun bt456 => ((laws_eqDyadic.f k t436 t437 t440 bt456.1 bt456.2.1 bt456.2.2).bind fun t461 => (if t461 = true then ((laws_toDyadic.f k a1_0 l1_1 a1_2).bind fun bt462 => ((laws_eqDyadic.f k t442 t443 t446 bt462.1 bt462.2.1 bt462.2.2).bind fun t467 => (if t467 = true then ((laws_markDyadic.f k t436 t437 t440 1).bind fun bt468 => ((laws_markDyadic.f k t442 t443 t446 bt468.1).bind fun bt470 => (if bt470.1 < 0 then (none) else ((laws_eqDyadic.f k t448 t449 t452 t429 t430 t433).bind fun t472 => (if t472 = true then ((laws_markDyadic.f k t448 t449 t452 1).bind fun bt473 => ((laws_heldDyadic.f k t448 bt473.2 t452 1).bind fun t475 => (if t475 < 0 then (none) else (if t475 = bt473.1 then ((laws_toDyadic.f k a0_0 l0_1 a0_2).bind fun bt476 => ((laws_toDyadic.f k a1_0 l1_1 a1_2).bind fun bt481 => ((impl_DyMul.f k bt476.1 bt476.2.1 bt476.2.2 bt481.1 bt481.2.1 bt481.2.2).bind fun bt486 => ((laws_eqDyadic.f k bt486.1 bt486.2.1 bt486.2.2.1 t429 t430 t433).bind fun t493 => (if t493 = true then (if bt486.2.2.2 = t434 then ((laws_heldDyadic.f k t448 bt473.2 t452 1).bind fun t494 => (if t494 < 0 then (none) else (if t494 = bt473.1 then (some true) else (none)))) else (none)) else (none)))))) else (none))))) else (none)))))) else (none)))) else (none)))) else (none)) = some r := by rw [if_pos rfl] at H; exact H
 clear H; have H := H1; clear H1
 by_cases c27 : t453 = t434
 rotate_left
 · rw [if_neg c27] at H
   exact absurd H (by simp)
 rw [if_pos c27] at H
 have c27b0 : (t453 == t434) = true := beq_iff_eq.mpr c27
 have c27b1 : (t453 != t434) = false := bne_eq_false_iff_eq.mpr c27
 clear c27
 replace H := Option.bind_eq_some_iff.mp H
 obtain ⟨⟨t456, t457, t460⟩, A280, H⟩ := H
 (try dsimp only at H)
 have A28 := AM A280; clear A280
 replace H := Option.bind_eq_some_iff.mp H
 obtain ⟨t461, A290, H⟩ := H
 (try dsimp only at H)
 have A29 := AM A290; clear A290
 by_cases c30 : t461 = true
 rotate_left
 · replace c30 := Bool.eq_false_iff.mpr c30
   subst c30
   have H1 : (none) = some r := by rw [if_neg (show ¬ (false = true) by decide)] at H; exact H
   clear H; have H := H1; clear H1
   exact absurd H (by simp)
 subst c30
 have H1 : ((laws_toDyadic.f k a1_0 l1_1 a1_2).bind fun bt462 => ((laws_eqDyadic.f k t442 t443 t446 bt462.1 bt462.2.1 bt462.2.2).bind fun t467 => (if t467 = true then ((laws_markDyadic.f k t436 t437 t440 1).bind fun bt468 => ((laws_markDyadic.f k t442 t443 t446 bt468.1).bind fun bt470 => (if bt470.1 < 0 then (none) else ((laws_eqDyadic.f k t448 t449 t452 t429 t430 t433).bind fun t472 => (if t472 = true then ((laws_markDyadic.f k t448 t449 t452 1).bind fun bt473 => ((laws_heldDyadic.f k t448 bt473.2 t452 1).bind fun t475 => (if t475 < 0 then (none) else (if t475 = bt473.1 then ((laws_toDyadic.f k a0_0 l0_1 a0_2).bind fun bt476 => ((laws_toDyadic.f k a1_0 l1_1 a1_2).bind fun bt481 => ((impl_DyMul.f k bt476.1 bt476.2.1 bt476.2.2 bt481.1 bt481.2.1 bt481.2.2).bind fun bt486 => ((laws_eqDyadic.f k bt486.1 bt486.2.1 bt486.2.2.1 t429 t430 t433).bind fun t493 => (if t493 = true then (if bt486.2.2.2 = t434 then ((laws_heldDyadic.f k t448 bt473.2 t452 1).bind fun t494 => (if t494 < 0 then (none) else (if t494 = bt473.1 then (some true) else (none)))) else (none)) else (none)))))) else (none))))) else (none)))))) else (none)))) = some r := by rw [if_pos rfl] at H; exact H
 clear H; have H := H1; clear H1
 replace H := Option.bind_eq_some_iff.mp H
 obtain ⟨⟨t462, t463, t466⟩, A310, H⟩ := H
 (try dsimp only at H)
 have A31 := AM A310; clear A310
 replace H := Option.bind_eq_some_iff.mp H
 obtain ⟨t467, A320, H⟩ := H
 (try dsimp only at H)
 have A32 := AM A320; clear A320
 by_cases c33 : t467 = true
 rotate_left
 · replace c33 := Bool.eq_false_iff.mpr c33
   subst c33
   have H1 : (none) = some r := by rw [if_neg (show ¬ (false = true) by decide)] at H; exact H
   clear H; have H := H1; clear H1
   exact absurd H (by simp)
 subst c33
 have H1 : ((laws_markDyadic.f k t436 t437 t440 1).bind fun bt468 => ((laws_markDyadic.f k t442 t443 t446 bt468.1).bind fun bt470 => (if bt470.1 < 0 then (none) else ((laws_eqDyadic.f k t448 t449 t452 t429 t430 t433).bind fun t472 => (if t472 = true then ((laws_markDyadic.f k t448 t449 t452 1).bind fun bt473 => ((laws_heldDyadic.f k t448 bt473.2 t452 1).bind fun t475 => (if t475 < 0 then (none) else (if t475 = bt473.1 then ((laws_toDyadic.f k a0_0 l0_1 a0_2).bind fun bt476 => ((laws_toDyadic.f k a1_0 l1_1 a1_2).bind fun bt481 => ((impl_DyMul.f k bt476.1 bt476.2.1 bt476.2.2 bt481.1 bt481.2.1 bt481.2.2).bind fun bt486 => ((laws_eqDyadic.f k bt486.1 bt486.2.1 bt486.2.2.1 t429 t430 t433).bind fun t493 => (if t493 = true then (if bt486.2.2.2 = t434 then ((laws_heldDyadic.f k t448 bt473.2 t452 1).bind fun t494 => (if t494 < 0 then (none) else (if t494 = bt473.1 then (some true) else (none)))) else (none)) else (none)))))) else (none))))) else (none)))))) = some r := by rw [if_pos rfl] at H; exact H
 clear H; have H := H1; clear H1
 replace H := Option.bind_eq_some_iff.mp H
 obtain ⟨⟨t468, t469⟩, A340, H⟩ := H
 (try dsimp only at H)
 have A34 := AM A340; clear A340
 replace H := Option.bind_eq_some_iff.mp H
 obtain ⟨⟨t470, t471⟩, A350, H⟩ := H
 (try dsimp only at H)
 have A35 := AM A350; clear A350
 by_cases c36 : t470 < 0
 · rw [if_pos c36] at H
   exact absurd H (by simp)
 rw [if_neg c36] at H
 have c36b0 : decide (t470 < 0) = false := decide_eq_false c36
 clear c36
 replace H := Option.bind_eq_some_iff.mp H
 obtain ⟨t472, A370, H⟩ := H
 (try dsimp only at H)
 have A37 := AM A370; clear A370
 by_cases c38 : t472 = true
 rotate_left
 · replace c38 := Bool.eq_false_iff.mpr c38
   subst c38
   have H1 : (none) = some r := by rw [if_neg (show ¬ (false = true) by decide)] at H; exact H
   clear H; have H := H1; clear H1
   exact absurd H (by simp)
 subst c38
 have H1 : ((laws_markDyadic.f k t448 t449 t452 1).bind fun bt473 => ((laws_heldDyadic.f k t448 bt473.2 t452 1).bind fun t475 => (if t475 < 0 then (none) else (if t475 = bt473.1 then ((laws_toDyadic.f k a0_0 l0_1 a0_2).bind fun bt476 => ((laws_toDyadic.f k a1_0 l1_1 a1_2).bind fun bt481 => ((impl_DyMul.f k bt476.1 bt476.2.1 bt476.2.2 bt481.1 bt481.2.1 bt481.2.2).bind fun bt486 => ((laws_eqDyadic.f k bt486.1 bt486.2.1 bt486.2.2.1 t429 t430 t433).bind fun t493 => (if t493 = true then (if bt486.2.2.2 = t434 then ((laws_heldDyadic.f k t448 bt473.2 t452 1).bind fun t494 => (if t494 < 0 then (none) else (if t494 = bt473.1 then (some true) else (none)))) else (none)) else (none)))))) else (none))))) = some r := by rw [if_pos rfl] at H; exact H
 clear H; have H := H1; clear H1
 replace H := Option.bind_eq_some_iff.mp H
 obtain ⟨⟨t473, t474⟩, A390, H⟩ := H
 (try dsimp only at H)
 have A39 := AM A390; clear A390
 replace H := Option.bind_eq_some_iff.mp H
 obtain ⟨t475, A400, H⟩ := H
 (try dsimp only at H)
 have A40 := AM A400; clear A400
 by_cases c41 : t475 < 0
 · rw [if_pos c41] at H
   exact absurd H (by simp)
 rw [if_neg c41] at H
 have c41b0 : decide (t475 < 0) = false := decide_eq_false c41
 clear c41
 by_cases c42 : t475 = t473
 rotate_left
 · rw [if_neg c42] at H
   exact absurd H (by simp)
 rw [if_pos c42] at H
 have c42b0 : (t475 == t473) = true := beq_iff_eq.mpr c42
 have c42b1 : (t475 != t473) = false := bne_eq_false_iff_eq.mpr c42
 clear c42
 replace H := Option.bind_eq_some_iff.mp H
 obtain ⟨⟨t476, t477, t480⟩, A430, H⟩ := H
 (try dsimp only at H)
 have A43 := AM A430; clear A430
 replace H := Option.bind_eq_some_iff.mp H
 obtain ⟨⟨t481, t482, t485⟩, A440, H⟩ := H
 (try dsimp only at H)
 have A44 := AM A440; clear A440
 replace H := Option.bind_eq_some_iff.mp H
 obtain ⟨⟨t486, t487, t490, t491⟩, A450, H⟩ := H
 (try dsimp only at H)
 have A45 := AM A450; clear A450
 replace H := Option.bind_eq_some_iff.mp H
 obtain ⟨t493, A460, H⟩ := H
 (try dsimp only at H)
 have A46 := AM A460; clear A460
 by_cases c47 : t493 = true
 rotate_left
 · replace c47 := Bool.eq_false_iff.mpr c47
   subst c47
   have H1 : (none) = some r := by rw [if_neg (show ¬ (false = true) by decide)] at H; exact H
   clear H; have H := H1; clear H1
   exact absurd H (by simp)
 subst c47
 have H1 : (if t491 = t434 then ((laws_heldDyadic.f k t448 t474 t452 1).bind fun t494 => (if t494 < 0 then (none) else (if t494 = t473 then (some true) else (none)))) else (none)) = some r := by rw [if_pos rfl] at H; exact H
 clear H; have H := H1; clear H1
 by_cases c48 : t491 = t434
 rotate_left
 · rw [if_neg c48] at H
   exact absurd H (by simp)
 rw [if_pos c48] at H
 have c48b0 : (t491 == t434) = true := beq_iff_eq.mpr c48
 have c48b1 : (t491 != t434) = false := bne_eq_false_iff_eq.mpr c48
 clear c48
 replace H := Option.bind_eq_some_iff.mp H
 obtain ⟨t494, A490, H⟩ := H
 (try dsimp only at H)
 have A49 := AM A490; clear A490
 by_cases c50 : t494 < 0
 · rw [if_pos c50] at H
   exact absurd H (by simp)
 rw [if_neg c50] at H
 have c50b0 : decide (t494 < 0) = false := decide_eq_false c50
 clear c50
 by_cases c51 : t494 = t473
 rotate_left
 · rw [if_neg c51] at H
   exact absurd H (by simp)
 rw [if_pos c51] at H
 have c51b0 : (t494 == t473) = true := beq_iff_eq.mpr c51
 have c51b1 : (t494 != t473) = false := bne_eq_false_iff_eq.mpr c51
 clear c51
 obtain rfl := Option.some.inj H
 go_enter Try.func10, Try.ntmps10
 try go_wp2_with (first | ((with_reducible refine gate_dst (N := 2) rfl ?_); refine box_event ?hg (N := 2) ?hd (cs := #[.bool a0_0, .slice A0_1 l0_1.length c0_1, .int .i64 a0_2]) (t := 74) ?hr ?_; (case hd => rfl); (case hg => rfl); (case hr => first | (go_simp; done) | (go_simp; rfl)); intro gb415 hg w52 hbox hb; have BK415 := AM (hbox); have GW415 := gH HB hg; have GE415 := gH HB hg; replace HB := AM (below_step (pH HB) hb); clear hb hbox hg) | ((with_reducible refine gate_dst (N := 3) rfl ?_); refine box_event ?hg (N := 3) ?hd (cs := #[.bool a1_0, .slice A1_1 l1_1.length c1_1, .int .i64 a1_2]) (t := 74) ?hr ?_; (case hd => rfl); (case hg => rfl); (case hr => first | (go_simp; done) | (go_simp; rfl)); intro gb416 hg w53 hbox hb; have BK416 := AM (hbox); have GW416 := gH HB hg; have GE416 := gH HB hg; replace HB := AM (below_step (pH HB) hb); have NB415_416 := nL BK415 hg; have NB416_415 := nG BK415 hg; replace BK415 := bB BK415 hb; clear hb hbox hg; have hnb54 := NB415_416.out; have hnc54 := NB416_415.out; have ⟨hcz55_0, hcz55_1, hcz55_2, hfz55_0, hfz55_1, hfz55_2⟩ := z3 BK415) | ((with_reducible refine gate_callee (f := 42) rfl ?_); refine goesL_ (some 19) rfl rfl Try.func42 (by kernel_rfl) rfl #[.agg #[.bool a0_0, .slice A0_1 l0_1.length c0_1, .int .i64 a0_2], .int .i64 1048576] rfl (by (try simp only [List.map_toArray, List.map_cons, List.map_nil]); first | done | rfl | (simp only [List.length_drop, List.length_take]; rfl)) ?_; (with_reducible refine (laws_szDyadic.calls a0_0 _ _ l0_1 a0_2 1048576 t417 _ ?side1 ?side2 A3.out).mono ?_); (case side1 => exact cB HR0_1 HB); (case side2 => exact HC0_1.out); rintro e w56 ⟨rfl, hb⟩; refine ⟨_, rfl, ?_⟩; replace BK415 := bB BK415 hb; replace BK416 := bB BK416 hb; replace HB := AM (below_step (pH HB) hb); (try clear hb); (try clear hb2); (try clear hk); (try clear hi); have ⟨hcz57_0, hcz57_1, hcz57_2, hfz57_0, hfz57_1, hfz57_2⟩ := z3 BK416) | ((with_reducible refine gate_callee (f := 42) rfl ?_); refine goesL_ (some 24) rfl rfl Try.func42 (by kernel_rfl) rfl #[.agg #[.bool a1_0, .slice A1_1 l1_1.length c1_1, .int .i64 a1_2], .int .i64 t417] rfl (by (try simp only [List.map_toArray, List.map_cons, List.map_nil]); first | done | rfl | (simp only [List.length_drop, List.length_take]; rfl)) ?_; (with_reducible refine (laws_szDyadic.calls a1_0 _ _ l1_1 a1_2 t417 t418 _ ?side1 ?side2 A10.out).mono ?_); (case side1 => exact cB HR1_1 HB); (case side2 => exact HC1_1.out); rintro e w58 ⟨rfl, hb⟩; refine ⟨_, rfl, ?_⟩; replace BK415 := bB BK415 hb; replace BK416 := bB BK416 hb; replace HB := AM (below_step (pH HB) hb); (try clear hb); (try clear hb2); (try clear hk); (try clear hi)))
 replace BK415 := AM (blk_drew BK415.out); replace BK416 := AM (blk_drew BK416.out); replace HB := AM (below_drew1 HB.out)
 refine start_ (n := 11) (S := fun w' => w'.cell? ⟨gb415, 0, none⟩ = some (.bool a0_0) ∧ w'.cell? ⟨gb415, 1, none⟩ = some (.slice A0_1 l0_1.length c0_1) ∧ w'.cell? ⟨gb415, 2, none⟩ = some (.int .i64 a0_2) ∧ w'.cell? ⟨gb416, 0, none⟩ = some (.bool a1_0) ∧ w'.cell? ⟨gb416, 1, none⟩ = some (.slice A1_1 l1_1.length c1_1) ∧ w'.cell? ⟨gb416, 2, none⟩ = some (.int .i64 a1_2)) (ds := []) #[false, false, false, false, false, false, false, false, false, false, false] (by kernel_rfl) rfl rfl ⟨(blk_cell BK415.out 0).trans rfl, (blk_cell BK415.out 1).trans rfl, (blk_cell BK415.out 2).trans rfl, (blk_cell BK416.out 0).trans rfl, (blk_cell BK416.out 1).trans rfl, (blk_cell BK416.out 2).trans rfl⟩ (fun hHeld => ?_); refine with_tabW laws_FnExactDyMul.tab8 laws_FnExactDyMul.bits8 (fun HT_ HW_ => ?_)
 generalize w58.drew = w59 at BK415 BK416 HB hHeld ⊢
 refine take_ (i := 0) (N := some 28) (v := ?_) (a' := ?_) #[true, false, false, false, false, false, false, false, false, false, false] rfl rfl (take_ofW HT_.out HW_.out (by kernel_rfl)) (fun _ _ _ h => h) (Or.inl ⟨by rfl, ?_⟩) hHeld ?_ ?_
 rotate_left
 · rintro w' ⟨s0, s1, s2, s3, s4, s5⟩
   go_simp
   with_reducible rfl
 rotate_left
 · simp only [Act.put, sa, sb, sc, i64_w, i32_w]
   rfl
 refine take_ (i := 2) (N := some 30) (v := ?_) (a' := ?_) #[true, false, true, false, false, false, false, false, false, false, false] rfl rfl (take_ofW HT_.out HW_.out (by kernel_rfl)) (fun _ _ _ h => h) (Or.inl ⟨by rfl, ?_⟩) hHeld ?_ ?_
 rotate_left
 · rintro w' ⟨s0, s1, s2, s3, s4, s5⟩
   go_simp
   with_reducible rfl
 rotate_left
 · simp only [Act.put, sa, sb, sc, i64_w, i32_w]
   rfl
 refine join_ (σ := Value × Value × Value × Nat) 2 #[true, true, true, true, true, true, true, true, true, false, false] (fun s_ => [(29, .agg #[.bool t419, s_.1, .int .i64 t423]), (31, .agg #[.bool t424, s_.2.1, .int .i64 t428]), (32, .tuple #[.agg #[.bool t429, s_.2.2.1, .int .i64 t433], .int .i64 t434]), (6, .pointer (some ⟨s_.2.2.2, 0, none⟩)), (27, .tuple #[.agg #[.bool t429, s_.2.2.1, .int .i64 t433], .int .i64 t434]), (33, .agg #[.bool t429, s_.2.2.1, .int .i64 t433]), (34, .int .i64 t434)]) (fun s_ w' => (w'.cell? ⟨gb415, 0, none⟩ = some (.bool a0_0) ∧ w'.cell? ⟨gb415, 1, none⟩ = some (.slice A0_1 l0_1.length c0_1) ∧ w'.cell? ⟨gb415, 2, none⟩ = some (.int .i64 a0_2) ∧ w'.cell? ⟨gb416, 0, none⟩ = some (.bool a1_0) ∧ w'.cell? ⟨gb416, 1, none⟩ = some (.slice A1_1 l1_1.length c1_1) ∧ w'.cell? ⟨gb416, 2, none⟩ = some (.int .i64 a1_2)) ∧ (Kd.R (Kd.int .u32) 50 w' w.heap.size (fun k_ => some k_ ≠ (s_.2.1 : Value).ownBlock ∧ some k_ ≠ (s_.2.2.1 : Value).ownBlock) s_.1 t420) ∧ (Kd.R (Kd.int .u32) 50 w' w.heap.size (fun k_ => some k_ ≠ (s_.1 : Value).ownBlock ∧ some k_ ≠ (s_.2.2.1 : Value).ownBlock) s_.2.1 t425) ∧ (Kd.R (Kd.int .u32) 50 w' w.heap.size (fun k_ => some k_ ≠ (s_.1 : Value).ownBlock ∧ some k_ ≠ (s_.2.1 : Value).ownBlock) s_.2.2.1 t430) ∧ (w'.heap[gb415]? = some (.cells #[.bool a0_0, .slice A0_1 l0_1.length c0_1, .int .i64 a0_2] 74 (0, 0))) ∧ (w'.heap[gb416]? = some (.cells #[.bool a1_0, .slice A1_1 l1_1.length c1_1, .int .i64 a1_2] 74 (0, 0))) ∧ (w'.heap[s_.2.2.2]? = some (.cells #[.bool false, .slice none 0 0, .int .i64 0] 77 (0, 0))) ∧ (w.heap.size ≤ s_.2.2.2) ∧ (w.heap.size ≤ s_.2.2.2) ∧ (gb415 ≠ s_.2.2.2) ∧ (s_.2.2.2 ≠ gb415) ∧ (gb416 ≠ s_.2.2.2) ∧ (s_.2.2.2 ≠ gb416) ∧ (Below w.heap.size w w')) ?_ ?_
 rotate_left
 · intro hCont
   refine two_ (i := 1) (j := 8) (Ni := some 29) (Nj := some 6) #[true, true, true, false, false, false, false, false, false, false, false] #[true, false, true, false, false, false, false, false, true, false, false] rfl rfl rfl rfl (two_of HT_.out (by kernel_rfl)) (by decide) (by decide) (fun K hK => ?_) (fun K hK => ?_)
   rotate_left
   · skip
     refine box_step ?hg (N := 6) ?hd (cs := #[.bool false, .slice none 0 0, .int .i64 0]) (t := 77) ?hr ?_; (case hd => rfl); (case hg => rfl); (case hr => first | (go_simp; done) | (go_simp; rfl))
     intro gb435 hg w60 hbox hb
     have BK435 := AM (hbox); have GW435 := gH HB hg; have GE435 := gH HB hg; replace HB := AM (below_step (pH HB) hb); have NB415_435 := nL BK415 hg; have NB435_415 := nG BK415 hg; replace BK415 := bB BK415 hb; have NB416_435 := nL BK416 hg; have NB435_416 := nG BK416 hg; replace BK416 := bB BK416 hb; clear hb hbox hg
     refine hK.out _ _ ⟨(blk_cell BK415.out 0).trans rfl, (blk_cell BK415.out 1).trans rfl, (blk_cell BK415.out 2).trans rfl, (blk_cell BK416.out 0).trans rfl, (blk_cell BK416.out 1).trans rfl, (blk_cell BK416.out 2).trans rfl⟩ (fun hHeld => ?_)
     clear hK K
     refine norm_ (a' := ?_) ?_ ?_
     rotate_left
     · show Act.put _ (some 6) _ = _
       simp only [Act.put, sa, sb, sc, i64_w, i32_w]
       rfl
     refine one_ (i := 1) (N := some 29) #[true, true, true, false, false, false, false, false, true, false, false] rfl rfl (one_of HT_.out (by kernel_rfl)) (by decide) (fun K hK => ?_)
     refine goes_ Try.func44 (by kernel_rfl) rfl #[.agg #[.bool a0_0, .slice A0_1 l0_1.length c0_1, .int .i64 a0_2]] (by rfl) rfl rfl (by (try simp only [List.map_toArray, List.map_cons, List.map_nil]); first | done | rfl | (simp only [List.length_drop, List.length_take]; rfl)) ?_
     with_reducible refine (laws_toDyadic.calls k a0_0 _ _ l0_1 a0_2 t419 t420 t423 _ ?side1 ?side2 A19.out).mono ?_
     (case side1 => exact cB HR0_1 HB)
     (case side2 => exact HC0_1.out)
     rintro e w61 ⟨v421, rfl, ho0, hb⟩
     refine ⟨_, rfl, ?_⟩
     have HO422 := AM (Kd.R_lower ho0 (below_size (pH HB))); replace BK415 := bB BK415 hb; replace BK416 := bB BK416 hb; replace BK435 := bB BK435 hb; replace HB := AM (below_step (pH HB) hb)
     (try clear hb)
     (try clear hb2)
     (try clear hk)
     (try clear hi)
     (try clear ho0)
     refine hK.out _ _ ⟨(blk_cell BK415.out 0).trans rfl, (blk_cell BK415.out 1).trans rfl, (blk_cell BK415.out 2).trans rfl, (blk_cell BK416.out 0).trans rfl, (blk_cell BK416.out 1).trans rfl, (blk_cell BK416.out 2).trans rfl⟩ (fun hHeld => ?_)
     clear hK K
     refine norm_ (a' := ?_) ?_ ?_
     rotate_left
     · show Act.put _ (some 29) _ = _
       simp only [Act.put, sa, sb, sc, i64_w, i32_w]
       rfl
     refine one_ (i := 3) (N := some 31) #[true, true, true, true, false, false, false, false, true, false, false] rfl rfl (one_of HT_.out (by kernel_rfl)) (by decide) (fun K hK => ?_)
     refine goes_ Try.func44 (by kernel_rfl) rfl #[.agg #[.bool a1_0, .slice A1_1 l1_1.length c1_1, .int .i64 a1_2]] (by rfl) rfl rfl (by (try simp only [List.map_toArray, List.map_cons, List.map_nil]); first | done | rfl | (simp only [List.length_drop, List.length_take]; rfl)) ?_
     with_reducible refine (laws_toDyadic.calls k a1_0 _ _ l1_1 a1_2 t424 t425 t428 _ ?side1 ?side2 A20.out).mono ?_
     (case side1 => exact cB HR1_1 HB)
     (case side2 => exact HC1_1.out)
     rintro e w62 ⟨v426, rfl, ho0, hb⟩
     refine ⟨_, rfl, ?_⟩
     have HO427 := AM (Kd.R_lower (Kd.R_new' ho0 (Kd.R_lt (pR HO422))) (below_size (pH HB))); replace HO422 := AM (Kd.R_elder' (pR HO422) (Kd.R_base ho0) hb); replace BK415 := bB BK415 hb; replace BK416 := bB BK416 hb; replace BK435 := bB BK435 hb; replace HB := AM (below_step (pH HB) hb)
     (try clear hb)
     (try clear hb2)
     (try clear hk)
     (try clear hi)
     (try clear ho0)
     obtain ⟨Ao63, co63, eo63⟩ := Kd.R_slice HO422.out
     (first | subst eo63 | (injection eo63 with f1_ f2_ f3_; have f4_ := f1_.symm; have f5_ := f3_.symm; clear f1_ f2_ f3_; subst f4_; subst f5_))
     obtain ⟨Ao64, co64, eo64⟩ := Kd.R_slice HO427.out
     (first | subst eo64 | (injection eo64 with f1_ f2_ f3_; have f4_ := f1_.symm; have f5_ := f3_.symm; clear f1_ f2_ f3_; subst f4_; subst f5_))
     refine hK.out _ _ ⟨(blk_cell BK415.out 0).trans rfl, (blk_cell BK415.out 1).trans rfl, (blk_cell BK415.out 2).trans rfl, (blk_cell BK416.out 0).trans rfl, (blk_cell BK416.out 1).trans rfl, (blk_cell BK416.out 2).trans rfl⟩ (fun hHeld => ?_)
     clear hK K
     refine norm_ (a' := ?_) ?_ ?_
     rotate_left
     · show Act.put _ (some 31) _ = _
       simp only [Act.put, sa, sb, sc, i64_w, i32_w]
       rfl
     refine one_ (i := 4) (N := some 32) #[true, true, true, true, true, false, false, false, true, false, false] rfl rfl (one_of HT_.out (by kernel_rfl)) (by decide) (fun K hK => ?_)
     refine goes_ Try.func43 (by kernel_rfl) rfl #[.agg #[.bool t419, .slice Ao63 t420.length co63, .int .i64 t423], .agg #[.bool t424, .slice Ao64 t425.length co64, .int .i64 t428]] (by rfl) rfl rfl (by (try simp only [List.map_toArray, List.map_cons, List.map_nil]); first | done | rfl | (simp only [List.length_drop, List.length_take]; rfl)) ?_
     with_reducible refine (spec_DyMul.calls k t419 _ _ t420 t423 t424 _ _ t425 t428 t429 t430 t433 t434 _ ?side1 ?side2 ?side3 ?side4 A21.out).mono ?_
     (case side1 => exact cR HO422)
     (case side2 => exact (Kd.R_reads' HO422.out).2.1)
     (case side3 => exact cR HO427)
     (case side4 => exact (Kd.R_reads' HO427.out).2.1)
     rintro e w65 ⟨v431, rfl, ho0, hb⟩
     refine ⟨_, rfl, ?_⟩
     have HO432 := AM (Kd.R_lower (Kd.R_new' (Kd.R_new' ho0 (Kd.R_lt (pR HO422))) (Kd.R_lt (pR HO427))) (below_size (pH HB))); replace HO422 := AM (Kd.R_elder' (pR HO422) (Kd.R_base ho0) hb); replace HO427 := AM (Kd.R_elder' (pR HO427) (Kd.R_base ho0) hb); replace BK415 := bB BK415 hb; replace BK416 := bB BK416 hb; replace BK435 := bB BK435 hb; replace HB := AM (below_step (pH HB) hb)
     (try clear hb)
     (try clear hb2)
     (try clear hk)
     (try clear hi)
     (try clear ho0)
     refine hK.out _ _ ⟨(blk_cell BK415.out 0).trans rfl, (blk_cell BK415.out 1).trans rfl, (blk_cell BK415.out 2).trans rfl, (blk_cell BK416.out 0).trans rfl, (blk_cell BK416.out 1).trans rfl, (blk_cell BK416.out 2).trans rfl⟩ (fun hHeld => ?_)
     clear hK K
     refine norm_ (a' := ?_) ?_ ?_
     rotate_left
     · show Act.put _ (some 32) _ = _
       simp only [Act.put, sa, sb, sc, i64_w, i32_w]
       rfl
     refine pure_ (i := 5) (N := some 27) (v := ?_) (a' := ?_) #[true, true, true, true, true, true, false, false, true, false, false] rfl rfl (any_of HT_.out (by kernel_rfl)) (fun _ _ _ h => h) (Or.inl ⟨by rfl, ?_⟩) ?_ ?_
     rotate_left
     · intro w'
       go_simp
       with_reducible rfl
     rotate_left
     · simp only [Act.put, sa, sb, sc, i64_w, i32_w]
       rfl
     refine pure_ (i := 6) (N := some 33) (v := ?_) (a' := ?_) #[true, true, true, true, true, true, true, false, true, false, false] rfl rfl (any_of HT_.out (by kernel_rfl)) (fun _ _ _ h => h) (Or.inl ⟨by rfl, ?_⟩) ?_ ?_
     rotate_left
     · intro w'
       go_simp
       with_reducible rfl
     rotate_left
     · simp only [Act.put, sa, sb, sc, i64_w, i32_w]
       rfl
     refine pure_ (i := 7) (N := some 34) (v := ?_) (a' := ?_) #[true, true, true, true, true, true, true, true, true, false, false] rfl rfl (any_of HT_.out (by kernel_rfl)) (fun _ _ _ h => h) (Or.inl ⟨by rfl, ?_⟩) ?_ ?_
     rotate_left
     · intro w'
       go_simp
       with_reducible rfl
     rotate_left
     · simp only [Act.put, sa, sb, sc, i64_w, i32_w]
       rfl
     exact norm_ (by simp only [putAll, Act.put, sa, sb, sc]) (hCont (.slice Ao63 t420.length co63, .slice Ao64 t425.length co64, v431, gb435) _ ⟨hHeld, (by (with_reducible repeat (first | apply Kd.R_alloc | apply Kd.R_drewN | apply Kd.R_drew)); exact Kd.R_mono HO422.out (fun _ hk => ⟨hk.1.2, hk.2⟩)), (by (with_reducible repeat (first | apply Kd.R_alloc | apply Kd.R_drewN | apply Kd.R_drew)); exact Kd.R_mono HO427.out (fun _ hk => ⟨hk.1.2, hk.2⟩)), (by (with_reducible repeat (first | apply Kd.R_alloc | apply Kd.R_drewN | apply Kd.R_drew)); exact Kd.R_mono HO432.out (fun _ hk => ⟨hk.1.2, hk.2⟩)), (pB BK415), (pB BK416), (pB BK435), GW435.out, GE435.out, NB415_435.out, NB435_415.out, NB416_435.out, NB435_416.out, (pH HB)⟩)
   skip
   refine goes_ Try.func44 (by kernel_rfl) rfl #[.agg #[.bool a0_0, .slice A0_1 l0_1.length c0_1, .int .i64 a0_2]] (by rfl) rfl rfl (by (try simp only [List.map_toArray, List.map_cons, List.map_nil]); first | done | rfl | (simp only [List.length_drop, List.length_take]; rfl)) ?_
   with_reducible refine (laws_toDyadic.calls k a0_0 _ _ l0_1 a0_2 t419 t420 t423 _ ?side1 ?side2 A19.out).mono ?_
   (case side1 => exact cB HR0_1 HB)
   (case side2 => exact HC0_1.out)
   rintro e w60 ⟨v421, rfl, ho0, hb⟩
   refine ⟨_, rfl, ?_⟩
   have HO422 := AM (Kd.R_lower ho0 (below_size (pH HB))); replace BK415 := bB BK415 hb; replace BK416 := bB BK416 hb; replace HB := AM (below_step (pH HB) hb)
   (try clear hb)
   (try clear hb2)
   (try clear hk)
   (try clear hi)
   (try clear ho0)
   refine hK.out _ _ ⟨(blk_cell BK415.out 0).trans rfl, (blk_cell BK415.out 1).trans rfl, (blk_cell BK415.out 2).trans rfl, (blk_cell BK416.out 0).trans rfl, (blk_cell BK416.out 1).trans rfl, (blk_cell BK416.out 2).trans rfl⟩ (fun hHeld => ?_)
   clear hK K
   refine norm_ (a' := ?_) ?_ ?_
   rotate_left
   · show Act.put _ (some 29) _ = _
     simp only [Act.put, sa, sb, sc, i64_w, i32_w]
     rfl
   refine two_ (i := 3) (j := 8) (Ni := some 31) (Nj := some 6) #[true, true, true, true, false, false, false, false, false, false, false] #[true, true, true, false, false, false, false, false, true, false, false] rfl rfl rfl rfl (two_of HT_.out (by kernel_rfl)) (by decide) (by decide) (fun K hK => ?_) (fun K hK => ?_)
   rotate_left
   · skip
     refine box_step ?hg (N := 6) ?hd (cs := #[.bool false, .slice none 0 0, .int .i64 0]) (t := 77) ?hr ?_; (case hd => rfl); (case hg => rfl); (case hr => first | (go_simp; done) | (go_simp; rfl))
     intro gb435 hg w61 hbox hb
     replace HO422 := AM (Kd.R_below (pR HO422) hb); have BK435 := AM (hbox); have GW435 := gH HB hg; have GE435 := gH HB hg; replace HB := AM (below_step (pH HB) hb); have NB415_435 := nL BK415 hg; have NB435_415 := nG BK415 hg; replace BK415 := bB BK415 hb; have NB416_435 := nL BK416 hg; have NB435_416 := nG BK416 hg; replace BK416 := bB BK416 hb; clear hb hbox hg
     refine hK.out _ _ ⟨(blk_cell BK415.out 0).trans rfl, (blk_cell BK415.out 1).trans rfl, (blk_cell BK415.out 2).trans rfl, (blk_cell BK416.out 0).trans rfl, (blk_cell BK416.out 1).trans rfl, (blk_cell BK416.out 2).trans rfl⟩ (fun hHeld => ?_)
     clear hK K
     refine norm_ (a' := ?_) ?_ ?_
     rotate_left
     · show Act.put _ (some 6) _ = _
       simp only [Act.put, sa, sb, sc, i64_w, i32_w]
       rfl
     refine one_ (i := 3) (N := some 31) #[true, true, true, true, false, false, false, false, true, false, false] rfl rfl (one_of HT_.out (by kernel_rfl)) (by decide) (fun K hK => ?_)
     refine goes_ Try.func44 (by kernel_rfl) rfl #[.agg #[.bool a1_0, .slice A1_1 l1_1.length c1_1, .int .i64 a1_2]] (by rfl) rfl rfl (by (try simp only [List.map_toArray, List.map_cons, List.map_nil]); first | done | rfl | (simp only [List.length_drop, List.length_take]; rfl)) ?_
     with_reducible refine (laws_toDyadic.calls k a1_0 _ _ l1_1 a1_2 t424 t425 t428 _ ?side1 ?side2 A20.out).mono ?_
     (case side1 => exact cB HR1_1 HB)
     (case side2 => exact HC1_1.out)
     rintro e w62 ⟨v426, rfl, ho0, hb⟩
     refine ⟨_, rfl, ?_⟩
     have HO427 := AM (Kd.R_lower (Kd.R_new' ho0 (Kd.R_lt (pR HO422))) (below_size (pH HB))); replace HO422 := AM (Kd.R_elder' (pR HO422) (Kd.R_base ho0) hb); replace BK415 := bB BK415 hb; replace BK416 := bB BK416 hb; replace BK435 := bB BK435 hb; replace HB := AM (below_step (pH HB) hb)
     (try clear hb)
     (try clear hb2)
     (try clear hk)
     (try clear hi)
     (try clear ho0)
     obtain ⟨Ao63, co63, eo63⟩ := Kd.R_slice HO422.out
     (first | subst eo63 | (injection eo63 with f1_ f2_ f3_; have f4_ := f1_.symm; have f5_ := f3_.symm; clear f1_ f2_ f3_; subst f4_; subst f5_))
     obtain ⟨Ao64, co64, eo64⟩ := Kd.R_slice HO427.out
     (first | subst eo64 | (injection eo64 with f1_ f2_ f3_; have f4_ := f1_.symm; have f5_ := f3_.symm; clear f1_ f2_ f3_; subst f4_; subst f5_))
     refine hK.out _ _ ⟨(blk_cell BK415.out 0).trans rfl, (blk_cell BK415.out 1).trans rfl, (blk_cell BK415.out 2).trans rfl, (blk_cell BK416.out 0).trans rfl, (blk_cell BK416.out 1).trans rfl, (blk_cell BK416.out 2).trans rfl⟩ (fun hHeld => ?_)
     clear hK K
     refine norm_ (a' := ?_) ?_ ?_
     rotate_left
     · show Act.put _ (some 31) _ = _
       simp only [Act.put, sa, sb, sc, i64_w, i32_w]
       rfl
     refine one_ (i := 4) (N := some 32) #[true, true, true, true, true, false, false, false, true, false, false] rfl rfl (one_of HT_.out (by kernel_rfl)) (by decide) (fun K hK => ?_)
     refine goes_ Try.func43 (by kernel_rfl) rfl #[.agg #[.bool t419, .slice Ao63 t420.length co63, .int .i64 t423], .agg #[.bool t424, .slice Ao64 t425.length co64, .int .i64 t428]] (by rfl) rfl rfl (by (try simp only [List.map_toArray, List.map_cons, List.map_nil]); first | done | rfl | (simp only [List.length_drop, List.length_take]; rfl)) ?_
     with_reducible refine (spec_DyMul.calls k t419 _ _ t420 t423 t424 _ _ t425 t428 t429 t430 t433 t434 _ ?side1 ?side2 ?side3 ?side4 A21.out).mono ?_
     (case side1 => exact cR HO422)
     (case side2 => exact (Kd.R_reads' HO422.out).2.1)
     (case side3 => exact cR HO427)
     (case side4 => exact (Kd.R_reads' HO427.out).2.1)
     rintro e w65 ⟨v431, rfl, ho0, hb⟩
     refine ⟨_, rfl, ?_⟩
     have HO432 := AM (Kd.R_lower (Kd.R_new' (Kd.R_new' ho0 (Kd.R_lt (pR HO422))) (Kd.R_lt (pR HO427))) (below_size (pH HB))); replace HO422 := AM (Kd.R_elder' (pR HO422) (Kd.R_base ho0) hb); replace HO427 := AM (Kd.R_elder' (pR HO427) (Kd.R_base ho0) hb); replace BK415 := bB BK415 hb; replace BK416 := bB BK416 hb; replace BK435 := bB BK435 hb; replace HB := AM (below_step (pH HB) hb)
     (try clear hb)
     (try clear hb2)
     (try clear hk)
     (try clear hi)
     (try clear ho0)
     refine hK.out _ _ ⟨(blk_cell BK415.out 0).trans rfl, (blk_cell BK415.out 1).trans rfl, (blk_cell BK415.out 2).trans rfl, (blk_cell BK416.out 0).trans rfl, (blk_cell BK416.out 1).trans rfl, (blk_cell BK416.out 2).trans rfl⟩ (fun hHeld => ?_)
     clear hK K
     refine norm_ (a' := ?_) ?_ ?_
     rotate_left
     · show Act.put _ (some 32) _ = _
       simp only [Act.put, sa, sb, sc, i64_w, i32_w]
       rfl
     refine pure_ (i := 5) (N := some 27) (v := ?_) (a' := ?_) #[true, true, true, true, true, true, false, false, true, false, false] rfl rfl (any_of HT_.out (by kernel_rfl)) (fun _ _ _ h => h) (Or.inl ⟨by rfl, ?_⟩) ?_ ?_
     rotate_left
     · intro w'
       go_simp
       with_reducible rfl
     rotate_left
     · simp only [Act.put, sa, sb, sc, i64_w, i32_w]
       rfl
     refine pure_ (i := 6) (N := some 33) (v := ?_) (a' := ?_) #[true, true, true, true, true, true, true, false, true, false, false] rfl rfl (any_of HT_.out (by kernel_rfl)) (fun _ _ _ h => h) (Or.inl ⟨by rfl, ?_⟩) ?_ ?_
     rotate_left
     · intro w'
       go_simp
       with_reducible rfl
     rotate_left
     · simp only [Act.put, sa, sb, sc, i64_w, i32_w]
       rfl
     refine pure_ (i := 7) (N := some 34) (v := ?_) (a' := ?_) #[true, true, true, true, true, true, true, true, true, false, false] rfl rfl (any_of HT_.out (by kernel_rfl)) (fun _ _ _ h => h) (Or.inl ⟨by rfl, ?_⟩) ?_ ?_
     rotate_left
     · intro w'
       go_simp
       with_reducible rfl
     rotate_left
     · simp only [Act.put, sa, sb, sc, i64_w, i32_w]
       rfl
     exact norm_ (by simp only [putAll, Act.put, sa, sb, sc]) (hCont (.slice Ao63 t420.length co63, .slice Ao64 t425.length co64, v431, gb435) _ ⟨hHeld, (by (with_reducible repeat (first | apply Kd.R_alloc | apply Kd.R_drewN | apply Kd.R_drew)); exact Kd.R_mono HO422.out (fun _ hk => ⟨hk.1.2, hk.2⟩)), (by (with_reducible repeat (first | apply Kd.R_alloc | apply Kd.R_drewN | apply Kd.R_drew)); exact Kd.R_mono HO427.out (fun _ hk => ⟨hk.1.2, hk.2⟩)), (by (with_reducible repeat (first | apply Kd.R_alloc | apply Kd.R_drewN | apply Kd.R_drew)); exact Kd.R_mono HO432.out (fun _ hk => ⟨hk.1.2, hk.2⟩)), (pB BK415), (pB BK416), (pB BK435), GW435.out, GE435.out, NB415_435.out, NB435_415.out, NB416_435.out, NB435_416.out, (pH HB)⟩)
   skip
   refine goes_ Try.func44 (by kernel_rfl) rfl #[.agg #[.bool a1_0, .slice A1_1 l1_1.length c1_1, .int .i64 a1_2]] (by rfl) rfl rfl (by (try simp only [List.map_toArray, List.map_cons, List.map_nil]); first | done | rfl | (simp only [List.length_drop, List.length_take]; rfl)) ?_
   with_reducible refine (laws_toDyadic.calls k a1_0 _ _ l1_1 a1_2 t424 t425 t428 _ ?side1 ?side2 A20.out).mono ?_
   (case side1 => exact cB HR1_1 HB)
   (case side2 => exact HC1_1.out)
   rintro e w61 ⟨v426, rfl, ho0, hb⟩
   refine ⟨_, rfl, ?_⟩
   have HO427 := AM (Kd.R_lower (Kd.R_new' ho0 (Kd.R_lt (pR HO422))) (below_size (pH HB))); replace HO422 := AM (Kd.R_elder' (pR HO422) (Kd.R_base ho0) hb); replace BK415 := bB BK415 hb; replace BK416 := bB BK416 hb; replace HB := AM (below_step (pH HB) hb)
   (try clear hb)
   (try clear hb2)
   (try clear hk)
   (try clear hi)
   (try clear ho0)
   obtain ⟨Ao62, co62, eo62⟩ := Kd.R_slice HO422.out
   (first | subst eo62 | (injection eo62 with f1_ f2_ f3_; have f4_ := f1_.symm; have f5_ := f3_.symm; clear f1_ f2_ f3_; subst f4_; subst f5_))
   obtain ⟨Ao63, co63, eo63⟩ := Kd.R_slice HO427.out
   (first | subst eo63 | (injection eo63 with f1_ f2_ f3_; have f4_ := f1_.symm; have f5_ := f3_.symm; clear f1_ f2_ f3_; subst f4_; subst f5_))
   refine hK.out _ _ ⟨(blk_cell BK415.out 0).trans rfl, (blk_cell BK415.out 1).trans rfl, (blk_cell BK415.out 2).trans rfl, (blk_cell BK416.out 0).trans rfl, (blk_cell BK416.out 1).trans rfl, (blk_cell BK416.out 2).trans rfl⟩ (fun hHeld => ?_)
   clear hK K
   refine norm_ (a' := ?_) ?_ ?_
   rotate_left
   · show Act.put _ (some 31) _ = _
     simp only [Act.put, sa, sb, sc, i64_w, i32_w]
     rfl
   refine two_ (i := 4) (j := 8) (Ni := some 32) (Nj := some 6) #[true, true, true, true, true, false, false, false, false, false, false] #[true, true, true, true, false, false, false, false, true, false, false] rfl rfl rfl rfl (two_of HT_.out (by kernel_rfl)) (by decide) (by decide) (fun K hK => ?_) (fun K hK => ?_)
   · skip
     refine goes_ Try.func43 (by kernel_rfl) rfl #[.agg #[.bool t419, .slice Ao62 t420.length co62, .int .i64 t423], .agg #[.bool t424, .slice Ao63 t425.length co63, .int .i64 t428]] (by rfl) rfl rfl (by (try simp only [List.map_toArray, List.map_cons, List.map_nil]); first | done | rfl | (simp only [List.length_drop, List.length_take]; rfl)) ?_
     with_reducible refine (spec_DyMul.calls k t419 _ _ t420 t423 t424 _ _ t425 t428 t429 t430 t433 t434 _ ?side1 ?side2 ?side3 ?side4 A21.out).mono ?_
     (case side1 => exact cR HO422)
     (case side2 => exact (Kd.R_reads' HO422.out).2.1)
     (case side3 => exact cR HO427)
     (case side4 => exact (Kd.R_reads' HO427.out).2.1)
     rintro e w64 ⟨v431, rfl, ho0, hb⟩
     refine ⟨_, rfl, ?_⟩
     have HO432 := AM (Kd.R_lower (Kd.R_new' (Kd.R_new' ho0 (Kd.R_lt (pR HO422))) (Kd.R_lt (pR HO427))) (below_size (pH HB))); replace HO422 := AM (Kd.R_elder' (pR HO422) (Kd.R_base ho0) hb); replace HO427 := AM (Kd.R_elder' (pR HO427) (Kd.R_base ho0) hb); replace BK415 := bB BK415 hb; replace BK416 := bB BK416 hb; replace HB := AM (below_step (pH HB) hb)
     (try clear hb)
     (try clear hb2)
     (try clear hk)
     (try clear hi)
     (try clear ho0)
     refine hK.out _ _ ⟨(blk_cell BK415.out 0).trans rfl, (blk_cell BK415.out 1).trans rfl, (blk_cell BK415.out 2).trans rfl, (blk_cell BK416.out 0).trans rfl, (blk_cell BK416.out 1).trans rfl, (blk_cell BK416.out 2).trans rfl⟩ (fun hHeld => ?_)
     clear hK K
     refine norm_ (a' := ?_) ?_ ?_
     rotate_left
     · show Act.put _ (some 32) _ = _
       simp only [Act.put, sa, sb, sc, i64_w, i32_w]
       rfl
     refine pure_ (i := 5) (N := some 27) (v := ?_) (a' := ?_) #[true, true, true, true, true, true, false, false, false, false, false] rfl rfl (any_of HT_.out (by kernel_rfl)) (fun _ _ _ h => h) (Or.inl ⟨by rfl, ?_⟩) ?_ ?_
     rotate_left
     · intro w'
       go_simp
       with_reducible rfl
     rotate_left
     · simp only [Act.put, sa, sb, sc, i64_w, i32_w]
       rfl
     refine pure_ (i := 6) (N := some 33) (v := ?_) (a' := ?_) #[true, true, true, true, true, true, true, false, false, false, false] rfl rfl (any_of HT_.out (by kernel_rfl)) (fun _ _ _ h => h) (Or.inl ⟨by rfl, ?_⟩) ?_ ?_
     rotate_left
     · intro w'
       go_simp
       with_reducible rfl
     rotate_left
     · simp only [Act.put, sa, sb, sc, i64_w, i32_w]
       rfl
     refine pure_ (i := 7) (N := some 34) (v := ?_) (a' := ?_) #[true, true, true, true, true, true, true, true, false, false, false] rfl rfl (any_of HT_.out (by kernel_rfl)) (fun _ _ _ h => h) (Or.inl ⟨by rfl, ?_⟩) ?_ ?_
     rotate_left
     · intro w'
       go_simp
       with_reducible rfl
     rotate_left
     · simp only [Act.put, sa, sb, sc, i64_w, i32_w]
       rfl
     refine one_ (i := 8) (N := some 6) #[true, true, true, true, true, true, true, true, true, false, false] rfl rfl (one_of HT_.out (by kernel_rfl)) (by decide) (fun K hK => ?_)
     refine box_step ?hg (N := 6) ?hd (cs := #[.bool false, .slice none 0 0, .int .i64 0]) (t := 77) ?hr ?_; (case hd => rfl); (case hg => rfl); (case hr => first | (go_simp; done) | (go_simp; rfl))
     intro gb435 hg w65 hbox hb
     replace HO422 := AM (Kd.R_below (pR HO422) hb); replace HO427 := AM (Kd.R_below (pR HO427) hb); replace HO432 := AM (Kd.R_below (pR HO432) hb); have BK435 := AM (hbox); have GW435 := gH HB hg; have GE435 := gH HB hg; replace HB := AM (below_step (pH HB) hb); have NB415_435 := nL BK415 hg; have NB435_415 := nG BK415 hg; replace BK415 := bB BK415 hb; have NB416_435 := nL BK416 hg; have NB435_416 := nG BK416 hg; replace BK416 := bB BK416 hb; clear hb hbox hg
     refine hK.out _ _ ⟨(blk_cell BK415.out 0).trans rfl, (blk_cell BK415.out 1).trans rfl, (blk_cell BK415.out 2).trans rfl, (blk_cell BK416.out 0).trans rfl, (blk_cell BK416.out 1).trans rfl, (blk_cell BK416.out 2).trans rfl⟩ (fun hHeld => ?_)
     clear hK K
     refine norm_ (a' := ?_) ?_ ?_
     rotate_left
     · show Act.put _ (some 6) _ = _
       simp only [Act.put, sa, sb, sc, i64_w, i32_w]
       rfl
     exact norm_ (by simp only [putAll, Act.put, sa, sb, sc]) (hCont (.slice Ao62 t420.length co62, .slice Ao63 t425.length co63, v431, gb435) _ ⟨hHeld, (by (with_reducible repeat (first | apply Kd.R_alloc | apply Kd.R_drewN | apply Kd.R_drew)); exact Kd.R_mono HO422.out (fun _ hk => ⟨hk.1.2, hk.2⟩)), (by (with_reducible repeat (first | apply Kd.R_alloc | apply Kd.R_drewN | apply Kd.R_drew)); exact Kd.R_mono HO427.out (fun _ hk => ⟨hk.1.2, hk.2⟩)), (by (with_reducible repeat (first | apply Kd.R_alloc | apply Kd.R_drewN | apply Kd.R_drew)); exact Kd.R_mono HO432.out (fun _ hk => ⟨hk.1.2, hk.2⟩)), (pB BK415), (pB BK416), (pB BK435), GW435.out, GE435.out, NB415_435.out, NB435_415.out, NB416_435.out, NB435_416.out, (pH HB)⟩)
   skip
   refine box_step ?hg (N := 6) ?hd (cs := #[.bool false, .slice none 0 0, .int .i64 0]) (t := 77) ?hr ?_; (case hd => rfl); (case hg => rfl); (case hr => first | (go_simp; done) | (go_simp; rfl))
   intro gb435 hg w62 hbox hb
   replace HO422 := AM (Kd.R_below (pR HO422) hb); replace HO427 := AM (Kd.R_below (pR HO427) hb); have BK435 := AM (hbox); have GW435 := gH HB hg; have GE435 := gH HB hg; replace HB := AM (below_step (pH HB) hb); have NB415_435 := nL BK415 hg; have NB435_415 := nG BK415 hg; replace BK415 := bB BK415 hb; have NB416_435 := nL BK416 hg; have NB435_416 := nG BK416 hg; replace BK416 := bB BK416 hb; clear hb hbox hg
   obtain ⟨Ao63, co63, eo63⟩ := Kd.R_slice HO422.out
   (first | subst eo63 | (injection eo63 with f1_ f2_ f3_; have f4_ := f1_.symm; have f5_ := f3_.symm; clear f1_ f2_ f3_; subst f4_; subst f5_))
   obtain ⟨Ao64, co64, eo64⟩ := Kd.R_slice HO427.out
   (first | subst eo64 | (injection eo64 with f1_ f2_ f3_; have f4_ := f1_.symm; have f5_ := f3_.symm; clear f1_ f2_ f3_; subst f4_; subst f5_))
   refine hK.out _ _ ⟨(blk_cell BK415.out 0).trans rfl, (blk_cell BK415.out 1).trans rfl, (blk_cell BK415.out 2).trans rfl, (blk_cell BK416.out 0).trans rfl, (blk_cell BK416.out 1).trans rfl, (blk_cell BK416.out 2).trans rfl⟩ (fun hHeld => ?_)
   clear hK K
   refine norm_ (a' := ?_) ?_ ?_
   rotate_left
   · show Act.put _ (some 6) _ = _
     simp only [Act.put, sa, sb, sc, i64_w, i32_w]
     rfl
   refine one_ (i := 4) (N := some 32) #[true, true, true, true, true, false, false, false, true, false, false] rfl rfl (one_of HT_.out (by kernel_rfl)) (by decide) (fun K hK => ?_)
   refine goes_ Try.func43 (by kernel_rfl) rfl #[.agg #[.bool t419, .slice Ao63 t420.length co63, .int .i64 t423], .agg #[.bool t424, .slice Ao64 t425.length co64, .int .i64 t428]] (by rfl) rfl rfl (by (try simp only [List.map_toArray, List.map_cons, List.map_nil]); first | done | rfl | (simp only [List.length_drop, List.length_take]; rfl)) ?_
   with_reducible refine (spec_DyMul.calls k t419 _ _ t420 t423 t424 _ _ t425 t428 t429 t430 t433 t434 _ ?side1 ?side2 ?side3 ?side4 A21.out).mono ?_
   (case side1 => exact cR HO422)
   (case side2 => exact (Kd.R_reads' HO422.out).2.1)
   (case side3 => exact cR HO427)
   (case side4 => exact (Kd.R_reads' HO427.out).2.1)
   rintro e w65 ⟨v431, rfl, ho0, hb⟩
   refine ⟨_, rfl, ?_⟩
   have HO432 := AM (Kd.R_lower (Kd.R_new' (Kd.R_new' ho0 (Kd.R_lt (pR HO422))) (Kd.R_lt (pR HO427))) (below_size (pH HB))); replace HO422 := AM (Kd.R_elder' (pR HO422) (Kd.R_base ho0) hb); replace HO427 := AM (Kd.R_elder' (pR HO427) (Kd.R_base ho0) hb); replace BK415 := bB BK415 hb; replace BK416 := bB BK416 hb; replace BK435 := bB BK435 hb; replace HB := AM (below_step (pH HB) hb)
   (try clear hb)
   (try clear hb2)
   (try clear hk)
   (try clear hi)
   (try clear ho0)
   refine hK.out _ _ ⟨(blk_cell BK415.out 0).trans rfl, (blk_cell BK415.out 1).trans rfl, (blk_cell BK415.out 2).trans rfl, (blk_cell BK416.out 0).trans rfl, (blk_cell BK416.out 1).trans rfl, (blk_cell BK416.out 2).trans rfl⟩ (fun hHeld => ?_)
   clear hK K
   refine norm_ (a' := ?_) ?_ ?_
   rotate_left
   · show Act.put _ (some 32) _ = _
     simp only [Act.put, sa, sb, sc, i64_w, i32_w]
     rfl
   refine pure_ (i := 5) (N := some 27) (v := ?_) (a' := ?_) #[true, true, true, true, true, true, false, false, true, false, false] rfl rfl (any_of HT_.out (by kernel_rfl)) (fun _ _ _ h => h) (Or.inl ⟨by rfl, ?_⟩) ?_ ?_
   rotate_left
   · intro w'
     go_simp
     with_reducible rfl
   rotate_left
   · simp only [Act.put, sa, sb, sc, i64_w, i32_w]
     rfl
   refine pure_ (i := 6) (N := some 33) (v := ?_) (a' := ?_) #[true, true, true, true, true, true, true, false, true, false, false] rfl rfl (any_of HT_.out (by kernel_rfl)) (fun _ _ _ h => h) (Or.inl ⟨by rfl, ?_⟩) ?_ ?_
   rotate_left
   · intro w'
     go_simp
     with_reducible rfl
   rotate_left
   · simp only [Act.put, sa, sb, sc, i64_w, i32_w]
     rfl
   refine pure_ (i := 7) (N := some 34) (v := ?_) (a' := ?_) #[true, true, true, true, true, true, true, true, true, false, false] rfl rfl (any_of HT_.out (by kernel_rfl)) (fun _ _ _ h => h) (Or.inl ⟨by rfl, ?_⟩) ?_ ?_
   rotate_left
   · intro w'
     go_simp
     with_reducible rfl
   rotate_left
   · simp only [Act.put, sa, sb, sc, i64_w, i32_w]
     rfl
   exact norm_ (by simp only [putAll, Act.put, sa, sb, sc]) (hCont (.slice Ao63 t420.length co63, .slice Ao64 t425.length co64, v431, gb435) _ ⟨hHeld, (by (with_reducible repeat (first | apply Kd.R_alloc | apply Kd.R_drewN | apply Kd.R_drew)); exact Kd.R_mono HO422.out (fun _ hk => ⟨hk.1.2, hk.2⟩)), (by (with_reducible repeat (first | apply Kd.R_alloc | apply Kd.R_drewN | apply Kd.R_drew)); exact Kd.R_mono HO427.out (fun _ hk => ⟨hk.1.2, hk.2⟩)), (by (with_reducible repeat (first | apply Kd.R_alloc | apply Kd.R_drewN | apply Kd.R_drew)); exact Kd.R_mono HO432.out (fun _ hk => ⟨hk.1.2, hk.2⟩)), (pB BK415), (pB BK416), (pB BK435), GW435.out, GE435.out, NB415_435.out, NB435_415.out, NB416_435.out, NB435_416.out, (pH HB)⟩)
 rintro ⟨v421, v426, v431, gb435⟩ w66 ⟨hS_, h0_, h1_, h2_, h3_, h4_, h5_, h6_, h7_, h8_, h9_, h10_, h11_, h12_⟩
 have n0_ : Aside0 (Kd.R (Kd.int .u32) 50 w66 w.heap.size (fun k_ => some k_ ≠ (v426 : Value).ownBlock ∧ some k_ ≠ (v431 : Value).ownBlock) v421 t420) := ⟨h0_⟩
 have n1_ : Aside0 (Kd.R (Kd.int .u32) 50 w66 w.heap.size (fun k_ => some k_ ≠ (v421 : Value).ownBlock ∧ some k_ ≠ (v431 : Value).ownBlock) v426 t425) := ⟨h1_⟩
 have n2_ : Aside0 (Kd.R (Kd.int .u32) 50 w66 w.heap.size (fun k_ => some k_ ≠ (v421 : Value).ownBlock ∧ some k_ ≠ (v426 : Value).ownBlock) v431 t430) := ⟨h2_⟩
 have n3_ : Aside0 (w66.heap[gb415]? = some (.cells #[.bool a0_0, .slice A0_1 l0_1.length c0_1, .int .i64 a0_2] 74 (0, 0))) := ⟨h3_⟩
 have n4_ : Aside0 (w66.heap[gb416]? = some (.cells #[.bool a1_0, .slice A1_1 l1_1.length c1_1, .int .i64 a1_2] 74 (0, 0))) := ⟨h4_⟩
 have n5_ : Aside0 (w66.heap[gb435]? = some (.cells #[.bool false, .slice none 0 0, .int .i64 0] 77 (0, 0))) := ⟨h5_⟩
 have n6_ : Aside0 (w.heap.size ≤ gb435) := ⟨h6_⟩
 have n7_ : Aside0 (w.heap.size ≤ gb435) := ⟨h7_⟩
 have n8_ : Aside0 (gb415 ≠ gb435) := ⟨h8_⟩
 have n9_ : Aside0 (gb435 ≠ gb415) := ⟨h9_⟩
 have n10_ : Aside0 (gb416 ≠ gb435) := ⟨h10_⟩
 have n11_ : Aside0 (gb435 ≠ gb416) := ⟨h11_⟩
 have n12_ : Aside0 (Below w.heap.size w w66) := ⟨h12_⟩
 clear BK415; clear BK416; clear HB; clear h0_ h1_ h2_ h3_ h4_ h5_ h6_ h7_ h8_ h9_ h10_ h11_ h12_; have HO422 := n0_; have HO427 := n1_; have HO432 := n2_; have BK415 := n3_; have BK416 := n4_; have BK435 := n5_; have GW435 := n6_; have GE435 := n7_; have NB415_435 := n8_; have NB435_415 := n9_; have NB416_435 := n10_; have NB435_416 := n11_; have HB := n12_; clear n0_ n1_ n2_ n3_ n4_ n5_ n6_ n7_ n8_ n9_ n10_ n11_ n12_
 have hHeld : w66.cell? ⟨gb415, 0, none⟩ = some (.bool a0_0) ∧ w66.cell? ⟨gb415, 1, none⟩ = some (.slice A0_1 l0_1.length c0_1) ∧ w66.cell? ⟨gb415, 2, none⟩ = some (.int .i64 a0_2) ∧ w66.cell? ⟨gb416, 0, none⟩ = some (.bool a1_0) ∧ w66.cell? ⟨gb416, 1, none⟩ = some (.slice A1_1 l1_1.length c1_1) ∧ w66.cell? ⟨gb416, 2, none⟩ = some (.int .i64 a1_2) := hS_
 obtain ⟨Ao68, co68, eo68⟩ := Kd.R_slice HO432.out
 (first | subst eo68 | (injection eo68 with f1_ f2_ f3_; have f4_ := f1_.symm; have f5_ := f3_.symm; clear f1_ f2_ f3_; subst f4_; subst f5_))
 refine norm_ (a' := ?_) ?_ ?_
 rotate_left
 · simp only [putAll, Act.put, sa, sb, sc]
   rfl
 refine one_ (i := 9) (N := none) #[true, true, true, true, true, true, true, true, true, true, false] rfl rfl (one_of HT_.out (by kernel_rfl)) (by decide) (fun K hK => ?_)
 have hs67 : w66.cell? ⟨gb435, 0, none⟩ = some (.bool false) := (blk_cell BK435.out 0).trans rfl
 have hfs67 := blk_frozen BK435.out 0; have hns67_0 := NB415_435.out; have hns67_1 := NB416_435.out; have hms67_0 := NB435_415.out; have hms67_1 := NB435_416.out
 have hs69 : w66.cell? ⟨gb435, 1, none⟩ = some (.slice none 0 0) := (blk_cell BK435.out 1).trans rfl
 have hfs69 := blk_frozen BK435.out 1; have hns69_0 := NB415_435.out; have hns69_1 := NB416_435.out; have hms69_0 := NB435_415.out; have hms69_1 := NB435_416.out
 have hs70 : w66.cell? ⟨gb435, 2, none⟩ = some (.int .i64 0) := (blk_cell BK435.out 2).trans rfl
 have hfs70 := blk_frozen BK435.out 2; have hns70_0 := NB415_435.out; have hns70_1 := NB416_435.out; have hms70_0 := NB435_415.out; have hms70_1 := NB435_416.out
 refine skip_ (w1 := ?_) (by rfl) rfl ?_ ?_
 rotate_left
 · go_simp
   rfl
 refine hK.out _ _ ⟨((cell_far (p := ⟨gb435, _, none⟩) NB415_435.out _).trans (((cell_far (p := ⟨gb435, _, none⟩) NB415_435.out _).trans (((cell_far (p := ⟨gb435, _, none⟩) NB415_435.out _).trans (hHeld.1)))))), ((cell_far (p := ⟨gb435, _, none⟩) NB415_435.out _).trans (((cell_far (p := ⟨gb435, _, none⟩) NB415_435.out _).trans (((cell_far (p := ⟨gb435, _, none⟩) NB415_435.out _).trans (hHeld.2.1)))))), ((cell_far (p := ⟨gb435, _, none⟩) NB415_435.out _).trans (((cell_far (p := ⟨gb435, _, none⟩) NB415_435.out _).trans (((cell_far (p := ⟨gb435, _, none⟩) NB415_435.out _).trans (hHeld.2.2.1)))))), ((cell_far (p := ⟨gb435, _, none⟩) NB416_435.out _).trans (((cell_far (p := ⟨gb435, _, none⟩) NB416_435.out _).trans (((cell_far (p := ⟨gb435, _, none⟩) NB416_435.out _).trans (hHeld.2.2.2.1)))))), ((cell_far (p := ⟨gb435, _, none⟩) NB416_435.out _).trans (((cell_far (p := ⟨gb435, _, none⟩) NB416_435.out _).trans (((cell_far (p := ⟨gb435, _, none⟩) NB416_435.out _).trans (hHeld.2.2.2.2.1)))))), ((cell_far (p := ⟨gb435, _, none⟩) NB416_435.out _).trans (((cell_far (p := ⟨gb435, _, none⟩) NB416_435.out _).trans (((cell_far (p := ⟨gb435, _, none⟩) NB416_435.out _).trans (hHeld.2.2.2.2.2))))))⟩ (fun hHeld => ?_)
 clear hK K
 refine pure_ (i := 10) (N := some 7) (v := ?_) (a' := ?_) #[true, true, true, true, true, true, true, true, true, true, true] rfl rfl (any_of HT_.out (by kernel_rfl)) (fun _ _ _ h => h) (Or.inl ⟨by rfl, ?_⟩) ?_ ?_
 rotate_left
 · intro w'
   go_simp
   with_reducible rfl
 rotate_left
 · simp only [Act.put, sa, sb, sc, i64_w, i32_w]
   rfl
 refine done_ (done_of HT_.out (by kernel_rfl)) ?_
 have hnb71 := NB415_435.out; have hnc71 := NB435_415.out
 have hcz72_0 : w66.cell? ⟨gb415, 0, none⟩ = some (.bool a0_0) := (blk_cell BK415.out 0).trans rfl
 have hcz72_1 : w66.cell? ⟨gb415, 1, none⟩ = some (.slice A0_1 l0_1.length c0_1) := (blk_cell BK415.out 1).trans rfl
 have hcz72_2 : w66.cell? ⟨gb415, 2, none⟩ = some (.int .i64 a0_2) := (blk_cell BK415.out 2).trans rfl
 have hfz72_0 := blk_frozen BK415.out 0; have hfz72_1 := blk_frozen BK415.out 1; have hfz72_2 := blk_frozen BK415.out 2
 try go_wp2_with (first | ((with_reducible refine gate_callee (f := 44) rfl ?_); refine goesL_ (some 36) rfl rfl Try.func44 (by kernel_rfl) rfl #[.agg #[.bool a0_0, .slice A0_1 l0_1.length c0_1, .int .i64 a0_2]] rfl (by (try simp only [List.map_toArray, List.map_cons, List.map_nil]); first | done | rfl | (simp only [List.length_drop, List.length_take]; rfl)) ?_; (with_reducible refine (laws_toDyadic.calls k a0_0 _ _ l0_1 a0_2 t436 t437 t440 _ ?side1 ?side2 A22.out).mono ?_); (case side1 => exact Kd.C_below HR0_1.out (pH HB)); (case side2 => exact HC0_1.out); rintro e w73 ⟨v438, rfl, ho0, hb⟩; refine ⟨_, rfl, ?_⟩; have HO439 := AM (Kd.R_lower (Kd.R_new' (Kd.R_new' (Kd.R_new' ho0 (Kd.R_lt (by (with_reducible repeat (first | apply Kd.R_alloc | apply Kd.R_drewN | apply Kd.R_drew)); exact (Kd.R_mono (Kd.R_far (p := ⟨gb435, 2, none⟩) (Kd.R_far (p := ⟨gb435, 1, none⟩) (Kd.R_far (p := ⟨gb435, 0, none⟩) (Kd.R_types HO422.out BK435.out (by decide)) (fun _ hk => hk.2) (.bool t429)) (fun _ hk => hk.2) (.slice Ao68 t430.length co68)) (fun _ hk => hk.2) (.int .i64 t433)) (fun _ h_ => h_.1))))) (Kd.R_lt (by (with_reducible repeat (first | apply Kd.R_alloc | apply Kd.R_drewN | apply Kd.R_drew)); exact (Kd.R_mono (Kd.R_far (p := ⟨gb435, 2, none⟩) (Kd.R_far (p := ⟨gb435, 1, none⟩) (Kd.R_far (p := ⟨gb435, 0, none⟩) (Kd.R_types HO427.out BK435.out (by decide)) (fun _ hk => hk.2) (.bool t429)) (fun _ hk => hk.2) (.slice Ao68 t430.length co68)) (fun _ hk => hk.2) (.int .i64 t433)) (fun _ h_ => h_.1))))) (Kd.R_lt (by (with_reducible repeat (first | apply Kd.R_alloc | apply Kd.R_drewN | apply Kd.R_drew)); exact (Kd.R_mono (Kd.R_far (p := ⟨gb435, 2, none⟩) (Kd.R_far (p := ⟨gb435, 1, none⟩) (Kd.R_far (p := ⟨gb435, 0, none⟩) (Kd.R_types HO432.out BK435.out (by decide)) (fun _ hk => hk.2) (.bool t429)) (fun _ hk => hk.2) (.slice Ao68 t430.length co68)) (fun _ hk => hk.2) (.int .i64 t433)) (fun _ h_ => h_.1))))) (below_size (pH HB))); replace HO422 := AM (Kd.R_elder' (by (with_reducible repeat (first | apply Kd.R_alloc | apply Kd.R_drewN | apply Kd.R_drew)); exact (Kd.R_mono (Kd.R_far (p := ⟨gb435, 2, none⟩) (Kd.R_far (p := ⟨gb435, 1, none⟩) (Kd.R_far (p := ⟨gb435, 0, none⟩) (Kd.R_types HO422.out BK435.out (by decide)) (fun _ hk => hk.2) (.bool t429)) (fun _ hk => hk.2) (.slice Ao68 t430.length co68)) (fun _ hk => hk.2) (.int .i64 t433)) (fun _ h_ => h_.1))) (Kd.R_base ho0) hb); replace HO427 := AM (Kd.R_elder' (by (with_reducible repeat (first | apply Kd.R_alloc | apply Kd.R_drewN | apply Kd.R_drew)); exact (Kd.R_mono (Kd.R_far (p := ⟨gb435, 2, none⟩) (Kd.R_far (p := ⟨gb435, 1, none⟩) (Kd.R_far (p := ⟨gb435, 0, none⟩) (Kd.R_types HO427.out BK435.out (by decide)) (fun _ hk => hk.2) (.bool t429)) (fun _ hk => hk.2) (.slice Ao68 t430.length co68)) (fun _ hk => hk.2) (.int .i64 t433)) (fun _ h_ => h_.1))) (Kd.R_base ho0) hb); replace HO432 := AM (Kd.R_elder' (by (with_reducible repeat (first | apply Kd.R_alloc | apply Kd.R_drewN | apply Kd.R_drew)); exact (Kd.R_mono (Kd.R_far (p := ⟨gb435, 2, none⟩) (Kd.R_far (p := ⟨gb435, 1, none⟩) (Kd.R_far (p := ⟨gb435, 0, none⟩) (Kd.R_types HO432.out BK435.out (by decide)) (fun _ hk => hk.2) (.bool t429)) (fun _ hk => hk.2) (.slice Ao68 t430.length co68)) (fun _ hk => hk.2) (.int .i64 t433)) (fun _ h_ => h_.1))) (Kd.R_base ho0) hb); replace BK415 := AM (blk_below (g := gb415) (o := .cells #[.bool a0_0, .slice A0_1 l0_1.length c0_1, .int .i64 a0_2] 74 (0, 0)) (by refine sB ?_; refine blk_far ?_ NB415_435.out _; refine sB ?_; refine blk_far ?_ NB415_435.out _; refine sB ?_; refine blk_far ?_ NB415_435.out _; refine sB ?_; exact BK415.out) hb); replace BK416 := AM (blk_below (g := gb416) (o := .cells #[.bool a1_0, .slice A1_1 l1_1.length c1_1, .int .i64 a1_2] 74 (0, 0)) (by refine sB ?_; refine blk_far ?_ NB416_435.out _; refine sB ?_; refine blk_far ?_ NB416_435.out _; refine sB ?_; refine blk_far ?_ NB416_435.out _; refine sB ?_; exact BK416.out) hb); replace BK435 := AM (blk_below (g := gb435) (o := .cells #[.bool t429, .slice Ao68 t430.length co68, .int .i64 t433] 77 (0, 0)) (by refine sB ?_; refine blk_put (cs := #[.bool t429, .slice Ao68 t430.length co68, .int .i64 0]) ?_ 2 _ rfl; refine sB ?_; refine blk_put (cs := #[.bool t429, .slice none 0 0, .int .i64 0]) ?_ 1 _ rfl; refine sB ?_; refine blk_put (cs := #[.bool false, .slice none 0 0, .int .i64 0]) ?_ 0 _ rfl; refine sB ?_; exact BK435.out) hb); replace HB := AM (below_step (pH HB) hb); (try clear hb); (try clear hb2); (try clear hk); (try clear hi); (try clear ho0)) | ((with_reducible refine gate_dst (N := 8) rfl ?_); refine box_event ?hg (N := 8) ?hd (cs := #[.bool false, .slice none 0 0, .int .i64 0]) (t := 77) ?hr ?_; (case hd => rfl); (case hg => rfl); (case hr => first | (go_simp; done) | (go_simp; rfl)); intro gb441 hg w74 hbox hb; replace HO422 := AM (Kd.R_below (pR HO422) hb); replace HO427 := AM (Kd.R_below (pR HO427) hb); replace HO432 := AM (Kd.R_below (pR HO432) hb); replace HO439 := AM (Kd.R_below (pR HO439) hb); have BK441 := AM (hbox); have GW441 := gH HB hg; have GE441 := gH HB hg; replace HB := AM (below_step (pH HB) hb); have NB415_441 := nL BK415 hg; have NB441_415 := nG BK415 hg; replace BK415 := bB BK415 hb; have NB416_441 := nL BK416 hg; have NB441_416 := nG BK416 hg; replace BK416 := bB BK416 hb; have NB435_441 := nL BK435 hg; have NB441_435 := nG BK435 hg; replace BK435 := bB BK435 hb; clear hb hbox hg; have hnb75 := NB441_415.out; have hnc75 := NB415_441.out; have hnb76 := NB441_416.out; have hnc76 := NB416_441.out; have hnb77 := NB441_435.out; have hnc77 := NB435_441.out; have ⟨hcz78_0, hcz78_1, hcz78_2, hfz78_0, hfz78_1, hfz78_2⟩ := z3 BK441; obtain ⟨Ao79, co79, eo79⟩ := Kd.R_slice HO439.out; subst eo79; have hnb80 := NB416_435.out; have hnc80 := NB435_416.out; have ⟨hcz81_0, hcz81_1, hcz81_2, hfz81_0, hfz81_1, hfz81_2⟩ := z3 BK416) | ((with_reducible refine gate_callee (f := 44) rfl ?_); refine goesL_ (some 38) rfl rfl Try.func44 (by kernel_rfl) rfl #[.agg #[.bool a1_0, .slice A1_1 l1_1.length c1_1, .int .i64 a1_2]] rfl (by (try simp only [List.map_toArray, List.map_cons, List.map_nil]); first | done | rfl | (simp only [List.length_drop, List.length_take]; rfl)) ?_; (with_reducible refine (laws_toDyadic.calls k a1_0 _ _ l1_1 a1_2 t442 t443 t446 _ ?side1 ?side2 A23.out).mono ?_); (case side1 => exact Kd.C_below HR1_1.out (pH HB)); (case side2 => exact HC1_1.out); rintro e w82 ⟨v444, rfl, ho0, hb⟩; refine ⟨_, rfl, ?_⟩; have HO445 := AM (Kd.R_lower (Kd.R_new' (Kd.R_new' (Kd.R_new' (Kd.R_new' ho0 (Kd.R_lt (by (with_reducible repeat (first | apply Kd.R_alloc | apply Kd.R_drewN | apply Kd.R_drew)); exact (Kd.R_mono (Kd.R_far (p := ⟨gb441, 2, none⟩) (Kd.R_far (p := ⟨gb441, 1, none⟩) (Kd.R_far (p := ⟨gb441, 0, none⟩) (Kd.R_types HO422.out BK441.out (by decide)) (fun _ hk => hk.2) (.bool t436)) (fun _ hk => hk.2) (.slice Ao79 t437.length co79)) (fun _ hk => hk.2) (.int .i64 t440)) (fun _ h_ => h_.1))))) (Kd.R_lt (by (with_reducible repeat (first | apply Kd.R_alloc | apply Kd.R_drewN | apply Kd.R_drew)); exact (Kd.R_mono (Kd.R_far (p := ⟨gb441, 2, none⟩) (Kd.R_far (p := ⟨gb441, 1, none⟩) (Kd.R_far (p := ⟨gb441, 0, none⟩) (Kd.R_types HO427.out BK441.out (by decide)) (fun _ hk => hk.2) (.bool t436)) (fun _ hk => hk.2) (.slice Ao79 t437.length co79)) (fun _ hk => hk.2) (.int .i64 t440)) (fun _ h_ => h_.1))))) (Kd.R_lt (by (with_reducible repeat (first | apply Kd.R_alloc | apply Kd.R_drewN | apply Kd.R_drew)); exact (Kd.R_mono (Kd.R_far (p := ⟨gb441, 2, none⟩) (Kd.R_far (p := ⟨gb441, 1, none⟩) (Kd.R_far (p := ⟨gb441, 0, none⟩) (Kd.R_types HO432.out BK441.out (by decide)) (fun _ hk => hk.2) (.bool t436)) (fun _ hk => hk.2) (.slice Ao79 t437.length co79)) (fun _ hk => hk.2) (.int .i64 t440)) (fun _ h_ => h_.1))))) (Kd.R_lt (by (with_reducible repeat (first | apply Kd.R_alloc | apply Kd.R_drewN | apply Kd.R_drew)); exact (Kd.R_mono (Kd.R_far (p := ⟨gb441, 2, none⟩) (Kd.R_far (p := ⟨gb441, 1, none⟩) (Kd.R_far (p := ⟨gb441, 0, none⟩) (Kd.R_types HO439.out BK441.out (by decide)) (fun _ hk => hk.2) (.bool t436)) (fun _ hk => hk.2) (.slice Ao79 t437.length co79)) (fun _ hk => hk.2) (.int .i64 t440)) (fun _ h_ => h_.1))))) (below_size (pH HB))); replace HO422 := AM (Kd.R_elder' (by (with_reducible repeat (first | apply Kd.R_alloc | apply Kd.R_drewN | apply Kd.R_drew)); exact (Kd.R_mono (Kd.R_far (p := ⟨gb441, 2, none⟩) (Kd.R_far (p := ⟨gb441, 1, none⟩) (Kd.R_far (p := ⟨gb441, 0, none⟩) (Kd.R_types HO422.out BK441.out (by decide)) (fun _ hk => hk.2) (.bool t436)) (fun _ hk => hk.2) (.slice Ao79 t437.length co79)) (fun _ hk => hk.2) (.int .i64 t440)) (fun _ h_ => h_.1))) (Kd.R_base ho0) hb); replace HO427 := AM (Kd.R_elder' (by (with_reducible repeat (first | apply Kd.R_alloc | apply Kd.R_drewN | apply Kd.R_drew)); exact (Kd.R_mono (Kd.R_far (p := ⟨gb441, 2, none⟩) (Kd.R_far (p := ⟨gb441, 1, none⟩) (Kd.R_far (p := ⟨gb441, 0, none⟩) (Kd.R_types HO427.out BK441.out (by decide)) (fun _ hk => hk.2) (.bool t436)) (fun _ hk => hk.2) (.slice Ao79 t437.length co79)) (fun _ hk => hk.2) (.int .i64 t440)) (fun _ h_ => h_.1))) (Kd.R_base ho0) hb); replace HO432 := AM (Kd.R_elder' (by (with_reducible repeat (first | apply Kd.R_alloc | apply Kd.R_drewN | apply Kd.R_drew)); exact (Kd.R_mono (Kd.R_far (p := ⟨gb441, 2, none⟩) (Kd.R_far (p := ⟨gb441, 1, none⟩) (Kd.R_far (p := ⟨gb441, 0, none⟩) (Kd.R_types HO432.out BK441.out (by decide)) (fun _ hk => hk.2) (.bool t436)) (fun _ hk => hk.2) (.slice Ao79 t437.length co79)) (fun _ hk => hk.2) (.int .i64 t440)) (fun _ h_ => h_.1))) (Kd.R_base ho0) hb); replace HO439 := AM (Kd.R_elder' (by (with_reducible repeat (first | apply Kd.R_alloc | apply Kd.R_drewN | apply Kd.R_drew)); exact (Kd.R_mono (Kd.R_far (p := ⟨gb441, 2, none⟩) (Kd.R_far (p := ⟨gb441, 1, none⟩) (Kd.R_far (p := ⟨gb441, 0, none⟩) (Kd.R_types HO439.out BK441.out (by decide)) (fun _ hk => hk.2) (.bool t436)) (fun _ hk => hk.2) (.slice Ao79 t437.length co79)) (fun _ hk => hk.2) (.int .i64 t440)) (fun _ h_ => h_.1))) (Kd.R_base ho0) hb); replace BK415 := AM (blk_below (g := gb415) (o := .cells #[.bool a0_0, .slice A0_1 l0_1.length c0_1, .int .i64 a0_2] 74 (0, 0)) (by refine sB ?_; refine blk_far ?_ NB415_441.out _; refine sB ?_; refine blk_far ?_ NB415_441.out _; refine sB ?_; refine blk_far ?_ NB415_441.out _; refine sB ?_; exact BK415.out) hb); replace BK416 := AM (blk_below (g := gb416) (o := .cells #[.bool a1_0, .slice A1_1 l1_1.length c1_1, .int .i64 a1_2] 74 (0, 0)) (by refine sB ?_; refine blk_far ?_ NB416_441.out _; refine sB ?_; refine blk_far ?_ NB416_441.out _; refine sB ?_; refine blk_far ?_ NB416_441.out _; refine sB ?_; exact BK416.out) hb); replace BK435 := AM (blk_below (g := gb435) (o := .cells #[.bool t429, .slice Ao68 t430.length co68, .int .i64 t433] 77 (0, 0)) (by refine sB ?_; refine blk_far ?_ NB435_441.out _; refine sB ?_; refine blk_far ?_ NB435_441.out _; refine sB ?_; refine blk_far ?_ NB435_441.out _; refine sB ?_; exact BK435.out) hb); replace BK441 := AM (blk_below (g := gb441) (o := .cells #[.bool t436, .slice Ao79 t437.length co79, .int .i64 t440] 77 (0, 0)) (by refine sB ?_; refine blk_put (cs := #[.bool t436, .slice Ao79 t437.length co79, .int .i64 0]) ?_ 2 _ rfl; refine sB ?_; refine blk_put (cs := #[.bool t436, .slice none 0 0, .int .i64 0]) ?_ 1 _ rfl; refine sB ?_; refine blk_put (cs := #[.bool false, .slice none 0 0, .int .i64 0]) ?_ 0 _ rfl; refine sB ?_; exact BK441.out) hb); replace HB := AM (below_step (pH HB) hb); (try clear hb); (try clear hb2); (try clear hk); (try clear hi); (try clear ho0)) | ((with_reducible refine gate_dst (N := 9) rfl ?_); refine box_event ?hg (N := 9) ?hd (cs := #[.bool false, .slice none 0 0, .int .i64 0]) (t := 77) ?hr ?_; (case hd => rfl); (case hg => rfl); (case hr => first | (go_simp; done) | (go_simp; rfl)); intro gb447 hg w83 hbox hb; replace HO422 := AM (Kd.R_below (pR HO422) hb); replace HO427 := AM (Kd.R_below (pR HO427) hb); replace HO432 := AM (Kd.R_below (pR HO432) hb); replace HO439 := AM (Kd.R_below (pR HO439) hb); replace HO445 := AM (Kd.R_below (pR HO445) hb); have BK447 := AM (hbox); have GW447 := gH HB hg; have GE447 := gH HB hg; replace HB := AM (below_step (pH HB) hb); have NB415_447 := nL BK415 hg; have NB447_415 := nG BK415 hg; replace BK415 := bB BK415 hb; have NB416_447 := nL BK416 hg; have NB447_416 := nG BK416 hg; replace BK416 := bB BK416 hb; have NB435_447 := nL BK435 hg; have NB447_435 := nG BK435 hg; replace BK435 := bB BK435 hb; have NB441_447 := nL BK441 hg; have NB447_441 := nG BK441 hg; replace BK441 := bB BK441 hb; clear hb hbox hg; have hnb84 := NB447_415.out; have hnc84 := NB415_447.out; have hnb85 := NB447_416.out; have hnc85 := NB416_447.out; have hnb86 := NB447_435.out; have hnc86 := NB435_447.out; have hnb87 := NB447_441.out; have hnc87 := NB441_447.out; have ⟨hcz88_0, hcz88_1, hcz88_2, hfz88_0, hfz88_1, hfz88_2⟩ := z3 BK447; obtain ⟨Ao89, co89, eo89⟩ := Kd.R_slice HO445.out; subst eo89) | ((with_reducible refine gate_store (t := 77) (p := 9) rfl ?_); refine store_event (t := 77) (p := 9) (v := ?vo_w90) (w1 := (((w83.setCell ⟨gb447, 0, none⟩ (.bool t442)).setCell ⟨gb447, 1, none⟩ (.slice Ao89 t443.length co89)).setCell ⟨gb447, 2, none⟩ (.int .i64 t446))) ?hg ?ho ?hn ?hr ?_; (case ho => rfl); (case hg => rfl); (case hn => rfl); (case hr => first | (go_simp; done) | (go_simp; rfl)); intro w90 hw; have n0_ : Aside0 (Kd.R (Kd.int .u32) 50 w90 w.heap.size (fun k_ => some k_ ≠ (v426 : Value).ownBlock ∧ some k_ ≠ (.slice Ao68 t430.length co68 : Value).ownBlock ∧ some k_ ≠ (.slice Ao79 t437.length co79 : Value).ownBlock ∧ some k_ ≠ (.slice Ao89 t443.length co89 : Value).ownBlock) v421 t420) := ⟨(by rw [hw]; exact (by (with_reducible repeat (first | apply Kd.R_alloc | apply Kd.R_drewN | apply Kd.R_drew)); exact Kd.R_mono (Kd.R_far (p := ⟨gb447, 2, none⟩) (Kd.R_far (p := ⟨gb447, 1, none⟩) (Kd.R_far (p := ⟨gb447, 0, none⟩) (Kd.R_types HO422.out BK447.out (by decide)) (fun _ hk => hk.2) (.bool t442)) (fun _ hk => hk.2) (.slice Ao89 t443.length co89)) (fun _ hk => hk.2) (.int .i64 t446)) (fun _ hk => ⟨hk.1.1.1.1, ⟨hk.1.1.1.2, ⟨hk.1.1.2, hk.1.2⟩⟩⟩)))⟩; have n1_ : Aside0 (Kd.R (Kd.int .u32) 50 w90 w.heap.size (fun k_ => some k_ ≠ (v421 : Value).ownBlock ∧ some k_ ≠ (.slice Ao68 t430.length co68 : Value).ownBlock ∧ some k_ ≠ (.slice Ao79 t437.length co79 : Value).ownBlock ∧ some k_ ≠ (.slice Ao89 t443.length co89 : Value).ownBlock) v426 t425) := ⟨(by rw [hw]; exact (by (with_reducible repeat (first | apply Kd.R_alloc | apply Kd.R_drewN | apply Kd.R_drew)); exact Kd.R_mono (Kd.R_far (p := ⟨gb447, 2, none⟩) (Kd.R_far (p := ⟨gb447, 1, none⟩) (Kd.R_far (p := ⟨gb447, 0, none⟩) (Kd.R_types HO427.out BK447.out (by decide)) (fun _ hk => hk.2) (.bool t442)) (fun _ hk => hk.2) (.slice Ao89 t443.length co89)) (fun _ hk => hk.2) (.int .i64 t446)) (fun _ hk => ⟨hk.1.1.1.1, ⟨hk.1.1.1.2, ⟨hk.1.1.2, hk.1.2⟩⟩⟩)))⟩; have n2_ : Aside0 (Kd.R (Kd.int .u32) 50 w90 w.heap.size (fun k_ => some k_ ≠ (v421 : Value).ownBlock ∧ some k_ ≠ (v426 : Value).ownBlock ∧ some k_ ≠ (.slice Ao79 t437.length co79 : Value).ownBlock ∧ some k_ ≠ (.slice Ao89 t443.length co89 : Value).ownBlock) (.slice Ao68 t430.length co68) t430) := ⟨(by rw [hw]; exact (by (with_reducible repeat (first | apply Kd.R_alloc | apply Kd.R_drewN | apply Kd.R_drew)); exact Kd.R_mono (Kd.R_far (p := ⟨gb447, 2, none⟩) (Kd.R_far (p := ⟨gb447, 1, none⟩) (Kd.R_far (p := ⟨gb447, 0, none⟩) (Kd.R_types HO432.out BK447.out (by decide)) (fun _ hk => hk.2) (.bool t442)) (fun _ hk => hk.2) (.slice Ao89 t443.length co89)) (fun _ hk => hk.2) (.int .i64 t446)) (fun _ hk => ⟨hk.1.1.1.1, ⟨hk.1.1.1.2, ⟨hk.1.1.2, hk.1.2⟩⟩⟩)))⟩; have n3_ : Aside0 (Kd.R (Kd.int .u32) 50 w90 w.heap.size (fun k_ => some k_ ≠ (v421 : Value).ownBlock ∧ some k_ ≠ (v426 : Value).ownBlock ∧ some k_ ≠ (.slice Ao68 t430.length co68 : Value).ownBlock ∧ some k_ ≠ (.slice Ao89 t443.length co89 : Value).ownBlock) (.slice Ao79 t437.length co79) t437) := ⟨(by rw [hw]; exact (by (with_reducible repeat (first | apply Kd.R_alloc | apply Kd.R_drewN | apply Kd.R_drew)); exact Kd.R_mono (Kd.R_far (p := ⟨gb447, 2, none⟩) (Kd.R_far (p := ⟨gb447, 1, none⟩) (Kd.R_far (p := ⟨gb447, 0, none⟩) (Kd.R_types HO439.out BK447.out (by decide)) (fun _ hk => hk.2) (.bool t442)) (fun _ hk => hk.2) (.slice Ao89 t443.length co89)) (fun _ hk => hk.2) (.int .i64 t446)) (fun _ hk => ⟨hk.1.1.1.1.2, ⟨hk.1.1.1.2, ⟨hk.1.1.2, hk.1.2⟩⟩⟩)))⟩; have n4_ : Aside0 (Kd.R (Kd.int .u32) 50 w90 w.heap.size (fun k_ => some k_ ≠ (v421 : Value).ownBlock ∧ some k_ ≠ (v426 : Value).ownBlock ∧ some k_ ≠ (.slice Ao68 t430.length co68 : Value).ownBlock ∧ some k_ ≠ (.slice Ao79 t437.length co79 : Value).ownBlock) (.slice Ao89 t443.length co89) t443) := ⟨(by rw [hw]; exact (by (with_reducible repeat (first | apply Kd.R_alloc | apply Kd.R_drewN | apply Kd.R_drew)); exact Kd.R_mono (Kd.R_far (p := ⟨gb447, 2, none⟩) (Kd.R_far (p := ⟨gb447, 1, none⟩) (Kd.R_far (p := ⟨gb447, 0, none⟩) (Kd.R_types HO445.out BK447.out (by decide)) (fun _ hk => hk.2) (.bool t442)) (fun _ hk => hk.2) (.slice Ao89 t443.length co89)) (fun _ hk => hk.2) (.int .i64 t446)) (fun _ hk => ⟨hk.1.1.1.1.2, ⟨hk.1.1.1.2, ⟨hk.1.1.2, hk.1.2⟩⟩⟩)))⟩; have n5_ : Aside0 (w90.heap[gb415]? = some (.cells #[.bool a0_0, .slice A0_1 l0_1.length c0_1, .int .i64 a0_2] 74 (0, 0))) := ⟨(by rw [hw]; exact (by refine sB ?_; refine blk_far ?_ NB415_447.out _; refine sB ?_; refine blk_far ?_ NB415_447.out _; refine sB ?_; refine blk_far ?_ NB415_447.out _; refine sB ?_; exact BK415.out))⟩; have n6_ : Aside0 (w90.heap[gb416]? = some (.cells #[.bool a1_0, .slice A1_1 l1_1.length c1_1, .int .i64 a1_2] 74 (0, 0))) := ⟨(by rw [hw]; exact (by refine sB ?_; refine blk_far ?_ NB416_447.out _; refine sB ?_; refine blk_far ?_ NB416_447.out _; refine sB ?_; refine blk_far ?_ NB416_447.out _; refine sB ?_; exact BK416.out))⟩; have n7_ : Aside0 (w90.heap[gb435]? = some (.cells #[.bool t429, .slice Ao68 t430.length co68, .int .i64 t433] 77 (0, 0))) := ⟨(by rw [hw]; exact (by refine sB ?_; refine blk_far ?_ NB435_447.out _; refine sB ?_; refine blk_far ?_ NB435_447.out _; refine sB ?_; refine blk_far ?_ NB435_447.out _; refine sB ?_; exact BK435.out))⟩; have n8_ : Aside0 (w90.heap[gb441]? = some (.cells #[.bool t436, .slice Ao79 t437.length co79, .int .i64 t440] 77 (0, 0))) := ⟨(by rw [hw]; exact (by refine sB ?_; refine blk_far ?_ NB441_447.out _; refine sB ?_; refine blk_far ?_ NB441_447.out _; refine sB ?_; refine blk_far ?_ NB441_447.out _; refine sB ?_; exact BK441.out))⟩; have n9_ : Aside0 (w90.heap[gb447]? = some (.cells #[.bool t442, .slice Ao89 t443.length co89, .int .i64 t446] 77 (0, 0))) := ⟨(by rw [hw]; exact (by refine sB ?_; refine blk_put (cs := #[.bool t442, .slice Ao89 t443.length co89, .int .i64 0]) ?_ 2 _ rfl; refine sB ?_; refine blk_put (cs := #[.bool t442, .slice none 0 0, .int .i64 0]) ?_ 1 _ rfl; refine sB ?_; refine blk_put (cs := #[.bool false, .slice none 0 0, .int .i64 0]) ?_ 0 _ rfl; refine sB ?_; exact BK447.out))⟩; have n10_ : Aside0 (Below w.heap.size w w90) := ⟨(by rw [hw]; exact (pH HB))⟩; clear hw; clear HO422; clear HO427; clear HO432; clear HO439; clear HO445; clear BK415; clear BK416; clear BK435; clear BK441; clear BK447; clear HB; have HO422 := n0_; have HO427 := n1_; have HO432 := n2_; have HO439 := n3_; have HO445 := n4_; have BK415 := n5_; have BK416 := n6_; have BK435 := n7_; have BK441 := n8_; have BK447 := n9_; have HB := n10_; clear n0_ n1_ n2_ n3_ n4_ n5_ n6_ n7_ n8_ n9_ n10_; have ⟨hcz91_0, hcz91_1, hcz91_2, hfz91_0, hfz91_1, hfz91_2⟩ := z3 BK441; have ⟨hcz92_0, hcz92_1, hcz92_2, hfz92_0, hfz92_1, hfz92_2⟩ := z3 BK447) | ((with_reducible refine gate_callee (f := 45) rfl ?_); refine goesL_ (some 42) rfl rfl Try.func45 (by kernel_rfl) rfl #[.agg #[.bool t436, .slice Ao79 t437.length co79, .int .i64 t440], .agg #[.bool t442, .slice Ao89 t443.length co89, .int .i64 t446]] rfl (by (try simp only [List.map_toArray, List.map_cons, List.map_nil]); first | done | rfl | (simp only [List.length_drop, List.length_take]; rfl)) ?_; (with_reducible refine (impl_DyMul.calls k t436 (fun k_ => some k_ = (.slice Ao79 t437.length co79 : Value).ownBlock) _ _ t437 t440 t442 (fun k_ => some k_ = (.slice Ao89 t443.length co89 : Value).ownBlock) _ _ t443 t446 t448 t449 t452 t453 _ ?side1 ?side2 A24.out).mono ?_); (case side1 => exact Kd.R_V (Kd.R_tight rfl (Kd.R_types (Kd.R_types (Kd.R_types (Kd.R_types (Kd.R_types (HO439.out) BK415.out (by decide)) BK416.out (by decide)) BK435.out (by decide)) BK441.out (by decide)) BK447.out (by decide)))); (case side2 => exact Kd.R_V (Kd.R_tight rfl (Kd.R_types (Kd.R_types (Kd.R_types (Kd.R_types (Kd.R_types (HO445.out) BK415.out (by decide)) BK416.out (by decide)) BK435.out (by decide)) BK441.out (by decide)) BK447.out (by decide)))); rintro e w93 ⟨v450, rfl, ho0, hb⟩; refine ⟨_, rfl, ?_⟩; have HO451 := AM (Kd.R_lower (Kd.R_new' (Kd.R_new' (Kd.R_new' (Kd.R_new' (Kd.R_new' (Kd.R_mono (ok' := fun k_ => True) ho0 (fun _ hk_ => trivial)) (Kd.R_lt (pR HO422))) (Kd.R_lt (pR HO427))) (Kd.R_lt (pR HO432))) (Kd.R_lt (pR HO439))) (Kd.R_lt (pR HO445))) (below_size (pH HB))); replace HO422 := AM (Kd.R_elder' (pR HO422) (Kd.R_base ho0) hb); replace HO427 := AM (Kd.R_elder' (pR HO427) (Kd.R_base ho0) hb); replace HO432 := AM (Kd.R_elder' (pR HO432) (Kd.R_base ho0) hb); replace HO439 := AM (Kd.R_elder' (pR HO439) (Kd.R_base ho0) hb); replace HO445 := AM (Kd.R_elder' (pR HO445) (Kd.R_base ho0) hb); replace BK415 := bB BK415 hb; replace BK416 := bB BK416 hb; replace BK435 := bB BK435 hb; replace BK441 := bB BK441 hb; replace BK447 := bB BK447 hb; replace HB := AM (below_step (pH HB) hb); (try clear hb); (try clear hb2); (try clear hk); (try clear hi); (try clear ho0)) | ((with_reducible refine gate_dst (N := 10) rfl ?_); refine box_event ?hg (N := 10) ?hd (cs := #[.bool false, .slice none 0 0, .int .i64 0]) (t := 77) ?hr ?_; (case hd => rfl); (case hg => rfl); (case hr => first | (go_simp; done) | (go_simp; rfl)); intro gb454 hg w94 hbox hb; replace HO422 := AM (Kd.R_below (pR HO422) hb); replace HO427 := AM (Kd.R_below (pR HO427) hb); replace HO432 := AM (Kd.R_below (pR HO432) hb); replace HO439 := AM (Kd.R_below (pR HO439) hb); replace HO445 := AM (Kd.R_below (pR HO445) hb); replace HO451 := AM (Kd.R_below (pR HO451) hb); have BK454 := AM (hbox); have GW454 := gH HB hg; have GE454 := gH HB hg; replace HB := AM (below_step (pH HB) hb); have NB415_454 := nL BK415 hg; have NB454_415 := nG BK415 hg; replace BK415 := bB BK415 hb; have NB416_454 := nL BK416 hg; have NB454_416 := nG BK416 hg; replace BK416 := bB BK416 hb; have NB435_454 := nL BK435 hg; have NB454_435 := nG BK435 hg; replace BK435 := bB BK435 hb; have NB441_454 := nL BK441 hg; have NB454_441 := nG BK441 hg; replace BK441 := bB BK441 hb; have NB447_454 := nL BK447 hg; have NB454_447 := nG BK447 hg; replace BK447 := bB BK447 hb; clear hb hbox hg; have hnb95 := NB454_415.out; have hnc95 := NB415_454.out; have hnb96 := NB454_416.out; have hnc96 := NB416_454.out; have hnb97 := NB454_435.out; have hnc97 := NB435_454.out; have hnb98 := NB454_441.out; have hnc98 := NB441_454.out; have hnb99 := NB454_447.out; have hnc99 := NB447_454.out; have ⟨hcz100_0, hcz100_1, hcz100_2, hfz100_0, hfz100_1, hfz100_2⟩ := z3 BK454; obtain ⟨Ao101, co101, eo101⟩ := Kd.R_slice HO451.out; subst eo101; have ⟨hcz102_0, hcz102_1, hcz102_2, hfz102_0, hfz102_1, hfz102_2⟩ := z3 BK435) | ((with_reducible refine gate_callee (f := 46) rfl ?_); refine goesL_ (some 47) rfl rfl Try.func46 (by kernel_rfl) rfl #[.agg #[.bool t448, .slice Ao101 t449.length co101, .int .i64 t452], .agg #[.bool t429, .slice Ao68 t430.length co68, .int .i64 t433]] rfl (by (try simp only [List.map_toArray, List.map_cons, List.map_nil]); first | done | rfl | (simp only [List.length_drop, List.length_take]; rfl)) ?_; (with_reducible refine (laws_eqDyadic.calls k t448 _ _ t449 t452 t429 _ _ t430 t433 true _ ?side1 ?side2 ?side3 ?side4 A25.out).mono ?_); (case side1 => refine (Kd.R_reads' (e := 50) (base := w.heap.size) (ok := fun k_ => (((((True ∧ some k_ ≠ (v421 : Value).ownBlock) ∧ some k_ ≠ (v426 : Value).ownBlock) ∧ some k_ ≠ (.slice Ao68 t430.length co68 : Value).ownBlock) ∧ some k_ ≠ (.slice Ao79 t437.length co79 : Value).ownBlock) ∧ some k_ ≠ (.slice Ao89 t443.length co89 : Value).ownBlock)) (n := t449.length) (c := co101) ?_).2.2; exact (by (with_reducible repeat (first | apply Kd.R_alloc | apply Kd.R_drewN | apply Kd.R_drew)); exact (Kd.R_mono (Kd.R_far (p := ⟨gb454, 2, none⟩) (Kd.R_far (p := ⟨gb454, 1, none⟩) (Kd.R_far (p := ⟨gb454, 0, none⟩) (Kd.R_types HO451.out BK454.out (by decide)) (fun _ hk => hk.2) (.bool t448)) (fun _ hk => hk.2) (.slice Ao101 t449.length co101)) (fun _ hk => hk.2) (.int .i64 t452)) (fun _ h_ => h_.1)))); (case side2 => exact (Kd.R_reads' HO451.out).2.1); (case side3 => refine (Kd.R_reads' (e := 50) (base := w.heap.size) (ok := fun k_ => ((some k_ ≠ (v421 : Value).ownBlock ∧ (some k_ ≠ (v426 : Value).ownBlock ∧ (some k_ ≠ (.slice Ao79 t437.length co79 : Value).ownBlock ∧ some k_ ≠ (.slice Ao89 t443.length co89 : Value).ownBlock))) ∧ some k_ ≠ (.slice Ao101 t449.length co101 : Value).ownBlock)) (n := t430.length) (c := co68) ?_).2.2; exact (by (with_reducible repeat (first | apply Kd.R_alloc | apply Kd.R_drewN | apply Kd.R_drew)); exact (Kd.R_mono (Kd.R_far (p := ⟨gb454, 2, none⟩) (Kd.R_far (p := ⟨gb454, 1, none⟩) (Kd.R_far (p := ⟨gb454, 0, none⟩) (Kd.R_types HO432.out BK454.out (by decide)) (fun _ hk => hk.2) (.bool t448)) (fun _ hk => hk.2) (.slice Ao101 t449.length co101)) (fun _ hk => hk.2) (.int .i64 t452)) (fun _ h_ => h_.1)))); (case side4 => exact (Kd.R_reads' HO432.out).2.1); rintro e w103 ⟨rfl, hb⟩; refine ⟨_, rfl, ?_⟩; replace HO422 := AM (Kd.R_below (by (with_reducible repeat (first | apply Kd.R_alloc | apply Kd.R_drewN | apply Kd.R_drew)); exact (Kd.R_mono (Kd.R_far (p := ⟨gb454, 2, none⟩) (Kd.R_far (p := ⟨gb454, 1, none⟩) (Kd.R_far (p := ⟨gb454, 0, none⟩) (Kd.R_types HO422.out BK454.out (by decide)) (fun _ hk => hk.2) (.bool t448)) (fun _ hk => hk.2) (.slice Ao101 t449.length co101)) (fun _ hk => hk.2) (.int .i64 t452)) (fun _ h_ => h_.1))) hb); replace HO427 := AM (Kd.R_below (by (with_reducible repeat (first | apply Kd.R_alloc | apply Kd.R_drewN | apply Kd.R_drew)); exact (Kd.R_mono (Kd.R_far (p := ⟨gb454, 2, none⟩) (Kd.R_far (p := ⟨gb454, 1, none⟩) (Kd.R_far (p := ⟨gb454, 0, none⟩) (Kd.R_types HO427.out BK454.out (by decide)) (fun _ hk => hk.2) (.bool t448)) (fun _ hk => hk.2) (.slice Ao101 t449.length co101)) (fun _ hk => hk.2) (.int .i64 t452)) (fun _ h_ => h_.1))) hb); replace HO432 := AM (Kd.R_below (by (with_reducible repeat (first | apply Kd.R_alloc | apply Kd.R_drewN | apply Kd.R_drew)); exact (Kd.R_mono (Kd.R_far (p := ⟨gb454, 2, none⟩) (Kd.R_far (p := ⟨gb454, 1, none⟩) (Kd.R_far (p := ⟨gb454, 0, none⟩) (Kd.R_types HO432.out BK454.out (by decide)) (fun _ hk => hk.2) (.bool t448)) (fun _ hk => hk.2) (.slice Ao101 t449.length co101)) (fun _ hk => hk.2) (.int .i64 t452)) (fun _ h_ => h_.1))) hb); replace HO439 := AM (Kd.R_below (by (with_reducible repeat (first | apply Kd.R_alloc | apply Kd.R_drewN | apply Kd.R_drew)); exact (Kd.R_mono (Kd.R_far (p := ⟨gb454, 2, none⟩) (Kd.R_far (p := ⟨gb454, 1, none⟩) (Kd.R_far (p := ⟨gb454, 0, none⟩) (Kd.R_types HO439.out BK454.out (by decide)) (fun _ hk => hk.2) (.bool t448)) (fun _ hk => hk.2) (.slice Ao101 t449.length co101)) (fun _ hk => hk.2) (.int .i64 t452)) (fun _ h_ => h_.1))) hb); replace HO445 := AM (Kd.R_below (by (with_reducible repeat (first | apply Kd.R_alloc | apply Kd.R_drewN | apply Kd.R_drew)); exact (Kd.R_mono (Kd.R_far (p := ⟨gb454, 2, none⟩) (Kd.R_far (p := ⟨gb454, 1, none⟩) (Kd.R_far (p := ⟨gb454, 0, none⟩) (Kd.R_types HO445.out BK454.out (by decide)) (fun _ hk => hk.2) (.bool t448)) (fun _ hk => hk.2) (.slice Ao101 t449.length co101)) (fun _ hk => hk.2) (.int .i64 t452)) (fun _ h_ => h_.1))) hb); replace HO451 := AM (Kd.R_below (by (with_reducible repeat (first | apply Kd.R_alloc | apply Kd.R_drewN | apply Kd.R_drew)); exact (Kd.R_mono (Kd.R_far (p := ⟨gb454, 2, none⟩) (Kd.R_far (p := ⟨gb454, 1, none⟩) (Kd.R_far (p := ⟨gb454, 0, none⟩) (Kd.R_types HO451.out BK454.out (by decide)) (fun _ hk => hk.2) (.bool t448)) (fun _ hk => hk.2) (.slice Ao101 t449.length co101)) (fun _ hk => hk.2) (.int .i64 t452)) (fun _ h_ => h_.1))) hb); replace BK415 := AM (blk_below (g := gb415) (o := .cells #[.bool a0_0, .slice A0_1 l0_1.length c0_1, .int .i64 a0_2] 74 (0, 0)) (by refine sB ?_; refine blk_far ?_ NB415_454.out _; refine sB ?_; refine blk_far ?_ NB415_454.out _; refine sB ?_; refine blk_far ?_ NB415_454.out _; refine sB ?_; exact BK415.out) hb); replace BK416 := AM (blk_below (g := gb416) (o := .cells #[.bool a1_0, .slice A1_1 l1_1.length c1_1, .int .i64 a1_2] 74 (0, 0)) (by refine sB ?_; refine blk_far ?_ NB416_454.out _; refine sB ?_; refine blk_far ?_ NB416_454.out _; refine sB ?_; refine blk_far ?_ NB416_454.out _; refine sB ?_; exact BK416.out) hb); replace BK435 := AM (blk_below (g := gb435) (o := .cells #[.bool t429, .slice Ao68 t430.length co68, .int .i64 t433] 77 (0, 0)) (by refine sB ?_; refine blk_far ?_ NB435_454.out _; refine sB ?_; refine blk_far ?_ NB435_454.out _; refine sB ?_; refine blk_far ?_ NB435_454.out _; refine sB ?_; exact BK435.out) hb); replace BK441 := AM (blk_below (g := gb441) (o := .cells #[.bool t436, .slice Ao79 t437.length co79, .int .i64 t440] 77 (0, 0)) (by refine sB ?_; refine blk_far ?_ NB441_454.out _; refine sB ?_; refine blk_far ?_ NB441_454.out _; refine sB ?_; refine blk_far ?_ NB441_454.out _; refine sB ?_; exact BK441.out) hb); replace BK447 := AM (blk_below (g := gb447) (o := .cells #[.bool t442, .slice Ao89 t443.length co89, .int .i64 t446] 77 (0, 0)) (by refine sB ?_; refine blk_far ?_ NB447_454.out _; refine sB ?_; refine blk_far ?_ NB447_454.out _; refine sB ?_; refine blk_far ?_ NB447_454.out _; refine sB ?_; exact BK447.out) hb); replace BK454 := AM (blk_below (g := gb454) (o := .cells #[.bool t448, .slice Ao101 t449.length co101, .int .i64 t452] 77 (0, 0)) (by refine sB ?_; refine blk_put (cs := #[.bool t448, .slice Ao101 t449.length co101, .int .i64 0]) ?_ 2 _ rfl; refine sB ?_; refine blk_put (cs := #[.bool t448, .slice none 0 0, .int .i64 0]) ?_ 1 _ rfl; refine sB ?_; refine blk_put (cs := #[.bool false, .slice none 0 0, .int .i64 0]) ?_ 0 _ rfl; refine sB ?_; exact BK454.out) hb); replace HB := AM (below_step (pH HB) hb); (try clear hb); (try clear hb2); (try clear hk); (try clear hi)))
 replace HO422 := AM (Kd.R_drew HO422.out); replace HO427 := AM (Kd.R_drew HO427.out); replace HO432 := AM (Kd.R_drew HO432.out); replace HO439 := AM (Kd.R_drew HO439.out); replace HO445 := AM (Kd.R_drew HO445.out); replace HO451 := AM (Kd.R_drew HO451.out); replace BK415 := AM (blk_drew BK415.out); replace BK416 := AM (blk_drew BK416.out); replace BK435 := AM (blk_drew BK435.out); replace BK441 := AM (blk_drew BK441.out); replace BK447 := AM (blk_drew BK447.out); replace BK454 := AM (blk_drew BK454.out); replace HB := AM (below_drew1 HB.out)
 refine start_ (n := 5) (S := fun w' => w'.cell? ⟨gb441, 0, none⟩ = some (.bool t436) ∧ w'.cell? ⟨gb441, 1, none⟩ = some (.slice Ao79 t437.length co79) ∧ w'.cell? ⟨gb441, 2, none⟩ = some (.int .i64 t440) ∧ w'.cell? ⟨gb415, 0, none⟩ = some (.bool a0_0) ∧ w'.cell? ⟨gb415, 1, none⟩ = some (.slice A0_1 l0_1.length c0_1) ∧ w'.cell? ⟨gb415, 2, none⟩ = some (.int .i64 a0_2)) (ds := []) #[false, false, false, false, false] (by kernel_rfl) rfl rfl ⟨(blk_cell BK441.out 0).trans rfl, (blk_cell BK441.out 1).trans rfl, (blk_cell BK441.out 2).trans rfl, (blk_cell BK415.out 0).trans rfl, (blk_cell BK415.out 1).trans rfl, (blk_cell BK415.out 2).trans rfl⟩ (fun hHeld => ?_)
 generalize w103.drew = w104 at HO422 HO427 HO432 HO439 HO445 HO451 BK415 BK416 BK435 BK441 BK447 BK454 HB hHeld ⊢
 refine take_ (i := 0) (N := some 54) (v := ?_) (a' := ?_) #[true, false, false, false, false] rfl rfl (by kernel_rfl) (fun _ _ _ h => h) (Or.inl ⟨by rfl, ?_⟩) hHeld ?_ ?_
 rotate_left
 · rintro w' ⟨s0, s1, s2, s3, s4, s5⟩
   go_simp
   with_reducible rfl
 rotate_left
 · simp only [Act.put, sa, sb, sc, i64_w, i32_w]
   rfl
 refine take_ (i := 1) (N := some 55) (v := ?_) (a' := ?_) #[true, true, false, false, false] rfl rfl (by kernel_rfl) (fun _ _ _ h => h) (Or.inl ⟨by rfl, ?_⟩) hHeld ?_ ?_
 rotate_left
 · rintro w' ⟨s0, s1, s2, s3, s4, s5⟩
   go_simp
   with_reducible rfl
 rotate_left
 · simp only [Act.put, sa, sb, sc, i64_w, i32_w]
   rfl
 refine one_ (i := 2) (N := some 56) #[true, true, true, false, false] rfl rfl (by kernel_rfl) (by decide) (fun K hK => ?_)
 refine goes_ Try.func44 (by kernel_rfl) rfl #[.agg #[.bool a0_0, .slice A0_1 l0_1.length c0_1, .int .i64 a0_2]] (by rfl) rfl rfl (by (try simp only [List.map_toArray, List.map_cons, List.map_nil]); first | done | rfl | (simp only [List.length_drop, List.length_take]; rfl)) ?_
 with_reducible refine (laws_toDyadic.calls k a0_0 _ _ l0_1 a0_2 t456 t457 t460 _ ?side1 ?side2 A28.out).mono ?_
 (case side1 => exact cB HR0_1 HB)
 (case side2 => exact HC0_1.out)
 rintro e w105 ⟨v458, rfl, ho0, hb⟩
 refine ⟨_, rfl, ?_⟩
 have HO459 := AM (Kd.R_lower (Kd.R_new' (Kd.R_new' (Kd.R_new' (Kd.R_new' (Kd.R_new' (Kd.R_new' ho0 (Kd.R_lt (pR HO422))) (Kd.R_lt (pR HO427))) (Kd.R_lt (pR HO432))) (Kd.R_lt (pR HO439))) (Kd.R_lt (pR HO445))) (Kd.R_lt (pR HO451))) (below_size (pH HB))); replace HO422 := AM (Kd.R_elder' (pR HO422) (Kd.R_base ho0) hb); replace HO427 := AM (Kd.R_elder' (pR HO427) (Kd.R_base ho0) hb); replace HO432 := AM (Kd.R_elder' (pR HO432) (Kd.R_base ho0) hb); replace HO439 := AM (Kd.R_elder' (pR HO439) (Kd.R_base ho0) hb); replace HO445 := AM (Kd.R_elder' (pR HO445) (Kd.R_base ho0) hb); replace HO451 := AM (Kd.R_elder' (pR HO451) (Kd.R_base ho0) hb); replace BK415 := bB BK415 hb; replace BK416 := bB BK416 hb; replace BK435 := bB BK435 hb; replace BK441 := bB BK441 hb; replace BK447 := bB BK447 hb; replace BK454 := bB BK454 hb; replace HB := AM (below_step (pH HB) hb)
 (try clear hb)
 (try clear hb2)
 (try clear hk)
 (try clear hi)
 (try clear ho0)
 obtain ⟨Ao106, co106, eo106⟩ := Kd.R_slice HO459.out
 (first | subst eo106 | (injection eo106 with f1_ f2_ f3_; have f4_ := f1_.symm; have f5_ := f3_.symm; clear f1_ f2_ f3_; subst f4_; subst f5_))
 refine hK.out _ _ ⟨(blk_cell BK441.out 0).trans rfl, (blk_cell BK441.out 1).trans rfl, (blk_cell BK441.out 2).trans rfl, (blk_cell BK415.out 0).trans rfl, (blk_cell BK415.out 1).trans rfl, (blk_cell BK415.out 2).trans rfl⟩ (fun hHeld => ?_)
 clear hK K
 refine norm_ (a' := ?_) ?_ ?_
 rotate_left
 · show Act.put _ (some 56) _ = _
   simp only [Act.put, sa, sb, sc, i64_w, i32_w]
   rfl
 refine one_ (i := 3) (N := some 57) #[true, true, true, true, false] rfl rfl (by kernel_rfl) (by decide) (fun K hK => ?_)
 refine goes_ Try.func46 (by kernel_rfl) rfl #[.agg #[.bool t436, .slice Ao79 t437.length co79, .int .i64 t440], .agg #[.bool t456, .slice Ao106 t457.length co106, .int .i64 t460]] (by rfl) rfl rfl (by (try simp only [List.map_toArray, List.map_cons, List.map_nil]); first | done | rfl | (simp only [List.length_drop, List.length_take]; rfl)) ?_
 with_reducible refine (laws_eqDyadic.calls k t436 _ _ t437 t440 t456 _ _ t457 t460 true _ ?side1 ?side2 ?side3 ?side4 A29.out).mono ?_
 (case side1 => exact cR HO439)
 (case side2 => exact (Kd.R_reads' HO439.out).2.1)
 (case side3 => exact cR HO459)
 (case side4 => exact (Kd.R_reads' HO459.out).2.1)
 rintro e w107 ⟨rfl, hb⟩
 refine ⟨_, rfl, ?_⟩
 replace HO422 := AM (Kd.R_below (pR HO422) hb); replace HO427 := AM (Kd.R_below (pR HO427) hb); replace HO432 := AM (Kd.R_below (pR HO432) hb); replace HO439 := AM (Kd.R_below (pR HO439) hb); replace HO445 := AM (Kd.R_below (pR HO445) hb); replace HO451 := AM (Kd.R_below (pR HO451) hb); replace HO459 := AM (Kd.R_below (pR HO459) hb); replace BK415 := bB BK415 hb; replace BK416 := bB BK416 hb; replace BK435 := bB BK435 hb; replace BK441 := bB BK441 hb; replace BK447 := bB BK447 hb; replace BK454 := bB BK454 hb; replace HB := AM (below_step (pH HB) hb)
 (try clear hb)
 (try clear hb2)
 (try clear hk)
 (try clear hi)
 refine hK.out _ _ ⟨(blk_cell BK441.out 0).trans rfl, (blk_cell BK441.out 1).trans rfl, (blk_cell BK441.out 2).trans rfl, (blk_cell BK415.out 0).trans rfl, (blk_cell BK415.out 1).trans rfl, (blk_cell BK415.out 2).trans rfl⟩ (fun hHeld => ?_)
 clear hK K
 refine norm_ (a' := ?_) ?_ ?_
 rotate_left
 · show Act.put _ (some 57) _ = _
   simp only [Act.put, sa, sb, sc, i64_w, i32_w]
   rfl
 refine pure_ (i := 4) (N := some 58) (v := ?_) (a' := ?_) #[true, true, true, true, true] rfl rfl (by kernel_rfl) (fun _ _ _ h => h) (Or.inl ⟨by rfl, ?_⟩) ?_ ?_
 rotate_left
 · intro w'
   go_simp
   with_reducible rfl
 rotate_left
 · simp only [Act.put, sa, sb, sc, i64_w, i32_w]
   rfl
 refine done_ (by kernel_rfl) ?_
 try go_wp2
 replace HO422 := AM (Kd.R_drew HO422.out); replace HO427 := AM (Kd.R_drew HO427.out); replace HO432 := AM (Kd.R_drew HO432.out); replace HO439 := AM (Kd.R_drew HO439.out); replace HO445 := AM (Kd.R_drew HO445.out); replace HO451 := AM (Kd.R_drew HO451.out); replace HO459 := AM (Kd.R_drew HO459.out); replace BK415 := AM (blk_drew BK415.out); replace BK416 := AM (blk_drew BK416.out); replace BK435 := AM (blk_drew BK435.out); replace BK441 := AM (blk_drew BK441.out); replace BK447 := AM (blk_drew BK447.out); replace BK454 := AM (blk_drew BK454.out); replace HB := AM (below_drew1 HB.out)
 refine start_ (n := 5) (S := fun w' => w'.cell? ⟨gb447, 0, none⟩ = some (.bool t442) ∧ w'.cell? ⟨gb447, 1, none⟩ = some (.slice Ao89 t443.length co89) ∧ w'.cell? ⟨gb447, 2, none⟩ = some (.int .i64 t446) ∧ w'.cell? ⟨gb416, 0, none⟩ = some (.bool a1_0) ∧ w'.cell? ⟨gb416, 1, none⟩ = some (.slice A1_1 l1_1.length c1_1) ∧ w'.cell? ⟨gb416, 2, none⟩ = some (.int .i64 a1_2)) (ds := []) #[false, false, false, false, false] (by kernel_rfl) rfl rfl ⟨(blk_cell BK447.out 0).trans rfl, (blk_cell BK447.out 1).trans rfl, (blk_cell BK447.out 2).trans rfl, (blk_cell BK416.out 0).trans rfl, (blk_cell BK416.out 1).trans rfl, (blk_cell BK416.out 2).trans rfl⟩ (fun hHeld => ?_)
 generalize w107.drew = w108 at HO422 HO427 HO432 HO439 HO445 HO451 HO459 BK415 BK416 BK435 BK441 BK447 BK454 HB hHeld ⊢
 refine take_ (i := 0) (N := some 59) (v := ?_) (a' := ?_) #[true, false, false, false, false] rfl rfl (by kernel_rfl) (fun _ _ _ h => h) (Or.inl ⟨by rfl, ?_⟩) hHeld ?_ ?_
 rotate_left
 · rintro w' ⟨s0, s1, s2, s3, s4, s5⟩
   go_simp
   with_reducible rfl
 rotate_left
 · simp only [Act.put, sa, sb, sc, i64_w, i32_w]
   rfl
 refine take_ (i := 1) (N := some 60) (v := ?_) (a' := ?_) #[true, true, false, false, false] rfl rfl (by kernel_rfl) (fun _ _ _ h => h) (Or.inl ⟨by rfl, ?_⟩) hHeld ?_ ?_
 rotate_left
 · rintro w' ⟨s0, s1, s2, s3, s4, s5⟩
   go_simp
   with_reducible rfl
 rotate_left
 · simp only [Act.put, sa, sb, sc, i64_w, i32_w]
   rfl
 refine one_ (i := 2) (N := some 61) #[true, true, true, false, false] rfl rfl (by kernel_rfl) (by decide) (fun K hK => ?_)
 refine goes_ Try.func44 (by kernel_rfl) rfl #[.agg #[.bool a1_0, .slice A1_1 l1_1.length c1_1, .int .i64 a1_2]] (by rfl) rfl rfl (by (try simp only [List.map_toArray, List.map_cons, List.map_nil]); first | done | rfl | (simp only [List.length_drop, List.length_take]; rfl)) ?_
 with_reducible refine (laws_toDyadic.calls k a1_0 _ _ l1_1 a1_2 t462 t463 t466 _ ?side1 ?side2 A31.out).mono ?_
 (case side1 => exact cB HR1_1 HB)
 (case side2 => exact HC1_1.out)
 rintro e w109 ⟨v464, rfl, ho0, hb⟩
 refine ⟨_, rfl, ?_⟩
 have HO465 := AM (Kd.R_lower (Kd.R_new' (Kd.R_new' (Kd.R_new' (Kd.R_new' (Kd.R_new' (Kd.R_new' (Kd.R_new' ho0 (Kd.R_lt (pR HO422))) (Kd.R_lt (pR HO427))) (Kd.R_lt (pR HO432))) (Kd.R_lt (pR HO439))) (Kd.R_lt (pR HO445))) (Kd.R_lt (pR HO451))) (Kd.R_lt (pR HO459))) (below_size (pH HB))); replace HO422 := AM (Kd.R_elder' (pR HO422) (Kd.R_base ho0) hb); replace HO427 := AM (Kd.R_elder' (pR HO427) (Kd.R_base ho0) hb); replace HO432 := AM (Kd.R_elder' (pR HO432) (Kd.R_base ho0) hb); replace HO439 := AM (Kd.R_elder' (pR HO439) (Kd.R_base ho0) hb); replace HO445 := AM (Kd.R_elder' (pR HO445) (Kd.R_base ho0) hb); replace HO451 := AM (Kd.R_elder' (pR HO451) (Kd.R_base ho0) hb); replace HO459 := AM (Kd.R_elder' (pR HO459) (Kd.R_base ho0) hb); replace BK415 := bB BK415 hb; replace BK416 := bB BK416 hb; replace BK435 := bB BK435 hb; replace BK441 := bB BK441 hb; replace BK447 := bB BK447 hb; replace BK454 := bB BK454 hb; replace HB := AM (below_step (pH HB) hb)
 (try clear hb)
 (try clear hb2)
 (try clear hk)
 (try clear hi)
 (try clear ho0)
 obtain ⟨Ao110, co110, eo110⟩ := Kd.R_slice HO465.out
 (first | subst eo110 | (injection eo110 with f1_ f2_ f3_; have f4_ := f1_.symm; have f5_ := f3_.symm; clear f1_ f2_ f3_; subst f4_; subst f5_))
 refine hK.out _ _ ⟨(blk_cell BK447.out 0).trans rfl, (blk_cell BK447.out 1).trans rfl, (blk_cell BK447.out 2).trans rfl, (blk_cell BK416.out 0).trans rfl, (blk_cell BK416.out 1).trans rfl, (blk_cell BK416.out 2).trans rfl⟩ (fun hHeld => ?_)
 clear hK K
 refine norm_ (a' := ?_) ?_ ?_
 rotate_left
 · show Act.put _ (some 61) _ = _
   simp only [Act.put, sa, sb, sc, i64_w, i32_w]
   rfl
 refine one_ (i := 3) (N := some 62) #[true, true, true, true, false] rfl rfl (by kernel_rfl) (by decide) (fun K hK => ?_)
 refine goes_ Try.func46 (by kernel_rfl) rfl #[.agg #[.bool t442, .slice Ao89 t443.length co89, .int .i64 t446], .agg #[.bool t462, .slice Ao110 t463.length co110, .int .i64 t466]] (by rfl) rfl rfl (by (try simp only [List.map_toArray, List.map_cons, List.map_nil]); first | done | rfl | (simp only [List.length_drop, List.length_take]; rfl)) ?_
 with_reducible refine (laws_eqDyadic.calls k t442 _ _ t443 t446 t462 _ _ t463 t466 true _ ?side1 ?side2 ?side3 ?side4 A32.out).mono ?_
 (case side1 => exact cR HO445)
 (case side2 => exact (Kd.R_reads' HO445.out).2.1)
 (case side3 => exact cR HO465)
 (case side4 => exact (Kd.R_reads' HO465.out).2.1)
 rintro e w111 ⟨rfl, hb⟩
 refine ⟨_, rfl, ?_⟩
 replace HO422 := AM (Kd.R_below (pR HO422) hb); replace HO427 := AM (Kd.R_below (pR HO427) hb); replace HO432 := AM (Kd.R_below (pR HO432) hb); replace HO439 := AM (Kd.R_below (pR HO439) hb); replace HO445 := AM (Kd.R_below (pR HO445) hb); replace HO451 := AM (Kd.R_below (pR HO451) hb); replace HO459 := AM (Kd.R_below (pR HO459) hb); replace HO465 := AM (Kd.R_below (pR HO465) hb); replace BK415 := bB BK415 hb; replace BK416 := bB BK416 hb; replace BK435 := bB BK435 hb; replace BK441 := bB BK441 hb; replace BK447 := bB BK447 hb; replace BK454 := bB BK454 hb; replace HB := AM (below_step (pH HB) hb)
 (try clear hb)
 (try clear hb2)
 (try clear hk)
 (try clear hi)
 refine hK.out _ _ ⟨(blk_cell BK447.out 0).trans rfl, (blk_cell BK447.out 1).trans rfl, (blk_cell BK447.out 2).trans rfl, (blk_cell BK416.out 0).trans rfl, (blk_cell BK416.out 1).trans rfl, (blk_cell BK416.out 2).trans rfl⟩ (fun hHeld => ?_)
 clear hK K
 refine norm_ (a' := ?_) ?_ ?_
 rotate_left
 · show Act.put _ (some 62) _ = _
   simp only [Act.put, sa, sb, sc, i64_w, i32_w]
   rfl
 refine pure_ (i := 4) (N := some 63) (v := ?_) (a' := ?_) #[true, true, true, true, true] rfl rfl (by kernel_rfl) (fun _ _ _ h => h) (Or.inl ⟨by rfl, ?_⟩) ?_ ?_
 rotate_left
 · intro w'
   go_simp
   with_reducible rfl
 rotate_left
 · simp only [Act.put, sa, sb, sc, i64_w, i32_w]
   rfl
 refine done_ (by kernel_rfl) ?_
 have hcz112_0 : w111.cell? ⟨gb441, 0, none⟩ = some (.bool t436) := (blk_cell BK441.out 0).trans rfl
 have hcz112_1 : w111.cell? ⟨gb441, 1, none⟩ = some (.slice Ao79 t437.length co79) := (blk_cell BK441.out 1).trans rfl
 have hcz112_2 : w111.cell? ⟨gb441, 2, none⟩ = some (.int .i64 t440) := (blk_cell BK441.out 2).trans rfl
 have hfz112_0 := blk_frozen BK441.out 0; have hfz112_1 := blk_frozen BK441.out 1; have hfz112_2 := blk_frozen BK441.out 2
 try go_wp2_with (first | ((with_reducible refine gate_callee (f := 47) rfl ?_); refine goesL_ (some 66) rfl rfl Try.func47 (by kernel_rfl) rfl #[.agg #[.bool t436, .slice Ao79 t437.length co79, .int .i64 t440], .int .i64 1] rfl (by (try simp only [List.map_toArray, List.map_cons, List.map_nil]); first | done | rfl | (simp only [List.length_drop, List.length_take]; rfl)) ?_; (with_reducible refine (laws_markDyadic.calls k t436 (fun k_ => some k_ = (.slice Ao79 t437.length co79 : Value).ownBlock) (.slice Ao79 t437.length co79) t437 t440 1 t468 t469 w _ ?side1 ?side2 A34.out).mono ?_); (case side1 => exact pH HB); (case side2 => exact Kd.R_tight rfl HO439.out); rintro e w113 ⟨rfl, hy0, hb, hkp⟩; refine ⟨_, rfl, ?_⟩; replace BK415 := AM (blk_kept (pB BK415) hkp (fun hs_ => (fun e_ => (Kd.R_ne HO439.out BK415.out (by decide)) e_) hs_)); replace BK416 := AM (blk_kept (pB BK416) hkp (fun hs_ => (fun e_ => (Kd.R_ne HO439.out BK416.out (by decide)) e_) hs_)); replace HO422 := AM (Kd.R_mono (ok' := fun k_ => some k_ ≠ (v426 : Value).ownBlock ∧ some k_ ≠ (.slice Ao68 t430.length co68 : Value).ownBlock ∧ some k_ ≠ (.slice Ao79 t437.length co79 : Value).ownBlock ∧ some k_ ≠ (.slice Ao89 t443.length co89 : Value).ownBlock ∧ some k_ ≠ (.slice Ao101 t449.length co101 : Value).ownBlock ∧ some k_ ≠ (.slice Ao106 t457.length co106 : Value).ownBlock ∧ some k_ ≠ (.slice Ao110 t463.length co110 : Value).ownBlock) (Kd.R_keptB (HO422.out) hkp (fun k_ hk_ hs_ => (hk_.1.1.1.2.2.1) hs_)) (fun k_ hk_ => ⟨hk_.1.1.1.1.1, hk_.1.1.1.1.2.1, hk_.1.1.1.1.2.2.1, hk_.1.1.1.1.2.2.2, hk_.1.1.1.2, hk_.1.1.2, hk_.1.2⟩)); replace HO427 := AM (Kd.R_mono (ok' := fun k_ => some k_ ≠ (v421 : Value).ownBlock ∧ some k_ ≠ (.slice Ao68 t430.length co68 : Value).ownBlock ∧ some k_ ≠ (.slice Ao79 t437.length co79 : Value).ownBlock ∧ some k_ ≠ (.slice Ao89 t443.length co89 : Value).ownBlock ∧ some k_ ≠ (.slice Ao101 t449.length co101 : Value).ownBlock ∧ some k_ ≠ (.slice Ao106 t457.length co106 : Value).ownBlock ∧ some k_ ≠ (.slice Ao110 t463.length co110 : Value).ownBlock) (Kd.R_keptB (HO427.out) hkp (fun k_ hk_ hs_ => (hk_.1.1.1.2.2.1) hs_)) (fun k_ hk_ => ⟨hk_.1.1.1.1.1, hk_.1.1.1.1.2.1, hk_.1.1.1.1.2.2.1, hk_.1.1.1.1.2.2.2, hk_.1.1.1.2, hk_.1.1.2, hk_.1.2⟩)); replace HO432 := AM (Kd.R_mono (ok' := fun k_ => some k_ ≠ (v421 : Value).ownBlock ∧ some k_ ≠ (v426 : Value).ownBlock ∧ some k_ ≠ (.slice Ao79 t437.length co79 : Value).ownBlock ∧ some k_ ≠ (.slice Ao89 t443.length co89 : Value).ownBlock ∧ some k_ ≠ (.slice Ao101 t449.length co101 : Value).ownBlock ∧ some k_ ≠ (.slice Ao106 t457.length co106 : Value).ownBlock ∧ some k_ ≠ (.slice Ao110 t463.length co110 : Value).ownBlock) (Kd.R_keptB (HO432.out) hkp (fun k_ hk_ hs_ => (hk_.1.1.1.2.2.1) hs_)) (fun k_ hk_ => ⟨hk_.1.1.1.1.1, hk_.1.1.1.1.2.1, hk_.1.1.1.1.2.2.1, hk_.1.1.1.1.2.2.2, hk_.1.1.1.2, hk_.1.1.2, hk_.1.2⟩)); replace BK435 := AM (blk_kept (pB BK435) hkp (fun hs_ => (fun e_ => (Kd.R_ne HO439.out BK435.out (by decide)) e_) hs_)); replace BK441 := AM (blk_kept (pB BK441) hkp (fun hs_ => (fun e_ => (Kd.R_ne HO439.out BK441.out (by decide)) e_) hs_)); replace HO445 := AM (Kd.R_mono (ok' := fun k_ => some k_ ≠ (v421 : Value).ownBlock ∧ some k_ ≠ (v426 : Value).ownBlock ∧ some k_ ≠ (.slice Ao68 t430.length co68 : Value).ownBlock ∧ some k_ ≠ (.slice Ao79 t437.length co79 : Value).ownBlock ∧ some k_ ≠ (.slice Ao101 t449.length co101 : Value).ownBlock ∧ some k_ ≠ (.slice Ao106 t457.length co106 : Value).ownBlock ∧ some k_ ≠ (.slice Ao110 t463.length co110 : Value).ownBlock) (Kd.R_keptB (HO445.out) hkp (fun k_ hk_ hs_ => (hk_.1.1.1.2.2.2) hs_)) (fun k_ hk_ => ⟨hk_.1.1.1.1.1, hk_.1.1.1.1.2.1, hk_.1.1.1.1.2.2.1, hk_.1.1.1.1.2.2.2, hk_.1.1.1.2, hk_.1.1.2, hk_.1.2⟩)); replace BK447 := AM (blk_kept (pB BK447) hkp (fun hs_ => (fun e_ => (Kd.R_ne HO439.out BK447.out (by decide)) e_) hs_)); replace HO451 := AM (Kd.R_mono (ok' := fun k_ => some k_ ≠ (v421 : Value).ownBlock ∧ some k_ ≠ (v426 : Value).ownBlock ∧ some k_ ≠ (.slice Ao68 t430.length co68 : Value).ownBlock ∧ some k_ ≠ (.slice Ao79 t437.length co79 : Value).ownBlock ∧ some k_ ≠ (.slice Ao89 t443.length co89 : Value).ownBlock ∧ some k_ ≠ (.slice Ao106 t457.length co106 : Value).ownBlock ∧ some k_ ≠ (.slice Ao110 t463.length co110 : Value).ownBlock) (Kd.R_keptB (HO451.out) hkp (fun k_ hk_ hs_ => (hk_.1.1.1.2) hs_)) (fun k_ hk_ => ⟨hk_.1.1.1.1.1.1.1.2, hk_.1.1.1.1.1.1.2, hk_.1.1.1.1.1.2, hk_.1.1.1.1.2, hk_.1.1.1.2, hk_.1.1.2, hk_.1.2⟩)); replace BK454 := AM (blk_kept (pB BK454) hkp (fun hs_ => (fun e_ => (Kd.R_ne HO439.out BK454.out (by decide)) e_) hs_)); replace HO439 := AM (Kd.R_reok rfl hy0 (fun k_ e_ => HO439.out.1 k_ e_)); replace HO459 := AM (Kd.R_mono (ok' := fun k_ => some k_ ≠ (v421 : Value).ownBlock ∧ some k_ ≠ (v426 : Value).ownBlock ∧ some k_ ≠ (.slice Ao68 t430.length co68 : Value).ownBlock ∧ some k_ ≠ (.slice Ao79 t437.length co79 : Value).ownBlock ∧ some k_ ≠ (.slice Ao89 t443.length co89 : Value).ownBlock ∧ some k_ ≠ (.slice Ao101 t449.length co101 : Value).ownBlock ∧ some k_ ≠ (.slice Ao110 t463.length co110 : Value).ownBlock) (Kd.R_keptB (HO459.out) hkp (fun k_ hk_ hs_ => (hk_.1.1.1.2) hs_)) (fun k_ hk_ => ⟨hk_.1.1.1.1.1.1.1.2, hk_.1.1.1.1.1.1.2, hk_.1.1.1.1.1.2, hk_.1.1.1.1.2, hk_.1.1.1.2, hk_.1.1.2, hk_.1.2⟩)); replace HO465 := AM (Kd.R_mono (ok' := fun k_ => some k_ ≠ (v421 : Value).ownBlock ∧ some k_ ≠ (v426 : Value).ownBlock ∧ some k_ ≠ (.slice Ao68 t430.length co68 : Value).ownBlock ∧ some k_ ≠ (.slice Ao79 t437.length co79 : Value).ownBlock ∧ some k_ ≠ (.slice Ao89 t443.length co89 : Value).ownBlock ∧ some k_ ≠ (.slice Ao101 t449.length co101 : Value).ownBlock ∧ some k_ ≠ (.slice Ao106 t457.length co106 : Value).ownBlock) (Kd.R_keptB (HO465.out) hkp (fun k_ hk_ hs_ => (hk_.1.1.1.2) hs_)) (fun k_ hk_ => ⟨hk_.1.1.1.1.1.1.1.2, hk_.1.1.1.1.1.1.2, hk_.1.1.1.1.1.2, hk_.1.1.1.1.2, hk_.1.1.1.2, hk_.1.1.2, hk_.1.2⟩)); replace HB := AM (hb); (try clear hb); (try clear hkp); (try clear hy0); have ⟨hcz114_0, hcz114_1, hcz114_2, hfz114_0, hfz114_1, hfz114_2⟩ := z3 BK447) | ((with_reducible refine gate_callee (f := 47) rfl ?_); refine goesL_ (some 69) rfl rfl Try.func47 (by kernel_rfl) rfl #[.agg #[.bool t442, .slice Ao89 t443.length co89, .int .i64 t446], .int .i64 t468] rfl (by (try simp only [List.map_toArray, List.map_cons, List.map_nil]); first | done | rfl | (simp only [List.length_drop, List.length_take]; rfl)) ?_; (with_reducible refine (laws_markDyadic.calls k t442 (fun k_ => some k_ = (.slice Ao89 t443.length co89 : Value).ownBlock) (.slice Ao89 t443.length co89) t443 t446 t468 t470 t471 w _ ?side1 ?side2 A35.out).mono ?_); (case side1 => exact pH HB); (case side2 => exact Kd.R_tight rfl HO445.out); rintro e w115 ⟨rfl, hy0, hb, hkp⟩; refine ⟨_, rfl, ?_⟩; replace BK415 := AM (blk_kept (pB BK415) hkp (fun hs_ => (fun e_ => (Kd.R_ne HO445.out BK415.out (by decide)) e_) hs_)); replace BK416 := AM (blk_kept (pB BK416) hkp (fun hs_ => (fun e_ => (Kd.R_ne HO445.out BK416.out (by decide)) e_) hs_)); replace HO422 := AM (Kd.R_mono (ok' := fun k_ => some k_ ≠ (v426 : Value).ownBlock ∧ some k_ ≠ (.slice Ao68 t430.length co68 : Value).ownBlock ∧ some k_ ≠ (.slice Ao79 t437.length co79 : Value).ownBlock ∧ some k_ ≠ (.slice Ao89 t443.length co89 : Value).ownBlock ∧ some k_ ≠ (.slice Ao101 t449.length co101 : Value).ownBlock ∧ some k_ ≠ (.slice Ao106 t457.length co106 : Value).ownBlock ∧ some k_ ≠ (.slice Ao110 t463.length co110 : Value).ownBlock) (Kd.R_keptB (HO422.out) hkp (fun k_ hk_ hs_ => (hk_.2.2.2.1) hs_)) (fun k_ hk_ => ⟨hk_.1.1, hk_.1.2.1, hk_.1.2.2.1, hk_.1.2.2.2.1, hk_.1.2.2.2.2.1, hk_.1.2.2.2.2.2.1, hk_.1.2.2.2.2.2.2⟩)); replace HO427 := AM (Kd.R_mono (ok' := fun k_ => some k_ ≠ (v421 : Value).ownBlock ∧ some k_ ≠ (.slice Ao68 t430.length co68 : Value).ownBlock ∧ some k_ ≠ (.slice Ao79 t437.length co79 : Value).ownBlock ∧ some k_ ≠ (.slice Ao89 t443.length co89 : Value).ownBlock ∧ some k_ ≠ (.slice Ao101 t449.length co101 : Value).ownBlock ∧ some k_ ≠ (.slice Ao106 t457.length co106 : Value).ownBlock ∧ some k_ ≠ (.slice Ao110 t463.length co110 : Value).ownBlock) (Kd.R_keptB (HO427.out) hkp (fun k_ hk_ hs_ => (hk_.2.2.2.1) hs_)) (fun k_ hk_ => ⟨hk_.1.1, hk_.1.2.1, hk_.1.2.2.1, hk_.1.2.2.2.1, hk_.1.2.2.2.2.1, hk_.1.2.2.2.2.2.1, hk_.1.2.2.2.2.2.2⟩)); replace HO432 := AM (Kd.R_mono (ok' := fun k_ => some k_ ≠ (v421 : Value).ownBlock ∧ some k_ ≠ (v426 : Value).ownBlock ∧ some k_ ≠ (.slice Ao79 t437.length co79 : Value).ownBlock ∧ some k_ ≠ (.slice Ao89 t443.length co89 : Value).ownBlock ∧ some k_ ≠ (.slice Ao101 t449.length co101 : Value).ownBlock ∧ some k_ ≠ (.slice Ao106 t457.length co106 : Value).ownBlock ∧ some k_ ≠ (.slice Ao110 t463.length co110 : Value).ownBlock) (Kd.R_keptB (HO432.out) hkp (fun k_ hk_ hs_ => (hk_.2.2.2.1) hs_)) (fun k_ hk_ => ⟨hk_.1.1, hk_.1.2.1, hk_.1.2.2.1, hk_.1.2.2.2.1, hk_.1.2.2.2.2.1, hk_.1.2.2.2.2.2.1, hk_.1.2.2.2.2.2.2⟩)); replace BK435 := AM (blk_kept (pB BK435) hkp (fun hs_ => (fun e_ => (Kd.R_ne HO445.out BK435.out (by decide)) e_) hs_)); replace HO439 := AM (Kd.R_mono (ok' := fun k_ => some k_ ≠ (v421 : Value).ownBlock ∧ some k_ ≠ (v426 : Value).ownBlock ∧ some k_ ≠ (.slice Ao68 t430.length co68 : Value).ownBlock ∧ some k_ ≠ (.slice Ao89 t443.length co89 : Value).ownBlock ∧ some k_ ≠ (.slice Ao101 t449.length co101 : Value).ownBlock ∧ some k_ ≠ (.slice Ao106 t457.length co106 : Value).ownBlock ∧ some k_ ≠ (.slice Ao110 t463.length co110 : Value).ownBlock) (Kd.R_keptB (HO439.out) hkp (fun k_ hk_ hs_ => (hk_.1.1.1.2.2.2) hs_)) (fun k_ hk_ => ⟨hk_.1.1.1.1.1, hk_.1.1.1.1.2.1, hk_.1.1.1.1.2.2.1, hk_.1.1.1.1.2.2.2, hk_.1.1.1.2, hk_.1.1.2, hk_.1.2⟩)); replace BK441 := AM (blk_kept (pB BK441) hkp (fun hs_ => (fun e_ => (Kd.R_ne HO445.out BK441.out (by decide)) e_) hs_)); replace BK447 := AM (blk_kept (pB BK447) hkp (fun hs_ => (fun e_ => (Kd.R_ne HO445.out BK447.out (by decide)) e_) hs_)); replace HO451 := AM (Kd.R_mono (ok' := fun k_ => some k_ ≠ (v421 : Value).ownBlock ∧ some k_ ≠ (v426 : Value).ownBlock ∧ some k_ ≠ (.slice Ao68 t430.length co68 : Value).ownBlock ∧ some k_ ≠ (.slice Ao79 t437.length co79 : Value).ownBlock ∧ some k_ ≠ (.slice Ao89 t443.length co89 : Value).ownBlock ∧ some k_ ≠ (.slice Ao106 t457.length co106 : Value).ownBlock ∧ some k_ ≠ (.slice Ao110 t463.length co110 : Value).ownBlock) (Kd.R_keptB (HO451.out) hkp (fun k_ hk_ hs_ => (hk_.2.2.2.2.1) hs_)) (fun k_ hk_ => ⟨hk_.1.1, hk_.1.2.1, hk_.1.2.2.1, hk_.1.2.2.2.1, hk_.1.2.2.2.2.1, hk_.1.2.2.2.2.2.1, hk_.1.2.2.2.2.2.2⟩)); replace BK454 := AM (blk_kept (pB BK454) hkp (fun hs_ => (fun e_ => (Kd.R_ne HO445.out BK454.out (by decide)) e_) hs_)); replace HO445 := AM (Kd.R_reok rfl hy0 (fun k_ e_ => HO445.out.1 k_ e_)); replace HO459 := AM (Kd.R_mono (ok' := fun k_ => some k_ ≠ (v421 : Value).ownBlock ∧ some k_ ≠ (v426 : Value).ownBlock ∧ some k_ ≠ (.slice Ao68 t430.length co68 : Value).ownBlock ∧ some k_ ≠ (.slice Ao79 t437.length co79 : Value).ownBlock ∧ some k_ ≠ (.slice Ao89 t443.length co89 : Value).ownBlock ∧ some k_ ≠ (.slice Ao101 t449.length co101 : Value).ownBlock ∧ some k_ ≠ (.slice Ao110 t463.length co110 : Value).ownBlock) (Kd.R_keptB (HO459.out) hkp (fun k_ hk_ hs_ => (hk_.2.2.2.2.1) hs_)) (fun k_ hk_ => ⟨hk_.1.1, hk_.1.2.1, hk_.1.2.2.1, hk_.1.2.2.2.1, hk_.1.2.2.2.2.1, hk_.1.2.2.2.2.2.1, hk_.1.2.2.2.2.2.2⟩)); replace HO465 := AM (Kd.R_mono (ok' := fun k_ => some k_ ≠ (v421 : Value).ownBlock ∧ some k_ ≠ (v426 : Value).ownBlock ∧ some k_ ≠ (.slice Ao68 t430.length co68 : Value).ownBlock ∧ some k_ ≠ (.slice Ao79 t437.length co79 : Value).ownBlock ∧ some k_ ≠ (.slice Ao89 t443.length co89 : Value).ownBlock ∧ some k_ ≠ (.slice Ao101 t449.length co101 : Value).ownBlock ∧ some k_ ≠ (.slice Ao106 t457.length co106 : Value).ownBlock) (Kd.R_keptB (HO465.out) hkp (fun k_ hk_ hs_ => (hk_.2.2.2.2.1) hs_)) (fun k_ hk_ => ⟨hk_.1.1, hk_.1.2.1, hk_.1.2.2.1, hk_.1.2.2.2.1, hk_.1.2.2.2.2.1, hk_.1.2.2.2.2.2.1, hk_.1.2.2.2.2.2.2⟩)); replace HB := AM (hb); (try clear hb); (try clear hkp); (try clear hy0); have ⟨hcz116_0, hcz116_1, hcz116_2, hfz116_0, hfz116_1, hfz116_2⟩ := z3 BK454; have ⟨hcz117_0, hcz117_1, hcz117_2, hfz117_0, hfz117_1, hfz117_2⟩ := z3 BK435) | (go_at_call 46; (with_reducible refine (laws_eqDyadic.calls k t448 _ _ t449 t452 t429 _ _ t430 t433 true _ ?side1 ?side2 ?side3 ?side4 A37.out).mono ?_); (case side1 => exact cR HO451); (case side2 => exact (Kd.R_reads' HO451.out).2.1); (case side3 => exact cR HO432); (case side4 => exact (Kd.R_reads' HO432.out).2.1); rintro e w118 ⟨rfl, hb⟩; replace HO422 := AM (Kd.R_below (pR HO422) hb); replace HO427 := AM (Kd.R_below (pR HO427) hb); replace HO432 := AM (Kd.R_below (pR HO432) hb); replace HO439 := AM (Kd.R_below (pR HO439) hb); replace HO445 := AM (Kd.R_below (pR HO445) hb); replace HO451 := AM (Kd.R_below (pR HO451) hb); replace HO459 := AM (Kd.R_below (pR HO459) hb); replace HO465 := AM (Kd.R_below (pR HO465) hb); replace BK415 := bB BK415 hb; replace BK416 := bB BK416 hb; replace BK435 := bB BK435 hb; replace BK441 := bB BK441 hb; replace BK447 := bB BK447 hb; replace BK454 := bB BK454 hb; replace HB := AM (below_step (pH HB) hb); (try clear hb); (try clear hb2); (try clear hk); (try clear hi); have ⟨hcz119_0, hcz119_1, hcz119_2, hfz119_0, hfz119_1, hfz119_2⟩ := z3 BK454) | ((with_reducible refine gate_callee (f := 47) rfl ?_); refine goesL_ (some 85) rfl rfl Try.func47 (by kernel_rfl) rfl #[.agg #[.bool t448, .slice Ao101 t449.length co101, .int .i64 t452], .int .i64 1] rfl (by (try simp only [List.map_toArray, List.map_cons, List.map_nil]); first | done | rfl | (simp only [List.length_drop, List.length_take]; rfl)) ?_; (with_reducible refine (laws_markDyadic.calls k t448 (fun k_ => some k_ = (.slice Ao101 t449.length co101 : Value).ownBlock) (.slice Ao101 t449.length co101) t449 t452 1 t473 t474 w _ ?side1 ?side2 A39.out).mono ?_); (case side1 => exact pH HB); (case side2 => exact Kd.R_tight rfl HO451.out); rintro e w120 ⟨rfl, hy0, hb, hkp⟩; refine ⟨_, rfl, ?_⟩; replace BK415 := AM (blk_kept (pB BK415) hkp (fun hs_ => (fun e_ => (Kd.R_ne HO451.out BK415.out (by decide)) e_) hs_)); replace BK416 := AM (blk_kept (pB BK416) hkp (fun hs_ => (fun e_ => (Kd.R_ne HO451.out BK416.out (by decide)) e_) hs_)); replace HO422 := AM (Kd.R_mono (ok' := fun k_ => some k_ ≠ (v426 : Value).ownBlock ∧ some k_ ≠ (.slice Ao68 t430.length co68 : Value).ownBlock ∧ some k_ ≠ (.slice Ao79 t437.length co79 : Value).ownBlock ∧ some k_ ≠ (.slice Ao89 t443.length co89 : Value).ownBlock ∧ some k_ ≠ (.slice Ao101 t449.length co101 : Value).ownBlock ∧ some k_ ≠ (.slice Ao106 t457.length co106 : Value).ownBlock ∧ some k_ ≠ (.slice Ao110 t463.length co110 : Value).ownBlock) (Kd.R_keptB (HO422.out) hkp (fun k_ hk_ hs_ => (hk_.2.2.2.2.1) hs_)) (fun k_ hk_ => ⟨hk_.1.1, hk_.1.2.1, hk_.1.2.2.1, hk_.1.2.2.2.1, hk_.1.2.2.2.2.1, hk_.1.2.2.2.2.2.1, hk_.1.2.2.2.2.2.2⟩)); replace HO427 := AM (Kd.R_mono (ok' := fun k_ => some k_ ≠ (v421 : Value).ownBlock ∧ some k_ ≠ (.slice Ao68 t430.length co68 : Value).ownBlock ∧ some k_ ≠ (.slice Ao79 t437.length co79 : Value).ownBlock ∧ some k_ ≠ (.slice Ao89 t443.length co89 : Value).ownBlock ∧ some k_ ≠ (.slice Ao101 t449.length co101 : Value).ownBlock ∧ some k_ ≠ (.slice Ao106 t457.length co106 : Value).ownBlock ∧ some k_ ≠ (.slice Ao110 t463.length co110 : Value).ownBlock) (Kd.R_keptB (HO427.out) hkp (fun k_ hk_ hs_ => (hk_.2.2.2.2.1) hs_)) (fun k_ hk_ => ⟨hk_.1.1, hk_.1.2.1, hk_.1.2.2.1, hk_.1.2.2.2.1, hk_.1.2.2.2.2.1, hk_.1.2.2.2.2.2.1, hk_.1.2.2.2.2.2.2⟩)); replace HO432 := AM (Kd.R_mono (ok' := fun k_ => some k_ ≠ (v421 : Value).ownBlock ∧ some k_ ≠ (v426 : Value).ownBlock ∧ some k_ ≠ (.slice Ao79 t437.length co79 : Value).ownBlock ∧ some k_ ≠ (.slice Ao89 t443.length co89 : Value).ownBlock ∧ some k_ ≠ (.slice Ao101 t449.length co101 : Value).ownBlock ∧ some k_ ≠ (.slice Ao106 t457.length co106 : Value).ownBlock ∧ some k_ ≠ (.slice Ao110 t463.length co110 : Value).ownBlock) (Kd.R_keptB (HO432.out) hkp (fun k_ hk_ hs_ => (hk_.2.2.2.2.1) hs_)) (fun k_ hk_ => ⟨hk_.1.1, hk_.1.2.1, hk_.1.2.2.1, hk_.1.2.2.2.1, hk_.1.2.2.2.2.1, hk_.1.2.2.2.2.2.1, hk_.1.2.2.2.2.2.2⟩)); replace BK435 := AM (blk_kept (pB BK435) hkp (fun hs_ => (fun e_ => (Kd.R_ne HO451.out BK435.out (by decide)) e_) hs_)); replace HO439 := AM (Kd.R_mono (ok' := fun k_ => some k_ ≠ (v421 : Value).ownBlock ∧ some k_ ≠ (v426 : Value).ownBlock ∧ some k_ ≠ (.slice Ao68 t430.length co68 : Value).ownBlock ∧ some k_ ≠ (.slice Ao89 t443.length co89 : Value).ownBlock ∧ some k_ ≠ (.slice Ao101 t449.length co101 : Value).ownBlock ∧ some k_ ≠ (.slice Ao106 t457.length co106 : Value).ownBlock ∧ some k_ ≠ (.slice Ao110 t463.length co110 : Value).ownBlock) (Kd.R_keptB (HO439.out) hkp (fun k_ hk_ hs_ => (hk_.2.2.2.2.1) hs_)) (fun k_ hk_ => ⟨hk_.1.1, hk_.1.2.1, hk_.1.2.2.1, hk_.1.2.2.2.1, hk_.1.2.2.2.2.1, hk_.1.2.2.2.2.2.1, hk_.1.2.2.2.2.2.2⟩)); replace BK441 := AM (blk_kept (pB BK441) hkp (fun hs_ => (fun e_ => (Kd.R_ne HO451.out BK441.out (by decide)) e_) hs_)); replace HO445 := AM (Kd.R_mono (ok' := fun k_ => some k_ ≠ (v421 : Value).ownBlock ∧ some k_ ≠ (v426 : Value).ownBlock ∧ some k_ ≠ (.slice Ao68 t430.length co68 : Value).ownBlock ∧ some k_ ≠ (.slice Ao79 t437.length co79 : Value).ownBlock ∧ some k_ ≠ (.slice Ao101 t449.length co101 : Value).ownBlock ∧ some k_ ≠ (.slice Ao106 t457.length co106 : Value).ownBlock ∧ some k_ ≠ (.slice Ao110 t463.length co110 : Value).ownBlock) (Kd.R_keptB (HO445.out) hkp (fun k_ hk_ hs_ => (hk_.2.2.2.2.1) hs_)) (fun k_ hk_ => ⟨hk_.1.1, hk_.1.2.1, hk_.1.2.2.1, hk_.1.2.2.2.1, hk_.1.2.2.2.2.1, hk_.1.2.2.2.2.2.1, hk_.1.2.2.2.2.2.2⟩)); replace BK447 := AM (blk_kept (pB BK447) hkp (fun hs_ => (fun e_ => (Kd.R_ne HO451.out BK447.out (by decide)) e_) hs_)); replace BK454 := AM (blk_kept (pB BK454) hkp (fun hs_ => (fun e_ => (Kd.R_ne HO451.out BK454.out (by decide)) e_) hs_)); replace HO451 := AM (Kd.R_reok rfl hy0 (fun k_ e_ => HO451.out.1 k_ e_)); replace HO459 := AM (Kd.R_mono (ok' := fun k_ => some k_ ≠ (v421 : Value).ownBlock ∧ some k_ ≠ (v426 : Value).ownBlock ∧ some k_ ≠ (.slice Ao68 t430.length co68 : Value).ownBlock ∧ some k_ ≠ (.slice Ao79 t437.length co79 : Value).ownBlock ∧ some k_ ≠ (.slice Ao89 t443.length co89 : Value).ownBlock ∧ some k_ ≠ (.slice Ao101 t449.length co101 : Value).ownBlock ∧ some k_ ≠ (.slice Ao110 t463.length co110 : Value).ownBlock) (Kd.R_keptB (HO459.out) hkp (fun k_ hk_ hs_ => (hk_.2.2.2.2.2.1) hs_)) (fun k_ hk_ => ⟨hk_.1.1, hk_.1.2.1, hk_.1.2.2.1, hk_.1.2.2.2.1, hk_.1.2.2.2.2.1, hk_.1.2.2.2.2.2.1, hk_.1.2.2.2.2.2.2⟩)); replace HO465 := AM (Kd.R_mono (ok' := fun k_ => some k_ ≠ (v421 : Value).ownBlock ∧ some k_ ≠ (v426 : Value).ownBlock ∧ some k_ ≠ (.slice Ao68 t430.length co68 : Value).ownBlock ∧ some k_ ≠ (.slice Ao79 t437.length co79 : Value).ownBlock ∧ some k_ ≠ (.slice Ao89 t443.length co89 : Value).ownBlock ∧ some k_ ≠ (.slice Ao101 t449.length co101 : Value).ownBlock ∧ some k_ ≠ (.slice Ao106 t457.length co106 : Value).ownBlock) (Kd.R_keptB (HO465.out) hkp (fun k_ hk_ hs_ => (hk_.2.2.2.2.2.1) hs_)) (fun k_ hk_ => ⟨hk_.1.1, hk_.1.2.1, hk_.1.2.2.1, hk_.1.2.2.2.1, hk_.1.2.2.2.2.1, hk_.1.2.2.2.2.2.1, hk_.1.2.2.2.2.2.2⟩)); replace HB := AM (hb); (try clear hb); (try clear hkp); (try clear hy0); have ⟨hcz121_0, hcz121_1, hcz121_2, hfz121_0, hfz121_1, hfz121_2⟩ := z3 BK454) | ((with_reducible refine gate_callee (f := 48) rfl ?_); refine goesL_ (some 88) rfl rfl Try.func48 (by kernel_rfl) rfl #[.agg #[.bool t448, .slice Ao101 t474.length co101, .int .i64 t452], .int .i64 1] rfl (by (try simp only [List.map_toArray, List.map_cons, List.map_nil]); first | done | (rw [show t474.length = t449.length from (Kd.R_reads' HO451.out).1.symm] <;> rfl) | rfl | (simp only [List.length_drop, List.length_take]; rfl)) ?_; (with_reducible refine (laws_heldDyadic.calls k t448 _ _ t474 t452 1 t475 _ ?side1 ?side2 A40.out).mono ?_); (case side1 => exact cR HO451); (case side2 => rw [show t474.length = t449.length from (Kd.R_reads' HO451.out).1.symm]; exact (Kd.R_reads' HO451.out).2.1); rintro e w122 ⟨rfl, hb⟩; refine ⟨_, rfl, ?_⟩; replace HO422 := AM (Kd.R_below (pR HO422) hb); replace HO427 := AM (Kd.R_below (pR HO427) hb); replace HO432 := AM (Kd.R_below (pR HO432) hb); replace HO439 := AM (Kd.R_below (pR HO439) hb); replace HO445 := AM (Kd.R_below (pR HO445) hb); replace HO451 := AM (Kd.R_below (pR HO451) hb); replace HO459 := AM (Kd.R_below (pR HO459) hb); replace HO465 := AM (Kd.R_below (pR HO465) hb); replace BK415 := bB BK415 hb; replace BK416 := bB BK416 hb; replace BK435 := bB BK435 hb; replace BK441 := bB BK441 hb; replace BK447 := bB BK447 hb; replace BK454 := bB BK454 hb; replace HB := AM (below_step (pH HB) hb); (try clear hb); (try clear hb2); (try clear hk); (try clear hi)))
 replace HO422 := AM (Kd.R_drew HO422.out); replace HO427 := AM (Kd.R_drew HO427.out); replace HO432 := AM (Kd.R_drew HO432.out); replace HO439 := AM (Kd.R_drew HO439.out); replace HO445 := AM (Kd.R_drew HO445.out); replace HO451 := AM (Kd.R_drew HO451.out); replace HO459 := AM (Kd.R_drew HO459.out); replace HO465 := AM (Kd.R_drew HO465.out); replace BK415 := AM (blk_drew BK415.out); replace BK416 := AM (blk_drew BK416.out); replace BK435 := AM (blk_drew BK435.out); replace BK441 := AM (blk_drew BK441.out); replace BK447 := AM (blk_drew BK447.out); replace BK454 := AM (blk_drew BK454.out); replace HB := AM (below_drew1 HB.out)
 refine start_ (n := 11) (S := fun w' => w'.cell? ⟨gb415, 0, none⟩ = some (.bool a0_0) ∧ w'.cell? ⟨gb415, 1, none⟩ = some (.slice A0_1 l0_1.length c0_1) ∧ w'.cell? ⟨gb415, 2, none⟩ = some (.int .i64 a0_2) ∧ w'.cell? ⟨gb416, 0, none⟩ = some (.bool a1_0) ∧ w'.cell? ⟨gb416, 1, none⟩ = some (.slice A1_1 l1_1.length c1_1) ∧ w'.cell? ⟨gb416, 2, none⟩ = some (.int .i64 a1_2)) (ds := []) #[false, false, false, false, false, false, false, false, false, false, false] (by kernel_rfl) rfl rfl ⟨(blk_cell BK415.out 0).trans rfl, (blk_cell BK415.out 1).trans rfl, (blk_cell BK415.out 2).trans rfl, (blk_cell BK416.out 0).trans rfl, (blk_cell BK416.out 1).trans rfl, (blk_cell BK416.out 2).trans rfl⟩ (fun hHeld => ?_); refine with_tabW laws_FnExactDyMul.tab31 laws_FnExactDyMul.bits31 (fun HT_ HW_ => ?_)
 generalize w122.drew = w123 at HO422 HO427 HO432 HO439 HO445 HO451 HO459 HO465 BK415 BK416 BK435 BK441 BK447 BK454 HB hHeld ⊢
 refine take_ (i := 0) (N := some 95) (v := ?_) (a' := ?_) #[true, false, false, false, false, false, false, false, false, false, false] rfl rfl (take_ofW HT_.out HW_.out (by kernel_rfl)) (fun _ _ _ h => h) (Or.inl ⟨by rfl, ?_⟩) hHeld ?_ ?_
 rotate_left
 · rintro w' ⟨s0, s1, s2, s3, s4, s5⟩
   go_simp
   with_reducible rfl
 rotate_left
 · simp only [Act.put, sa, sb, sc, i64_w, i32_w]
   rfl
 refine take_ (i := 2) (N := some 97) (v := ?_) (a' := ?_) #[true, false, true, false, false, false, false, false, false, false, false] rfl rfl (take_ofW HT_.out HW_.out (by kernel_rfl)) (fun _ _ _ h => h) (Or.inl ⟨by rfl, ?_⟩) hHeld ?_ ?_
 rotate_left
 · rintro w' ⟨s0, s1, s2, s3, s4, s5⟩
   go_simp
   with_reducible rfl
 rotate_left
 · simp only [Act.put, sa, sb, sc, i64_w, i32_w]
   rfl
 refine join_ (σ := Value × Value × Value × Nat) 2 #[true, true, true, true, true, true, true, true, true, false, false] (fun s_ => [(96, .agg #[.bool t476, s_.1, .int .i64 t480]), (98, .agg #[.bool t481, s_.2.1, .int .i64 t485]), (99, .tuple #[.agg #[.bool t486, s_.2.2.1, .int .i64 t490], .int .i64 t491]), (15, .pointer (some ⟨s_.2.2.2, 0, none⟩)), (94, .tuple #[.agg #[.bool t486, s_.2.2.1, .int .i64 t490], .int .i64 t491]), (100, .agg #[.bool t486, s_.2.2.1, .int .i64 t490]), (101, .int .i64 t491)]) (fun s_ w' => (w'.cell? ⟨gb415, 0, none⟩ = some (.bool a0_0) ∧ w'.cell? ⟨gb415, 1, none⟩ = some (.slice A0_1 l0_1.length c0_1) ∧ w'.cell? ⟨gb415, 2, none⟩ = some (.int .i64 a0_2) ∧ w'.cell? ⟨gb416, 0, none⟩ = some (.bool a1_0) ∧ w'.cell? ⟨gb416, 1, none⟩ = some (.slice A1_1 l1_1.length c1_1) ∧ w'.cell? ⟨gb416, 2, none⟩ = some (.int .i64 a1_2)) ∧ (Kd.R (Kd.int .u32) 50 w' w.heap.size (fun k_ => some k_ ≠ (v426 : Value).ownBlock ∧ some k_ ≠ (.slice Ao68 t430.length co68 : Value).ownBlock ∧ some k_ ≠ (.slice Ao79 t437.length co79 : Value).ownBlock ∧ some k_ ≠ (.slice Ao89 t443.length co89 : Value).ownBlock ∧ some k_ ≠ (.slice Ao101 t449.length co101 : Value).ownBlock ∧ some k_ ≠ (.slice Ao106 t457.length co106 : Value).ownBlock ∧ some k_ ≠ (.slice Ao110 t463.length co110 : Value).ownBlock ∧ some k_ ≠ (s_.1 : Value).ownBlock ∧ some k_ ≠ (s_.2.1 : Value).ownBlock ∧ some k_ ≠ (s_.2.2.1 : Value).ownBlock) v421 t420) ∧ (Kd.R (Kd.int .u32) 50 w' w.heap.size (fun k_ => some k_ ≠ (v421 : Value).ownBlock ∧ some k_ ≠ (.slice Ao68 t430.length co68 : Value).ownBlock ∧ some k_ ≠ (.slice Ao79 t437.length co79 : Value).ownBlock ∧ some k_ ≠ (.slice Ao89 t443.length co89 : Value).ownBlock ∧ some k_ ≠ (.slice Ao101 t449.length co101 : Value).ownBlock ∧ some k_ ≠ (.slice Ao106 t457.length co106 : Value).ownBlock ∧ some k_ ≠ (.slice Ao110 t463.length co110 : Value).ownBlock ∧ some k_ ≠ (s_.1 : Value).ownBlock ∧ some k_ ≠ (s_.2.1 : Value).ownBlock ∧ some k_ ≠ (s_.2.2.1 : Value).ownBlock) v426 t425) ∧ (Kd.R (Kd.int .u32) 50 w' w.heap.size (fun k_ => some k_ ≠ (v421 : Value).ownBlock ∧ some k_ ≠ (v426 : Value).ownBlock ∧ some k_ ≠ (.slice Ao79 t437.length co79 : Value).ownBlock ∧ some k_ ≠ (.slice Ao89 t443.length co89 : Value).ownBlock ∧ some k_ ≠ (.slice Ao101 t449.length co101 : Value).ownBlock ∧ some k_ ≠ (.slice Ao106 t457.length co106 : Value).ownBlock ∧ some k_ ≠ (.slice Ao110 t463.length co110 : Value).ownBlock ∧ some k_ ≠ (s_.1 : Value).ownBlock ∧ some k_ ≠ (s_.2.1 : Value).ownBlock ∧ some k_ ≠ (s_.2.2.1 : Value).ownBlock) (.slice Ao68 t430.length co68) t430) ∧ (Kd.R (Kd.int .u32) 50 w' w.heap.size (fun k_ => some k_ ≠ (v421 : Value).ownBlock ∧ some k_ ≠ (v426 : Value).ownBlock ∧ some k_ ≠ (.slice Ao68 t430.length co68 : Value).ownBlock ∧ some k_ ≠ (.slice Ao89 t443.length co89 : Value).ownBlock ∧ some k_ ≠ (.slice Ao101 t449.length co101 : Value).ownBlock ∧ some k_ ≠ (.slice Ao106 t457.length co106 : Value).ownBlock ∧ some k_ ≠ (.slice Ao110 t463.length co110 : Value).ownBlock ∧ some k_ ≠ (s_.1 : Value).ownBlock ∧ some k_ ≠ (s_.2.1 : Value).ownBlock ∧ some k_ ≠ (s_.2.2.1 : Value).ownBlock) (.slice Ao79 t437.length co79) t469) ∧ (Kd.R (Kd.int .u32) 50 w' w.heap.size (fun k_ => some k_ ≠ (v421 : Value).ownBlock ∧ some k_ ≠ (v426 : Value).ownBlock ∧ some k_ ≠ (.slice Ao68 t430.length co68 : Value).ownBlock ∧ some k_ ≠ (.slice Ao79 t437.length co79 : Value).ownBlock ∧ some k_ ≠ (.slice Ao101 t449.length co101 : Value).ownBlock ∧ some k_ ≠ (.slice Ao106 t457.length co106 : Value).ownBlock ∧ some k_ ≠ (.slice Ao110 t463.length co110 : Value).ownBlock ∧ some k_ ≠ (s_.1 : Value).ownBlock ∧ some k_ ≠ (s_.2.1 : Value).ownBlock ∧ some k_ ≠ (s_.2.2.1 : Value).ownBlock) (.slice Ao89 t443.length co89) t471) ∧ (Kd.R (Kd.int .u32) 50 w' w.heap.size (fun k_ => some k_ ≠ (v421 : Value).ownBlock ∧ some k_ ≠ (v426 : Value).ownBlock ∧ some k_ ≠ (.slice Ao68 t430.length co68 : Value).ownBlock ∧ some k_ ≠ (.slice Ao79 t437.length co79 : Value).ownBlock ∧ some k_ ≠ (.slice Ao89 t443.length co89 : Value).ownBlock ∧ some k_ ≠ (.slice Ao106 t457.length co106 : Value).ownBlock ∧ some k_ ≠ (.slice Ao110 t463.length co110 : Value).ownBlock ∧ some k_ ≠ (s_.1 : Value).ownBlock ∧ some k_ ≠ (s_.2.1 : Value).ownBlock ∧ some k_ ≠ (s_.2.2.1 : Value).ownBlock) (.slice Ao101 t449.length co101) t474) ∧ (Kd.R (Kd.int .u32) 50 w' w.heap.size (fun k_ => some k_ ≠ (v421 : Value).ownBlock ∧ some k_ ≠ (v426 : Value).ownBlock ∧ some k_ ≠ (.slice Ao68 t430.length co68 : Value).ownBlock ∧ some k_ ≠ (.slice Ao79 t437.length co79 : Value).ownBlock ∧ some k_ ≠ (.slice Ao89 t443.length co89 : Value).ownBlock ∧ some k_ ≠ (.slice Ao101 t449.length co101 : Value).ownBlock ∧ some k_ ≠ (.slice Ao110 t463.length co110 : Value).ownBlock ∧ some k_ ≠ (s_.1 : Value).ownBlock ∧ some k_ ≠ (s_.2.1 : Value).ownBlock ∧ some k_ ≠ (s_.2.2.1 : Value).ownBlock) (.slice Ao106 t457.length co106) t457) ∧ (Kd.R (Kd.int .u32) 50 w' w.heap.size (fun k_ => some k_ ≠ (v421 : Value).ownBlock ∧ some k_ ≠ (v426 : Value).ownBlock ∧ some k_ ≠ (.slice Ao68 t430.length co68 : Value).ownBlock ∧ some k_ ≠ (.slice Ao79 t437.length co79 : Value).ownBlock ∧ some k_ ≠ (.slice Ao89 t443.length co89 : Value).ownBlock ∧ some k_ ≠ (.slice Ao101 t449.length co101 : Value).ownBlock ∧ some k_ ≠ (.slice Ao106 t457.length co106 : Value).ownBlock ∧ some k_ ≠ (s_.1 : Value).ownBlock ∧ some k_ ≠ (s_.2.1 : Value).ownBlock ∧ some k_ ≠ (s_.2.2.1 : Value).ownBlock) (.slice Ao110 t463.length co110) t463) ∧ (Kd.R (Kd.int .u32) 50 w' w.heap.size (fun k_ => some k_ ≠ (v421 : Value).ownBlock ∧ some k_ ≠ (v426 : Value).ownBlock ∧ some k_ ≠ (.slice Ao68 t430.length co68 : Value).ownBlock ∧ some k_ ≠ (.slice Ao79 t437.length co79 : Value).ownBlock ∧ some k_ ≠ (.slice Ao89 t443.length co89 : Value).ownBlock ∧ some k_ ≠ (.slice Ao101 t449.length co101 : Value).ownBlock ∧ some k_ ≠ (.slice Ao106 t457.length co106 : Value).ownBlock ∧ some k_ ≠ (.slice Ao110 t463.length co110 : Value).ownBlock ∧ some k_ ≠ (s_.2.1 : Value).ownBlock ∧ some k_ ≠ (s_.2.2.1 : Value).ownBlock) s_.1 t477) ∧ (Kd.R (Kd.int .u32) 50 w' w.heap.size (fun k_ => some k_ ≠ (v421 : Value).ownBlock ∧ some k_ ≠ (v426 : Value).ownBlock ∧ some k_ ≠ (.slice Ao68 t430.length co68 : Value).ownBlock ∧ some k_ ≠ (.slice Ao79 t437.length co79 : Value).ownBlock ∧ some k_ ≠ (.slice Ao89 t443.length co89 : Value).ownBlock ∧ some k_ ≠ (.slice Ao101 t449.length co101 : Value).ownBlock ∧ some k_ ≠ (.slice Ao106 t457.length co106 : Value).ownBlock ∧ some k_ ≠ (.slice Ao110 t463.length co110 : Value).ownBlock ∧ some k_ ≠ (s_.1 : Value).ownBlock ∧ some k_ ≠ (s_.2.2.1 : Value).ownBlock) s_.2.1 t482) ∧ (Kd.R (Kd.int .u32) 50 w' w.heap.size (fun k_ => some k_ ≠ (v421 : Value).ownBlock ∧ some k_ ≠ (v426 : Value).ownBlock ∧ some k_ ≠ (.slice Ao68 t430.length co68 : Value).ownBlock ∧ some k_ ≠ (.slice Ao79 t437.length co79 : Value).ownBlock ∧ some k_ ≠ (.slice Ao89 t443.length co89 : Value).ownBlock ∧ some k_ ≠ (.slice Ao101 t449.length co101 : Value).ownBlock ∧ some k_ ≠ (.slice Ao106 t457.length co106 : Value).ownBlock ∧ some k_ ≠ (.slice Ao110 t463.length co110 : Value).ownBlock ∧ some k_ ≠ (s_.1 : Value).ownBlock ∧ some k_ ≠ (s_.2.1 : Value).ownBlock) s_.2.2.1 t487) ∧ (w'.heap[gb415]? = some (.cells #[.bool a0_0, .slice A0_1 l0_1.length c0_1, .int .i64 a0_2] 74 (0, 0))) ∧ (w'.heap[gb416]? = some (.cells #[.bool a1_0, .slice A1_1 l1_1.length c1_1, .int .i64 a1_2] 74 (0, 0))) ∧ (w'.heap[gb435]? = some (.cells #[.bool t429, .slice Ao68 t430.length co68, .int .i64 t433] 77 (0, 0))) ∧ (w'.heap[gb441]? = some (.cells #[.bool t436, .slice Ao79 t437.length co79, .int .i64 t440] 77 (0, 0))) ∧ (w'.heap[gb447]? = some (.cells #[.bool t442, .slice Ao89 t443.length co89, .int .i64 t446] 77 (0, 0))) ∧ (w'.heap[gb454]? = some (.cells #[.bool t448, .slice Ao101 t449.length co101, .int .i64 t452] 77 (0, 0))) ∧ (w'.heap[s_.2.2.2]? = some (.cells #[.bool false, .slice none 0 0, .int .i64 0] 77 (0, 0))) ∧ (w.heap.size ≤ s_.2.2.2) ∧ (w.heap.size ≤ s_.2.2.2) ∧ (gb415 ≠ s_.2.2.2) ∧ (s_.2.2.2 ≠ gb415) ∧ (gb416 ≠ s_.2.2.2) ∧ (s_.2.2.2 ≠ gb416) ∧ (gb435 ≠ s_.2.2.2) ∧ (s_.2.2.2 ≠ gb435) ∧ (gb441 ≠ s_.2.2.2) ∧ (s_.2.2.2 ≠ gb441) ∧ (gb447 ≠ s_.2.2.2) ∧ (s_.2.2.2 ≠ gb447) ∧ (gb454 ≠ s_.2.2.2) ∧ (s_.2.2.2 ≠ gb454) ∧ (Below w.heap.size w w')) ?_ ?_
 rotate_left
 · intro hCont
   refine two_ (i := 1) (j := 8) (Ni := some 96) (Nj := some 15) #[true, true, true, false, false, false, false, false, false, false, false] #[true, false, true, false, false, false, false, false, true, false, false] rfl rfl rfl rfl (two_of HT_.out (by kernel_rfl)) (by decide) (by decide) (fun K hK => ?_) (fun K hK => ?_)
   rotate_left
   · skip
     refine box_step ?hg (N := 15) ?hd (cs := #[.bool false, .slice none 0 0, .int .i64 0]) (t := 77) ?hr ?_; (case hd => rfl); (case hg => rfl); (case hr => first | (go_simp; done) | (go_simp; rfl))
     intro gb492 hg w124 hbox hb
     replace HO422 := AM (Kd.R_below (pR HO422) hb); replace HO427 := AM (Kd.R_below (pR HO427) hb); replace HO432 := AM (Kd.R_below (pR HO432) hb); replace HO439 := AM (Kd.R_below (pR HO439) hb); replace HO445 := AM (Kd.R_below (pR HO445) hb); replace HO451 := AM (Kd.R_below (pR HO451) hb); replace HO459 := AM (Kd.R_below (pR HO459) hb); replace HO465 := AM (Kd.R_below (pR HO465) hb); have BK492 := AM (hbox); have GW492 := gH HB hg; have GE492 := gH HB hg; replace HB := AM (below_step (pH HB) hb); have NB415_492 := nL BK415 hg; have NB492_415 := nG BK415 hg; replace BK415 := bB BK415 hb; have NB416_492 := nL BK416 hg; have NB492_416 := nG BK416 hg; replace BK416 := bB BK416 hb; have NB435_492 := nL BK435 hg; have NB492_435 := nG BK435 hg; replace BK435 := bB BK435 hb; have NB441_492 := nL BK441 hg; have NB492_441 := nG BK441 hg; replace BK441 := bB BK441 hb; have NB447_492 := nL BK447 hg; have NB492_447 := nG BK447 hg; replace BK447 := bB BK447 hb; have NB454_492 := nL BK454 hg; have NB492_454 := nG BK454 hg; replace BK454 := bB BK454 hb; clear hb hbox hg
     refine hK.out _ _ ⟨(blk_cell BK415.out 0).trans rfl, (blk_cell BK415.out 1).trans rfl, (blk_cell BK415.out 2).trans rfl, (blk_cell BK416.out 0).trans rfl, (blk_cell BK416.out 1).trans rfl, (blk_cell BK416.out 2).trans rfl⟩ (fun hHeld => ?_)
     clear hK K
     refine norm_ (a' := ?_) ?_ ?_
     rotate_left
     · show Act.put _ (some 15) _ = _
       simp only [Act.put, sa, sb, sc, i64_w, i32_w]
       rfl
     refine one_ (i := 1) (N := some 96) #[true, true, true, false, false, false, false, false, true, false, false] rfl rfl (one_of HT_.out (by kernel_rfl)) (by decide) (fun K hK => ?_)
     refine goes_ Try.func44 (by kernel_rfl) rfl #[.agg #[.bool a0_0, .slice A0_1 l0_1.length c0_1, .int .i64 a0_2]] (by rfl) rfl rfl (by (try simp only [List.map_toArray, List.map_cons, List.map_nil]); first | done | rfl | (simp only [List.length_drop, List.length_take]; rfl)) ?_
     with_reducible refine (laws_toDyadic.calls k a0_0 _ _ l0_1 a0_2 t476 t477 t480 _ ?side1 ?side2 A43.out).mono ?_
     (case side1 => exact cB HR0_1 HB)
     (case side2 => exact HC0_1.out)
     rintro e w125 ⟨v478, rfl, ho0, hb⟩
     refine ⟨_, rfl, ?_⟩
     have HO479 := AM (Kd.R_lower (Kd.R_new' (Kd.R_new' (Kd.R_new' (Kd.R_new' (Kd.R_new' (Kd.R_new' (Kd.R_new' (Kd.R_new' ho0 (Kd.R_lt (pR HO422))) (Kd.R_lt (pR HO427))) (Kd.R_lt (pR HO432))) (Kd.R_lt (pR HO439))) (Kd.R_lt (pR HO445))) (Kd.R_lt (pR HO451))) (Kd.R_lt (pR HO459))) (Kd.R_lt (pR HO465))) (below_size (pH HB))); replace HO422 := AM (Kd.R_elder' (pR HO422) (Kd.R_base ho0) hb); replace HO427 := AM (Kd.R_elder' (pR HO427) (Kd.R_base ho0) hb); replace HO432 := AM (Kd.R_elder' (pR HO432) (Kd.R_base ho0) hb); replace HO439 := AM (Kd.R_elder' (pR HO439) (Kd.R_base ho0) hb); replace HO445 := AM (Kd.R_elder' (pR HO445) (Kd.R_base ho0) hb); replace HO451 := AM (Kd.R_elder' (pR HO451) (Kd.R_base ho0) hb); replace HO459 := AM (Kd.R_elder' (pR HO459) (Kd.R_base ho0) hb); replace HO465 := AM (Kd.R_elder' (pR HO465) (Kd.R_base ho0) hb); replace BK415 := bB BK415 hb; replace BK416 := bB BK416 hb; replace BK435 := bB BK435 hb; replace BK441 := bB BK441 hb; replace BK447 := bB BK447 hb; replace BK454 := bB BK454 hb; replace BK492 := bB BK492 hb; replace HB := AM (below_step (pH HB) hb)
     (try clear hb)
     (try clear hb2)
     (try clear hk)
     (try clear hi)
     (try clear ho0)
     refine hK.out _ _ ⟨(blk_cell BK415.out 0).trans rfl, (blk_cell BK415.out 1).trans rfl, (blk_cell BK415.out 2).trans rfl, (blk_cell BK416.out 0).trans rfl, (blk_cell BK416.out 1).trans rfl, (blk_cell BK416.out 2).trans rfl⟩ (fun hHeld => ?_)
     clear hK K
     refine norm_ (a' := ?_) ?_ ?_
     rotate_left
     · show Act.put _ (some 96) _ = _
       simp only [Act.put, sa, sb, sc, i64_w, i32_w]
       rfl
     refine one_ (i := 3) (N := some 98) #[true, true, true, true, false, false, false, false, true, false, false] rfl rfl (one_of HT_.out (by kernel_rfl)) (by decide) (fun K hK => ?_)
     refine goes_ Try.func44 (by kernel_rfl) rfl #[.agg #[.bool a1_0, .slice A1_1 l1_1.length c1_1, .int .i64 a1_2]] (by rfl) rfl rfl (by (try simp only [List.map_toArray, List.map_cons, List.map_nil]); first | done | rfl | (simp only [List.length_drop, List.length_take]; rfl)) ?_
     with_reducible refine (laws_toDyadic.calls k a1_0 _ _ l1_1 a1_2 t481 t482 t485 _ ?side1 ?side2 A44.out).mono ?_
     (case side1 => exact cB HR1_1 HB)
     (case side2 => exact HC1_1.out)
     rintro e w126 ⟨v483, rfl, ho0, hb⟩
     refine ⟨_, rfl, ?_⟩
     have HO484 := AM (Kd.R_lower (Kd.R_new' (Kd.R_new' (Kd.R_new' (Kd.R_new' (Kd.R_new' (Kd.R_new' (Kd.R_new' (Kd.R_new' (Kd.R_new' ho0 (Kd.R_lt (pR HO422))) (Kd.R_lt (pR HO427))) (Kd.R_lt (pR HO432))) (Kd.R_lt (pR HO439))) (Kd.R_lt (pR HO445))) (Kd.R_lt (pR HO451))) (Kd.R_lt (pR HO459))) (Kd.R_lt (pR HO465))) (Kd.R_lt (pR HO479))) (below_size (pH HB))); replace HO422 := AM (Kd.R_elder' (pR HO422) (Kd.R_base ho0) hb); replace HO427 := AM (Kd.R_elder' (pR HO427) (Kd.R_base ho0) hb); replace HO432 := AM (Kd.R_elder' (pR HO432) (Kd.R_base ho0) hb); replace HO439 := AM (Kd.R_elder' (pR HO439) (Kd.R_base ho0) hb); replace HO445 := AM (Kd.R_elder' (pR HO445) (Kd.R_base ho0) hb); replace HO451 := AM (Kd.R_elder' (pR HO451) (Kd.R_base ho0) hb); replace HO459 := AM (Kd.R_elder' (pR HO459) (Kd.R_base ho0) hb); replace HO465 := AM (Kd.R_elder' (pR HO465) (Kd.R_base ho0) hb); replace HO479 := AM (Kd.R_elder' (pR HO479) (Kd.R_base ho0) hb); replace BK415 := bB BK415 hb; replace BK416 := bB BK416 hb; replace BK435 := bB BK435 hb; replace BK441 := bB BK441 hb; replace BK447 := bB BK447 hb; replace BK454 := bB BK454 hb; replace BK492 := bB BK492 hb; replace HB := AM (below_step (pH HB) hb)
     (try clear hb)
     (try clear hb2)
     (try clear hk)
     (try clear hi)
     (try clear ho0)
     obtain ⟨Ao127, co127, eo127⟩ := Kd.R_slice HO479.out
     (first | subst eo127 | (injection eo127 with f1_ f2_ f3_; have f4_ := f1_.symm; have f5_ := f3_.symm; clear f1_ f2_ f3_; subst f4_; subst f5_))
     obtain ⟨Ao128, co128, eo128⟩ := Kd.R_slice HO484.out
     (first | subst eo128 | (injection eo128 with f1_ f2_ f3_; have f4_ := f1_.symm; have f5_ := f3_.symm; clear f1_ f2_ f3_; subst f4_; subst f5_))
     refine hK.out _ _ ⟨(blk_cell BK415.out 0).trans rfl, (blk_cell BK415.out 1).trans rfl, (blk_cell BK415.out 2).trans rfl, (blk_cell BK416.out 0).trans rfl, (blk_cell BK416.out 1).trans rfl, (blk_cell BK416.out 2).trans rfl⟩ (fun hHeld => ?_)
     clear hK K
     refine norm_ (a' := ?_) ?_ ?_
     rotate_left
     · show Act.put _ (some 98) _ = _
       simp only [Act.put, sa, sb, sc, i64_w, i32_w]
       rfl
     refine one_ (i := 4) (N := some 99) #[true, true, true, true, true, false, false, false, true, false, false] rfl rfl (one_of HT_.out (by kernel_rfl)) (by decide) (fun K hK => ?_)
     refine goes_ Try.func45 (by kernel_rfl) rfl #[.agg #[.bool t476, .slice Ao127 t477.length co127, .int .i64 t480], .agg #[.bool t481, .slice Ao128 t482.length co128, .int .i64 t485]] (by rfl) rfl rfl (by (try simp only [List.map_toArray, List.map_cons, List.map_nil]); first | done | rfl | (simp only [List.length_drop, List.length_take]; rfl)) ?_
     with_reducible refine (impl_DyMul.calls k t476 (fun k_ => some k_ = (.slice Ao127 t477.length co127 : Value).ownBlock) _ _ t477 t480 t481 (fun k_ => some k_ = (.slice Ao128 t482.length co128 : Value).ownBlock) _ _ t482 t485 t486 t487 t490 t491 _ ?side1 ?side2 A45.out).mono ?_
     (case side1 => exact Kd.R_V (Kd.R_tight rfl (Kd.R_types (Kd.R_types (Kd.R_types (Kd.R_types (Kd.R_types (Kd.R_types (Kd.R_types (HO479.out) BK415.out (by decide)) BK416.out (by decide)) BK435.out (by decide)) BK441.out (by decide)) BK447.out (by decide)) BK454.out (by decide)) BK492.out (by decide))))
     (case side2 => exact Kd.R_V (Kd.R_tight rfl (Kd.R_types (Kd.R_types (Kd.R_types (Kd.R_types (Kd.R_types (Kd.R_types (Kd.R_types (HO484.out) BK415.out (by decide)) BK416.out (by decide)) BK435.out (by decide)) BK441.out (by decide)) BK447.out (by decide)) BK454.out (by decide)) BK492.out (by decide))))
     rintro e w129 ⟨v488, rfl, ho0, hb⟩
     refine ⟨_, rfl, ?_⟩
     have HO489 := AM (Kd.R_lower (Kd.R_new' (Kd.R_new' (Kd.R_new' (Kd.R_new' (Kd.R_new' (Kd.R_new' (Kd.R_new' (Kd.R_new' (Kd.R_new' (Kd.R_new' (Kd.R_mono (ok' := fun k_ => True) ho0 (fun _ hk_ => trivial)) (Kd.R_lt (pR HO422))) (Kd.R_lt (pR HO427))) (Kd.R_lt (pR HO432))) (Kd.R_lt (pR HO439))) (Kd.R_lt (pR HO445))) (Kd.R_lt (pR HO451))) (Kd.R_lt (pR HO459))) (Kd.R_lt (pR HO465))) (Kd.R_lt (pR HO479))) (Kd.R_lt (pR HO484))) (below_size (pH HB))); replace HO422 := AM (Kd.R_elder' (pR HO422) (Kd.R_base ho0) hb); replace HO427 := AM (Kd.R_elder' (pR HO427) (Kd.R_base ho0) hb); replace HO432 := AM (Kd.R_elder' (pR HO432) (Kd.R_base ho0) hb); replace HO439 := AM (Kd.R_elder' (pR HO439) (Kd.R_base ho0) hb); replace HO445 := AM (Kd.R_elder' (pR HO445) (Kd.R_base ho0) hb); replace HO451 := AM (Kd.R_elder' (pR HO451) (Kd.R_base ho0) hb); replace HO459 := AM (Kd.R_elder' (pR HO459) (Kd.R_base ho0) hb); replace HO465 := AM (Kd.R_elder' (pR HO465) (Kd.R_base ho0) hb); replace HO479 := AM (Kd.R_elder' (pR HO479) (Kd.R_base ho0) hb); replace HO484 := AM (Kd.R_elder' (pR HO484) (Kd.R_base ho0) hb); replace BK415 := bB BK415 hb; replace BK416 := bB BK416 hb; replace BK435 := bB BK435 hb; replace BK441 := bB BK441 hb; replace BK447 := bB BK447 hb; replace BK454 := bB BK454 hb; replace BK492 := bB BK492 hb; replace HB := AM (below_step (pH HB) hb)
     (try clear hb)
     (try clear hb2)
     (try clear hk)
     (try clear hi)
     (try clear ho0)
     refine hK.out _ _ ⟨(blk_cell BK415.out 0).trans rfl, (blk_cell BK415.out 1).trans rfl, (blk_cell BK415.out 2).trans rfl, (blk_cell BK416.out 0).trans rfl, (blk_cell BK416.out 1).trans rfl, (blk_cell BK416.out 2).trans rfl⟩ (fun hHeld => ?_)
     clear hK K
     refine norm_ (a' := ?_) ?_ ?_
     rotate_left
     · show Act.put _ (some 99) _ = _
       simp only [Act.put, sa, sb, sc, i64_w, i32_w]
       rfl
     refine pure_ (i := 5) (N := some 94) (v := ?_) (a' := ?_) #[true, true, true, true, true, true, false, false, true, false, false] rfl rfl (any_of HT_.out (by kernel_rfl)) (fun _ _ _ h => h) (Or.inl ⟨by rfl, ?_⟩) ?_ ?_
     rotate_left
     · intro w'
       go_simp
       with_reducible rfl
     rotate_left
     · simp only [Act.put, sa, sb, sc, i64_w, i32_w]
       rfl
     refine pure_ (i := 6) (N := some 100) (v := ?_) (a' := ?_) #[true, true, true, true, true, true, true, false, true, false, false] rfl rfl (any_of HT_.out (by kernel_rfl)) (fun _ _ _ h => h) (Or.inl ⟨by rfl, ?_⟩) ?_ ?_
     rotate_left
     · intro w'
       go_simp
       with_reducible rfl
     rotate_left
     · simp only [Act.put, sa, sb, sc, i64_w, i32_w]
       rfl
     refine pure_ (i := 7) (N := some 101) (v := ?_) (a' := ?_) #[true, true, true, true, true, true, true, true, true, false, false] rfl rfl (any_of HT_.out (by kernel_rfl)) (fun _ _ _ h => h) (Or.inl ⟨by rfl, ?_⟩) ?_ ?_
     rotate_left
     · intro w'
       go_simp
       with_reducible rfl
     rotate_left
     · simp only [Act.put, sa, sb, sc, i64_w, i32_w]
       rfl
     exact norm_ (by simp only [putAll, Act.put, sa, sb, sc]) (hCont (.slice Ao127 t477.length co127, .slice Ao128 t482.length co128, v488, gb492) _ ⟨hHeld, (by (with_reducible repeat (first | apply Kd.R_alloc | apply Kd.R_drewN | apply Kd.R_drew)); exact Kd.R_mono HO422.out (fun _ hk => ⟨hk.1.1.1.1, ⟨hk.1.1.1.2.1, ⟨hk.1.1.1.2.2.1, ⟨hk.1.1.1.2.2.2.1, ⟨hk.1.1.1.2.2.2.2.1, ⟨hk.1.1.1.2.2.2.2.2.1, ⟨hk.1.1.1.2.2.2.2.2.2, ⟨hk.1.1.2, ⟨hk.1.2, hk.2⟩⟩⟩⟩⟩⟩⟩⟩⟩)), (by (with_reducible repeat (first | apply Kd.R_alloc | apply Kd.R_drewN | apply Kd.R_drew)); exact Kd.R_mono HO427.out (fun _ hk => ⟨hk.1.1.1.1, ⟨hk.1.1.1.2.1, ⟨hk.1.1.1.2.2.1, ⟨hk.1.1.1.2.2.2.1, ⟨hk.1.1.1.2.2.2.2.1, ⟨hk.1.1.1.2.2.2.2.2.1, ⟨hk.1.1.1.2.2.2.2.2.2, ⟨hk.1.1.2, ⟨hk.1.2, hk.2⟩⟩⟩⟩⟩⟩⟩⟩⟩)), (by (with_reducible repeat (first | apply Kd.R_alloc | apply Kd.R_drewN | apply Kd.R_drew)); exact Kd.R_mono HO432.out (fun _ hk => ⟨hk.1.1.1.1, ⟨hk.1.1.1.2.1, ⟨hk.1.1.1.2.2.1, ⟨hk.1.1.1.2.2.2.1, ⟨hk.1.1.1.2.2.2.2.1, ⟨hk.1.1.1.2.2.2.2.2.1, ⟨hk.1.1.1.2.2.2.2.2.2, ⟨hk.1.1.2, ⟨hk.1.2, hk.2⟩⟩⟩⟩⟩⟩⟩⟩⟩)), (by (with_reducible repeat (first | apply Kd.R_alloc | apply Kd.R_drewN | apply Kd.R_drew)); exact Kd.R_mono HO439.out (fun _ hk => ⟨hk.1.1.1.1, ⟨hk.1.1.1.2.1, ⟨hk.1.1.1.2.2.1, ⟨hk.1.1.1.2.2.2.1, ⟨hk.1.1.1.2.2.2.2.1, ⟨hk.1.1.1.2.2.2.2.2.1, ⟨hk.1.1.1.2.2.2.2.2.2, ⟨hk.1.1.2, ⟨hk.1.2, hk.2⟩⟩⟩⟩⟩⟩⟩⟩⟩)), (by (with_reducible repeat (first | apply Kd.R_alloc | apply Kd.R_drewN | apply Kd.R_drew)); exact Kd.R_mono HO445.out (fun _ hk => ⟨hk.1.1.1.1, ⟨hk.1.1.1.2.1, ⟨hk.1.1.1.2.2.1, ⟨hk.1.1.1.2.2.2.1, ⟨hk.1.1.1.2.2.2.2.1, ⟨hk.1.1.1.2.2.2.2.2.1, ⟨hk.1.1.1.2.2.2.2.2.2, ⟨hk.1.1.2, ⟨hk.1.2, hk.2⟩⟩⟩⟩⟩⟩⟩⟩⟩)), (by (with_reducible repeat (first | apply Kd.R_alloc | apply Kd.R_drewN | apply Kd.R_drew)); exact Kd.R_mono HO451.out (fun _ hk => ⟨hk.1.1.1.1, ⟨hk.1.1.1.2.1, ⟨hk.1.1.1.2.2.1, ⟨hk.1.1.1.2.2.2.1, ⟨hk.1.1.1.2.2.2.2.1, ⟨hk.1.1.1.2.2.2.2.2.1, ⟨hk.1.1.1.2.2.2.2.2.2, ⟨hk.1.1.2, ⟨hk.1.2, hk.2⟩⟩⟩⟩⟩⟩⟩⟩⟩)), (by (with_reducible repeat (first | apply Kd.R_alloc | apply Kd.R_drewN | apply Kd.R_drew)); exact Kd.R_mono HO459.out (fun _ hk => ⟨hk.1.1.1.1, ⟨hk.1.1.1.2.1, ⟨hk.1.1.1.2.2.1, ⟨hk.1.1.1.2.2.2.1, ⟨hk.1.1.1.2.2.2.2.1, ⟨hk.1.1.1.2.2.2.2.2.1, ⟨hk.1.1.1.2.2.2.2.2.2, ⟨hk.1.1.2, ⟨hk.1.2, hk.2⟩⟩⟩⟩⟩⟩⟩⟩⟩)), (by (with_reducible repeat (first | apply Kd.R_alloc | apply Kd.R_drewN | apply Kd.R_drew)); exact Kd.R_mono HO465.out (fun _ hk => ⟨hk.1.1.1.1, ⟨hk.1.1.1.2.1, ⟨hk.1.1.1.2.2.1, ⟨hk.1.1.1.2.2.2.1, ⟨hk.1.1.1.2.2.2.2.1, ⟨hk.1.1.1.2.2.2.2.2.1, ⟨hk.1.1.1.2.2.2.2.2.2, ⟨hk.1.1.2, ⟨hk.1.2, hk.2⟩⟩⟩⟩⟩⟩⟩⟩⟩)), (by (with_reducible repeat (first | apply Kd.R_alloc | apply Kd.R_drewN | apply Kd.R_drew)); exact Kd.R_mono HO479.out (fun _ hk => ⟨hk.1.1.1.1.1.1.1.1.1.2, ⟨hk.1.1.1.1.1.1.1.1.2, ⟨hk.1.1.1.1.1.1.1.2, ⟨hk.1.1.1.1.1.1.2, ⟨hk.1.1.1.1.1.2, ⟨hk.1.1.1.1.2, ⟨hk.1.1.1.2, ⟨hk.1.1.2, ⟨hk.1.2, hk.2⟩⟩⟩⟩⟩⟩⟩⟩⟩)), (by (with_reducible repeat (first | apply Kd.R_alloc | apply Kd.R_drewN | apply Kd.R_drew)); exact Kd.R_mono HO484.out (fun _ hk => ⟨hk.1.1.1.1.1.1.1.1.1.2, ⟨hk.1.1.1.1.1.1.1.1.2, ⟨hk.1.1.1.1.1.1.1.2, ⟨hk.1.1.1.1.1.1.2, ⟨hk.1.1.1.1.1.2, ⟨hk.1.1.1.1.2, ⟨hk.1.1.1.2, ⟨hk.1.1.2, ⟨hk.1.2, hk.2⟩⟩⟩⟩⟩⟩⟩⟩⟩)), (by (with_reducible repeat (first | apply Kd.R_alloc | apply Kd.R_drewN | apply Kd.R_drew)); exact Kd.R_mono HO489.out (fun _ hk => ⟨hk.1.1.1.1.1.1.1.1.1.2, ⟨hk.1.1.1.1.1.1.1.1.2, ⟨hk.1.1.1.1.1.1.1.2, ⟨hk.1.1.1.1.1.1.2, ⟨hk.1.1.1.1.1.2, ⟨hk.1.1.1.1.2, ⟨hk.1.1.1.2, ⟨hk.1.1.2, ⟨hk.1.2, hk.2⟩⟩⟩⟩⟩⟩⟩⟩⟩)), (pB BK415), (pB BK416), (pB BK435), (pB BK441), (pB BK447), (pB BK454), (pB BK492), GW492.out, GE492.out, NB415_492.out, NB492_415.out, NB416_492.out, NB492_416.out, NB435_492.out, NB492_435.out, NB441_492.out, NB492_441.out, NB447_492.out, NB492_447.out, NB454_492.out, NB492_454.out, (pH HB)⟩)
   skip
   refine goes_ Try.func44 (by kernel_rfl) rfl #[.agg #[.bool a0_0, .slice A0_1 l0_1.length c0_1, .int .i64 a0_2]] (by rfl) rfl rfl (by (try simp only [List.map_toArray, List.map_cons, List.map_nil]); first | done | rfl | (simp only [List.length_drop, List.length_take]; rfl)) ?_
   with_reducible refine (laws_toDyadic.calls k a0_0 _ _ l0_1 a0_2 t476 t477 t480 _ ?side1 ?side2 A43.out).mono ?_
   (case side1 => exact cB HR0_1 HB)
   (case side2 => exact HC0_1.out)
   rintro e w124 ⟨v478, rfl, ho0, hb⟩
   refine ⟨_, rfl, ?_⟩
   have HO479 := AM (Kd.R_lower (Kd.R_new' (Kd.R_new' (Kd.R_new' (Kd.R_new' (Kd.R_new' (Kd.R_new' (Kd.R_new' (Kd.R_new' ho0 (Kd.R_lt (pR HO422))) (Kd.R_lt (pR HO427))) (Kd.R_lt (pR HO432))) (Kd.R_lt (pR HO439))) (Kd.R_lt (pR HO445))) (Kd.R_lt (pR HO451))) (Kd.R_lt (pR HO459))) (Kd.R_lt (pR HO465))) (below_size (pH HB))); replace HO422 := AM (Kd.R_elder' (pR HO422) (Kd.R_base ho0) hb); replace HO427 := AM (Kd.R_elder' (pR HO427) (Kd.R_base ho0) hb); replace HO432 := AM (Kd.R_elder' (pR HO432) (Kd.R_base ho0) hb); replace HO439 := AM (Kd.R_elder' (pR HO439) (Kd.R_base ho0) hb); replace HO445 := AM (Kd.R_elder' (pR HO445) (Kd.R_base ho0) hb); replace HO451 := AM (Kd.R_elder' (pR HO451) (Kd.R_base ho0) hb); replace HO459 := AM (Kd.R_elder' (pR HO459) (Kd.R_base ho0) hb); replace HO465 := AM (Kd.R_elder' (pR HO465) (Kd.R_base ho0) hb); replace BK415 := bB BK415 hb; replace BK416 := bB BK416 hb; replace BK435 := bB BK435 hb; replace BK441 := bB BK441 hb; replace BK447 := bB BK447 hb; replace BK454 := bB BK454 hb; replace HB := AM (below_step (pH HB) hb)
   (try clear hb)
   (try clear hb2)
   (try clear hk)
   (try clear hi)
   (try clear ho0)
   refine hK.out _ _ ⟨(blk_cell BK415.out 0).trans rfl, (blk_cell BK415.out 1).trans rfl, (blk_cell BK415.out 2).trans rfl, (blk_cell BK416.out 0).trans rfl, (blk_cell BK416.out 1).trans rfl, (blk_cell BK416.out 2).trans rfl⟩ (fun hHeld => ?_)
   clear hK K
   refine norm_ (a' := ?_) ?_ ?_
   rotate_left
   · show Act.put _ (some 96) _ = _
     simp only [Act.put, sa, sb, sc, i64_w, i32_w]
     rfl
   refine two_ (i := 3) (j := 8) (Ni := some 98) (Nj := some 15) #[true, true, true, true, false, false, false, false, false, false, false] #[true, true, true, false, false, false, false, false, true, false, false] rfl rfl rfl rfl (two_of HT_.out (by kernel_rfl)) (by decide) (by decide) (fun K hK => ?_) (fun K hK => ?_)
   rotate_left
   · skip
     refine box_step ?hg (N := 15) ?hd (cs := #[.bool false, .slice none 0 0, .int .i64 0]) (t := 77) ?hr ?_; (case hd => rfl); (case hg => rfl); (case hr => first | (go_simp; done) | (go_simp; rfl))
     intro gb492 hg w125 hbox hb
     replace HO422 := AM (Kd.R_below (pR HO422) hb); replace HO427 := AM (Kd.R_below (pR HO427) hb); replace HO432 := AM (Kd.R_below (pR HO432) hb); replace HO439 := AM (Kd.R_below (pR HO439) hb); replace HO445 := AM (Kd.R_below (pR HO445) hb); replace HO451 := AM (Kd.R_below (pR HO451) hb); replace HO459 := AM (Kd.R_below (pR HO459) hb); replace HO465 := AM (Kd.R_below (pR HO465) hb); replace HO479 := AM (Kd.R_below (pR HO479) hb); have BK492 := AM (hbox); have GW492 := gH HB hg; have GE492 := gH HB hg; replace HB := AM (below_step (pH HB) hb); have NB415_492 := nL BK415 hg; have NB492_415 := nG BK415 hg; replace BK415 := bB BK415 hb; have NB416_492 := nL BK416 hg; have NB492_416 := nG BK416 hg; replace BK416 := bB BK416 hb; have NB435_492 := nL BK435 hg; have NB492_435 := nG BK435 hg; replace BK435 := bB BK435 hb; have NB441_492 := nL BK441 hg; have NB492_441 := nG BK441 hg; replace BK441 := bB BK441 hb; have NB447_492 := nL BK447 hg; have NB492_447 := nG BK447 hg; replace BK447 := bB BK447 hb; have NB454_492 := nL BK454 hg; have NB492_454 := nG BK454 hg; replace BK454 := bB BK454 hb; clear hb hbox hg
     refine hK.out _ _ ⟨(blk_cell BK415.out 0).trans rfl, (blk_cell BK415.out 1).trans rfl, (blk_cell BK415.out 2).trans rfl, (blk_cell BK416.out 0).trans rfl, (blk_cell BK416.out 1).trans rfl, (blk_cell BK416.out 2).trans rfl⟩ (fun hHeld => ?_)
     clear hK K
     refine norm_ (a' := ?_) ?_ ?_
     rotate_left
     · show Act.put _ (some 15) _ = _
       simp only [Act.put, sa, sb, sc, i64_w, i32_w]
       rfl
     refine one_ (i := 3) (N := some 98) #[true, true, true, true, false, false, false, false, true, false, false] rfl rfl (one_of HT_.out (by kernel_rfl)) (by decide) (fun K hK => ?_)
     refine goes_ Try.func44 (by kernel_rfl) rfl #[.agg #[.bool a1_0, .slice A1_1 l1_1.length c1_1, .int .i64 a1_2]] (by rfl) rfl rfl (by (try simp only [List.map_toArray, List.map_cons, List.map_nil]); first | done | rfl | (simp only [List.length_drop, List.length_take]; rfl)) ?_
     with_reducible refine (laws_toDyadic.calls k a1_0 _ _ l1_1 a1_2 t481 t482 t485 _ ?side1 ?side2 A44.out).mono ?_
     (case side1 => exact cB HR1_1 HB)
     (case side2 => exact HC1_1.out)
     rintro e w126 ⟨v483, rfl, ho0, hb⟩
     refine ⟨_, rfl, ?_⟩
     have HO484 := AM (Kd.R_lower (Kd.R_new' (Kd.R_new' (Kd.R_new' (Kd.R_new' (Kd.R_new' (Kd.R_new' (Kd.R_new' (Kd.R_new' (Kd.R_new' ho0 (Kd.R_lt (pR HO422))) (Kd.R_lt (pR HO427))) (Kd.R_lt (pR HO432))) (Kd.R_lt (pR HO439))) (Kd.R_lt (pR HO445))) (Kd.R_lt (pR HO451))) (Kd.R_lt (pR HO459))) (Kd.R_lt (pR HO465))) (Kd.R_lt (pR HO479))) (below_size (pH HB))); replace HO422 := AM (Kd.R_elder' (pR HO422) (Kd.R_base ho0) hb); replace HO427 := AM (Kd.R_elder' (pR HO427) (Kd.R_base ho0) hb); replace HO432 := AM (Kd.R_elder' (pR HO432) (Kd.R_base ho0) hb); replace HO439 := AM (Kd.R_elder' (pR HO439) (Kd.R_base ho0) hb); replace HO445 := AM (Kd.R_elder' (pR HO445) (Kd.R_base ho0) hb); replace HO451 := AM (Kd.R_elder' (pR HO451) (Kd.R_base ho0) hb); replace HO459 := AM (Kd.R_elder' (pR HO459) (Kd.R_base ho0) hb); replace HO465 := AM (Kd.R_elder' (pR HO465) (Kd.R_base ho0) hb); replace HO479 := AM (Kd.R_elder' (pR HO479) (Kd.R_base ho0) hb); replace BK415 := bB BK415 hb; replace BK416 := bB BK416 hb; replace BK435 := bB BK435 hb; replace BK441 := bB BK441 hb; replace BK447 := bB BK447 hb; replace BK454 := bB BK454 hb; replace BK492 := bB BK492 hb; replace HB := AM (below_step (pH HB) hb)
     (try clear hb)
     (try clear hb2)
     (try clear hk)
     (try clear hi)
     (try clear ho0)
     obtain ⟨Ao127, co127, eo127⟩ := Kd.R_slice HO479.out
     (first | subst eo127 | (injection eo127 with f1_ f2_ f3_; have f4_ := f1_.symm; have f5_ := f3_.symm; clear f1_ f2_ f3_; subst f4_; subst f5_))
     obtain ⟨Ao128, co128, eo128⟩ := Kd.R_slice HO484.out
     (first | subst eo128 | (injection eo128 with f1_ f2_ f3_; have f4_ := f1_.symm; have f5_ := f3_.symm; clear f1_ f2_ f3_; subst f4_; subst f5_))
     refine hK.out _ _ ⟨(blk_cell BK415.out 0).trans rfl, (blk_cell BK415.out 1).trans rfl, (blk_cell BK415.out 2).trans rfl, (blk_cell BK416.out 0).trans rfl, (blk_cell BK416.out 1).trans rfl, (blk_cell BK416.out 2).trans rfl⟩ (fun hHeld => ?_)
     clear hK K
     refine norm_ (a' := ?_) ?_ ?_
     rotate_left
     · show Act.put _ (some 98) _ = _
       simp only [Act.put, sa, sb, sc, i64_w, i32_w]
       rfl
     refine one_ (i := 4) (N := some 99) #[true, true, true, true, true, false, false, false, true, false, false] rfl rfl (one_of HT_.out (by kernel_rfl)) (by decide) (fun K hK => ?_)
     refine goes_ Try.func45 (by kernel_rfl) rfl #[.agg #[.bool t476, .slice Ao127 t477.length co127, .int .i64 t480], .agg #[.bool t481, .slice Ao128 t482.length co128, .int .i64 t485]] (by rfl) rfl rfl (by (try simp only [List.map_toArray, List.map_cons, List.map_nil]); first | done | rfl | (simp only [List.length_drop, List.length_take]; rfl)) ?_
     with_reducible refine (impl_DyMul.calls k t476 (fun k_ => some k_ = (.slice Ao127 t477.length co127 : Value).ownBlock) _ _ t477 t480 t481 (fun k_ => some k_ = (.slice Ao128 t482.length co128 : Value).ownBlock) _ _ t482 t485 t486 t487 t490 t491 _ ?side1 ?side2 A45.out).mono ?_
     (case side1 => exact Kd.R_V (Kd.R_tight rfl (Kd.R_types (Kd.R_types (Kd.R_types (Kd.R_types (Kd.R_types (Kd.R_types (Kd.R_types (HO479.out) BK415.out (by decide)) BK416.out (by decide)) BK435.out (by decide)) BK441.out (by decide)) BK447.out (by decide)) BK454.out (by decide)) BK492.out (by decide))))
     (case side2 => exact Kd.R_V (Kd.R_tight rfl (Kd.R_types (Kd.R_types (Kd.R_types (Kd.R_types (Kd.R_types (Kd.R_types (Kd.R_types (HO484.out) BK415.out (by decide)) BK416.out (by decide)) BK435.out (by decide)) BK441.out (by decide)) BK447.out (by decide)) BK454.out (by decide)) BK492.out (by decide))))
     rintro e w129 ⟨v488, rfl, ho0, hb⟩
     refine ⟨_, rfl, ?_⟩
     have HO489 := AM (Kd.R_lower (Kd.R_new' (Kd.R_new' (Kd.R_new' (Kd.R_new' (Kd.R_new' (Kd.R_new' (Kd.R_new' (Kd.R_new' (Kd.R_new' (Kd.R_new' (Kd.R_mono (ok' := fun k_ => True) ho0 (fun _ hk_ => trivial)) (Kd.R_lt (pR HO422))) (Kd.R_lt (pR HO427))) (Kd.R_lt (pR HO432))) (Kd.R_lt (pR HO439))) (Kd.R_lt (pR HO445))) (Kd.R_lt (pR HO451))) (Kd.R_lt (pR HO459))) (Kd.R_lt (pR HO465))) (Kd.R_lt (pR HO479))) (Kd.R_lt (pR HO484))) (below_size (pH HB))); replace HO422 := AM (Kd.R_elder' (pR HO422) (Kd.R_base ho0) hb); replace HO427 := AM (Kd.R_elder' (pR HO427) (Kd.R_base ho0) hb); replace HO432 := AM (Kd.R_elder' (pR HO432) (Kd.R_base ho0) hb); replace HO439 := AM (Kd.R_elder' (pR HO439) (Kd.R_base ho0) hb); replace HO445 := AM (Kd.R_elder' (pR HO445) (Kd.R_base ho0) hb); replace HO451 := AM (Kd.R_elder' (pR HO451) (Kd.R_base ho0) hb); replace HO459 := AM (Kd.R_elder' (pR HO459) (Kd.R_base ho0) hb); replace HO465 := AM (Kd.R_elder' (pR HO465) (Kd.R_base ho0) hb); replace HO479 := AM (Kd.R_elder' (pR HO479) (Kd.R_base ho0) hb); replace HO484 := AM (Kd.R_elder' (pR HO484) (Kd.R_base ho0) hb); replace BK415 := bB BK415 hb; replace BK416 := bB BK416 hb; replace BK435 := bB BK435 hb; replace BK441 := bB BK441 hb; replace BK447 := bB BK447 hb; replace BK454 := bB BK454 hb; replace BK492 := bB BK492 hb; replace HB := AM (below_step (pH HB) hb)
     (try clear hb)
     (try clear hb2)
     (try clear hk)
     (try clear hi)
     (try clear ho0)
     refine hK.out _ _ ⟨(blk_cell BK415.out 0).trans rfl, (blk_cell BK415.out 1).trans rfl, (blk_cell BK415.out 2).trans rfl, (blk_cell BK416.out 0).trans rfl, (blk_cell BK416.out 1).trans rfl, (blk_cell BK416.out 2).trans rfl⟩ (fun hHeld => ?_)
     clear hK K
     refine norm_ (a' := ?_) ?_ ?_
     rotate_left
     · show Act.put _ (some 99) _ = _
       simp only [Act.put, sa, sb, sc, i64_w, i32_w]
       rfl
     refine pure_ (i := 5) (N := some 94) (v := ?_) (a' := ?_) #[true, true, true, true, true, true, false, false, true, false, false] rfl rfl (any_of HT_.out (by kernel_rfl)) (fun _ _ _ h => h) (Or.inl ⟨by rfl, ?_⟩) ?_ ?_
     rotate_left
     · intro w'
       go_simp
       with_reducible rfl
     rotate_left
     · simp only [Act.put, sa, sb, sc, i64_w, i32_w]
       rfl
     refine pure_ (i := 6) (N := some 100) (v := ?_) (a' := ?_) #[true, true, true, true, true, true, true, false, true, false, false] rfl rfl (any_of HT_.out (by kernel_rfl)) (fun _ _ _ h => h) (Or.inl ⟨by rfl, ?_⟩) ?_ ?_
     rotate_left
     · intro w'
       go_simp
       with_reducible rfl
     rotate_left
     · simp only [Act.put, sa, sb, sc, i64_w, i32_w]
       rfl
     refine pure_ (i := 7) (N := some 101) (v := ?_) (a' := ?_) #[true, true, true, true, true, true, true, true, true, false, false] rfl rfl (any_of HT_.out (by kernel_rfl)) (fun _ _ _ h => h) (Or.inl ⟨by rfl, ?_⟩) ?_ ?_
     rotate_left
     · intro w'
       go_simp
       with_reducible rfl
     rotate_left
     · simp only [Act.put, sa, sb, sc, i64_w, i32_w]
       rfl
     exact norm_ (by simp only [putAll, Act.put, sa, sb, sc]) (hCont (.slice Ao127 t477.length co127, .slice Ao128 t482.length co128, v488, gb492) _ ⟨hHeld, (by (with_reducible repeat (first | apply Kd.R_alloc | apply Kd.R_drewN | apply Kd.R_drew)); exact Kd.R_mono HO422.out (fun _ hk => ⟨hk.1.1.1.1, ⟨hk.1.1.1.2.1, ⟨hk.1.1.1.2.2.1, ⟨hk.1.1.1.2.2.2.1, ⟨hk.1.1.1.2.2.2.2.1, ⟨hk.1.1.1.2.2.2.2.2.1, ⟨hk.1.1.1.2.2.2.2.2.2, ⟨hk.1.1.2, ⟨hk.1.2, hk.2⟩⟩⟩⟩⟩⟩⟩⟩⟩)), (by (with_reducible repeat (first | apply Kd.R_alloc | apply Kd.R_drewN | apply Kd.R_drew)); exact Kd.R_mono HO427.out (fun _ hk => ⟨hk.1.1.1.1, ⟨hk.1.1.1.2.1, ⟨hk.1.1.1.2.2.1, ⟨hk.1.1.1.2.2.2.1, ⟨hk.1.1.1.2.2.2.2.1, ⟨hk.1.1.1.2.2.2.2.2.1, ⟨hk.1.1.1.2.2.2.2.2.2, ⟨hk.1.1.2, ⟨hk.1.2, hk.2⟩⟩⟩⟩⟩⟩⟩⟩⟩)), (by (with_reducible repeat (first | apply Kd.R_alloc | apply Kd.R_drewN | apply Kd.R_drew)); exact Kd.R_mono HO432.out (fun _ hk => ⟨hk.1.1.1.1, ⟨hk.1.1.1.2.1, ⟨hk.1.1.1.2.2.1, ⟨hk.1.1.1.2.2.2.1, ⟨hk.1.1.1.2.2.2.2.1, ⟨hk.1.1.1.2.2.2.2.2.1, ⟨hk.1.1.1.2.2.2.2.2.2, ⟨hk.1.1.2, ⟨hk.1.2, hk.2⟩⟩⟩⟩⟩⟩⟩⟩⟩)), (by (with_reducible repeat (first | apply Kd.R_alloc | apply Kd.R_drewN | apply Kd.R_drew)); exact Kd.R_mono HO439.out (fun _ hk => ⟨hk.1.1.1.1, ⟨hk.1.1.1.2.1, ⟨hk.1.1.1.2.2.1, ⟨hk.1.1.1.2.2.2.1, ⟨hk.1.1.1.2.2.2.2.1, ⟨hk.1.1.1.2.2.2.2.2.1, ⟨hk.1.1.1.2.2.2.2.2.2, ⟨hk.1.1.2, ⟨hk.1.2, hk.2⟩⟩⟩⟩⟩⟩⟩⟩⟩)), (by (with_reducible repeat (first | apply Kd.R_alloc | apply Kd.R_drewN | apply Kd.R_drew)); exact Kd.R_mono HO445.out (fun _ hk => ⟨hk.1.1.1.1, ⟨hk.1.1.1.2.1, ⟨hk.1.1.1.2.2.1, ⟨hk.1.1.1.2.2.2.1, ⟨hk.1.1.1.2.2.2.2.1, ⟨hk.1.1.1.2.2.2.2.2.1, ⟨hk.1.1.1.2.2.2.2.2.2, ⟨hk.1.1.2, ⟨hk.1.2, hk.2⟩⟩⟩⟩⟩⟩⟩⟩⟩)), (by (with_reducible repeat (first | apply Kd.R_alloc | apply Kd.R_drewN | apply Kd.R_drew)); exact Kd.R_mono HO451.out (fun _ hk => ⟨hk.1.1.1.1, ⟨hk.1.1.1.2.1, ⟨hk.1.1.1.2.2.1, ⟨hk.1.1.1.2.2.2.1, ⟨hk.1.1.1.2.2.2.2.1, ⟨hk.1.1.1.2.2.2.2.2.1, ⟨hk.1.1.1.2.2.2.2.2.2, ⟨hk.1.1.2, ⟨hk.1.2, hk.2⟩⟩⟩⟩⟩⟩⟩⟩⟩)), (by (with_reducible repeat (first | apply Kd.R_alloc | apply Kd.R_drewN | apply Kd.R_drew)); exact Kd.R_mono HO459.out (fun _ hk => ⟨hk.1.1.1.1, ⟨hk.1.1.1.2.1, ⟨hk.1.1.1.2.2.1, ⟨hk.1.1.1.2.2.2.1, ⟨hk.1.1.1.2.2.2.2.1, ⟨hk.1.1.1.2.2.2.2.2.1, ⟨hk.1.1.1.2.2.2.2.2.2, ⟨hk.1.1.2, ⟨hk.1.2, hk.2⟩⟩⟩⟩⟩⟩⟩⟩⟩)), (by (with_reducible repeat (first | apply Kd.R_alloc | apply Kd.R_drewN | apply Kd.R_drew)); exact Kd.R_mono HO465.out (fun _ hk => ⟨hk.1.1.1.1, ⟨hk.1.1.1.2.1, ⟨hk.1.1.1.2.2.1, ⟨hk.1.1.1.2.2.2.1, ⟨hk.1.1.1.2.2.2.2.1, ⟨hk.1.1.1.2.2.2.2.2.1, ⟨hk.1.1.1.2.2.2.2.2.2, ⟨hk.1.1.2, ⟨hk.1.2, hk.2⟩⟩⟩⟩⟩⟩⟩⟩⟩)), (by (with_reducible repeat (first | apply Kd.R_alloc | apply Kd.R_drewN | apply Kd.R_drew)); exact Kd.R_mono HO479.out (fun _ hk => ⟨hk.1.1.1.1.1.1.1.1.1.2, ⟨hk.1.1.1.1.1.1.1.1.2, ⟨hk.1.1.1.1.1.1.1.2, ⟨hk.1.1.1.1.1.1.2, ⟨hk.1.1.1.1.1.2, ⟨hk.1.1.1.1.2, ⟨hk.1.1.1.2, ⟨hk.1.1.2, ⟨hk.1.2, hk.2⟩⟩⟩⟩⟩⟩⟩⟩⟩)), (by (with_reducible repeat (first | apply Kd.R_alloc | apply Kd.R_drewN | apply Kd.R_drew)); exact Kd.R_mono HO484.out (fun _ hk => ⟨hk.1.1.1.1.1.1.1.1.1.2, ⟨hk.1.1.1.1.1.1.1.1.2, ⟨hk.1.1.1.1.1.1.1.2, ⟨hk.1.1.1.1.1.1.2, ⟨hk.1.1.1.1.1.2, ⟨hk.1.1.1.1.2, ⟨hk.1.1.1.2, ⟨hk.1.1.2, ⟨hk.1.2, hk.2⟩⟩⟩⟩⟩⟩⟩⟩⟩)), (by (with_reducible repeat (first | apply Kd.R_alloc | apply Kd.R_drewN | apply Kd.R_drew)); exact Kd.R_mono HO489.out (fun _ hk => ⟨hk.1.1.1.1.1.1.1.1.1.2, ⟨hk.1.1.1.1.1.1.1.1.2, ⟨hk.1.1.1.1.1.1.1.2, ⟨hk.1.1.1.1.1.1.2, ⟨hk.1.1.1.1.1.2, ⟨hk.1.1.1.1.2, ⟨hk.1.1.1.2, ⟨hk.1.1.2, ⟨hk.1.2, hk.2⟩⟩⟩⟩⟩⟩⟩⟩⟩)), (pB BK415), (pB BK416), (pB BK435), (pB BK441), (pB BK447), (pB BK454), (pB BK492), GW492.out, GE492.out, NB415_492.out, NB492_415.out, NB416_492.out, NB492_416.out, NB435_492.out, NB492_435.out, NB441_492.out, NB492_441.out, NB447_492.out, NB492_447.out, NB454_492.out, NB492_454.out, (pH HB)⟩)
   skip
   refine goes_ Try.func44 (by kernel_rfl) rfl #[.agg #[.bool a1_0, .slice A1_1 l1_1.length c1_1, .int .i64 a1_2]] (by rfl) rfl rfl (by (try simp only [List.map_toArray, List.map_cons, List.map_nil]); first | done | rfl | (simp only [List.length_drop, List.length_take]; rfl)) ?_
   with_reducible refine (laws_toDyadic.calls k a1_0 _ _ l1_1 a1_2 t481 t482 t485 _ ?side1 ?side2 A44.out).mono ?_
   (case side1 => exact cB HR1_1 HB)
   (case side2 => exact HC1_1.out)
   rintro e w125 ⟨v483, rfl, ho0, hb⟩
   refine ⟨_, rfl, ?_⟩
   have HO484 := AM (Kd.R_lower (Kd.R_new' (Kd.R_new' (Kd.R_new' (Kd.R_new' (Kd.R_new' (Kd.R_new' (Kd.R_new' (Kd.R_new' (Kd.R_new' ho0 (Kd.R_lt (pR HO422))) (Kd.R_lt (pR HO427))) (Kd.R_lt (pR HO432))) (Kd.R_lt (pR HO439))) (Kd.R_lt (pR HO445))) (Kd.R_lt (pR HO451))) (Kd.R_lt (pR HO459))) (Kd.R_lt (pR HO465))) (Kd.R_lt (pR HO479))) (below_size (pH HB))); replace HO422 := AM (Kd.R_elder' (pR HO422) (Kd.R_base ho0) hb); replace HO427 := AM (Kd.R_elder' (pR HO427) (Kd.R_base ho0) hb); replace HO432 := AM (Kd.R_elder' (pR HO432) (Kd.R_base ho0) hb); replace HO439 := AM (Kd.R_elder' (pR HO439) (Kd.R_base ho0) hb); replace HO445 := AM (Kd.R_elder' (pR HO445) (Kd.R_base ho0) hb); replace HO451 := AM (Kd.R_elder' (pR HO451) (Kd.R_base ho0) hb); replace HO459 := AM (Kd.R_elder' (pR HO459) (Kd.R_base ho0) hb); replace HO465 := AM (Kd.R_elder' (pR HO465) (Kd.R_base ho0) hb); replace HO479 := AM (Kd.R_elder' (pR HO479) (Kd.R_base ho0) hb); replace BK415 := bB BK415 hb; replace BK416 := bB BK416 hb; replace BK435 := bB BK435 hb; replace BK441 := bB BK441 hb; replace BK447 := bB BK447 hb; replace BK454 := bB BK454 hb; replace HB := AM (below_step (pH HB) hb)
   (try clear hb)
   (try clear hb2)
   (try clear hk)
   (try clear hi)
   (try clear ho0)
   obtain ⟨Ao126, co126, eo126⟩ := Kd.R_slice HO479.out
   (first | subst eo126 | (injection eo126 with f1_ f2_ f3_; have f4_ := f1_.symm; have f5_ := f3_.symm; clear f1_ f2_ f3_; subst f4_; subst f5_))
   obtain ⟨Ao127, co127, eo127⟩ := Kd.R_slice HO484.out
   (first | subst eo127 | (injection eo127 with f1_ f2_ f3_; have f4_ := f1_.symm; have f5_ := f3_.symm; clear f1_ f2_ f3_; subst f4_; subst f5_))
   refine hK.out _ _ ⟨(blk_cell BK415.out 0).trans rfl, (blk_cell BK415.out 1).trans rfl, (blk_cell BK415.out 2).trans rfl, (blk_cell BK416.out 0).trans rfl, (blk_cell BK416.out 1).trans rfl, (blk_cell BK416.out 2).trans rfl⟩ (fun hHeld => ?_)
   clear hK K
   refine norm_ (a' := ?_) ?_ ?_
   rotate_left
   · show Act.put _ (some 98) _ = _
     simp only [Act.put, sa, sb, sc, i64_w, i32_w]
     rfl
   refine two_ (i := 4) (j := 8) (Ni := some 99) (Nj := some 15) #[true, true, true, true, true, false, false, false, false, false, false] #[true, true, true, true, false, false, false, false, true, false, false] rfl rfl rfl rfl (two_of HT_.out (by kernel_rfl)) (by decide) (by decide) (fun K hK => ?_) (fun K hK => ?_)
   · skip
     refine goes_ Try.func45 (by kernel_rfl) rfl #[.agg #[.bool t476, .slice Ao126 t477.length co126, .int .i64 t480], .agg #[.bool t481, .slice Ao127 t482.length co127, .int .i64 t485]] (by rfl) rfl rfl (by (try simp only [List.map_toArray, List.map_cons, List.map_nil]); first | done | rfl | (simp only [List.length_drop, List.length_take]; rfl)) ?_
     with_reducible refine (impl_DyMul.calls k t476 (fun k_ => some k_ = (.slice Ao126 t477.length co126 : Value).ownBlock) _ _ t477 t480 t481 (fun k_ => some k_ = (.slice Ao127 t482.length co127 : Value).ownBlock) _ _ t482 t485 t486 t487 t490 t491 _ ?side1 ?side2 A45.out).mono ?_
     (case side1 => exact Kd.R_V (Kd.R_tight rfl (Kd.R_types (Kd.R_types (Kd.R_types (Kd.R_types (Kd.R_types (Kd.R_types (HO479.out) BK415.out (by decide)) BK416.out (by decide)) BK435.out (by decide)) BK441.out (by decide)) BK447.out (by decide)) BK454.out (by decide))))
     (case side2 => exact Kd.R_V (Kd.R_tight rfl (Kd.R_types (Kd.R_types (Kd.R_types (Kd.R_types (Kd.R_types (Kd.R_types (HO484.out) BK415.out (by decide)) BK416.out (by decide)) BK435.out (by decide)) BK441.out (by decide)) BK447.out (by decide)) BK454.out (by decide))))
     rintro e w128 ⟨v488, rfl, ho0, hb⟩
     refine ⟨_, rfl, ?_⟩
     have HO489 := AM (Kd.R_lower (Kd.R_new' (Kd.R_new' (Kd.R_new' (Kd.R_new' (Kd.R_new' (Kd.R_new' (Kd.R_new' (Kd.R_new' (Kd.R_new' (Kd.R_new' (Kd.R_mono (ok' := fun k_ => True) ho0 (fun _ hk_ => trivial)) (Kd.R_lt (pR HO422))) (Kd.R_lt (pR HO427))) (Kd.R_lt (pR HO432))) (Kd.R_lt (pR HO439))) (Kd.R_lt (pR HO445))) (Kd.R_lt (pR HO451))) (Kd.R_lt (pR HO459))) (Kd.R_lt (pR HO465))) (Kd.R_lt (pR HO479))) (Kd.R_lt (pR HO484))) (below_size (pH HB))); replace HO422 := AM (Kd.R_elder' (pR HO422) (Kd.R_base ho0) hb); replace HO427 := AM (Kd.R_elder' (pR HO427) (Kd.R_base ho0) hb); replace HO432 := AM (Kd.R_elder' (pR HO432) (Kd.R_base ho0) hb); replace HO439 := AM (Kd.R_elder' (pR HO439) (Kd.R_base ho0) hb); replace HO445 := AM (Kd.R_elder' (pR HO445) (Kd.R_base ho0) hb); replace HO451 := AM (Kd.R_elder' (pR HO451) (Kd.R_base ho0) hb); replace HO459 := AM (Kd.R_elder' (pR HO459) (Kd.R_base ho0) hb); replace HO465 := AM (Kd.R_elder' (pR HO465) (Kd.R_base ho0) hb); replace HO479 := AM (Kd.R_elder' (pR HO479) (Kd.R_base ho0) hb); replace HO484 := AM (Kd.R_elder' (pR HO484) (Kd.R_base ho0) hb); replace BK415 := bB BK415 hb; replace BK416 := bB BK416 hb; replace BK435 := bB BK435 hb; replace BK441 := bB BK441 hb; replace BK447 := bB BK447 hb; replace BK454 := bB BK454 hb; replace HB := AM (below_step (pH HB) hb)
     (try clear hb)
     (try clear hb2)
     (try clear hk)
     (try clear hi)
     (try clear ho0)
     refine hK.out _ _ ⟨(blk_cell BK415.out 0).trans rfl, (blk_cell BK415.out 1).trans rfl, (blk_cell BK415.out 2).trans rfl, (blk_cell BK416.out 0).trans rfl, (blk_cell BK416.out 1).trans rfl, (blk_cell BK416.out 2).trans rfl⟩ (fun hHeld => ?_)
     clear hK K
     refine norm_ (a' := ?_) ?_ ?_
     rotate_left
     · show Act.put _ (some 99) _ = _
       simp only [Act.put, sa, sb, sc, i64_w, i32_w]
       rfl
     refine pure_ (i := 5) (N := some 94) (v := ?_) (a' := ?_) #[true, true, true, true, true, true, false, false, false, false, false] rfl rfl (any_of HT_.out (by kernel_rfl)) (fun _ _ _ h => h) (Or.inl ⟨by rfl, ?_⟩) ?_ ?_
     rotate_left
     · intro w'
       go_simp
       with_reducible rfl
     rotate_left
     · simp only [Act.put, sa, sb, sc, i64_w, i32_w]
       rfl
     refine pure_ (i := 6) (N := some 100) (v := ?_) (a' := ?_) #[true, true, true, true, true, true, true, false, false, false, false] rfl rfl (any_of HT_.out (by kernel_rfl)) (fun _ _ _ h => h) (Or.inl ⟨by rfl, ?_⟩) ?_ ?_
     rotate_left
     · intro w'
       go_simp
       with_reducible rfl
     rotate_left
     · simp only [Act.put, sa, sb, sc, i64_w, i32_w]
       rfl
     refine pure_ (i := 7) (N := some 101) (v := ?_) (a' := ?_) #[true, true, true, true, true, true, true, true, false, false, false] rfl rfl (any_of HT_.out (by kernel_rfl)) (fun _ _ _ h => h) (Or.inl ⟨by rfl, ?_⟩) ?_ ?_
     rotate_left
     · intro w'
       go_simp
       with_reducible rfl
     rotate_left
     · simp only [Act.put, sa, sb, sc, i64_w, i32_w]
       rfl
     refine one_ (i := 8) (N := some 15) #[true, true, true, true, true, true, true, true, true, false, false] rfl rfl (one_of HT_.out (by kernel_rfl)) (by decide) (fun K hK => ?_)
     refine box_step ?hg (N := 15) ?hd (cs := #[.bool false, .slice none 0 0, .int .i64 0]) (t := 77) ?hr ?_; (case hd => rfl); (case hg => rfl); (case hr => first | (go_simp; done) | (go_simp; rfl))
     intro gb492 hg w129 hbox hb
     replace HO422 := AM (Kd.R_below (pR HO422) hb); replace HO427 := AM (Kd.R_below (pR HO427) hb); replace HO432 := AM (Kd.R_below (pR HO432) hb); replace HO439 := AM (Kd.R_below (pR HO439) hb); replace HO445 := AM (Kd.R_below (pR HO445) hb); replace HO451 := AM (Kd.R_below (pR HO451) hb); replace HO459 := AM (Kd.R_below (pR HO459) hb); replace HO465 := AM (Kd.R_below (pR HO465) hb); replace HO479 := AM (Kd.R_below (pR HO479) hb); replace HO484 := AM (Kd.R_below (pR HO484) hb); replace HO489 := AM (Kd.R_below (pR HO489) hb); have BK492 := AM (hbox); have GW492 := gH HB hg; have GE492 := gH HB hg; replace HB := AM (below_step (pH HB) hb); have NB415_492 := nL BK415 hg; have NB492_415 := nG BK415 hg; replace BK415 := bB BK415 hb; have NB416_492 := nL BK416 hg; have NB492_416 := nG BK416 hg; replace BK416 := bB BK416 hb; have NB435_492 := nL BK435 hg; have NB492_435 := nG BK435 hg; replace BK435 := bB BK435 hb; have NB441_492 := nL BK441 hg; have NB492_441 := nG BK441 hg; replace BK441 := bB BK441 hb; have NB447_492 := nL BK447 hg; have NB492_447 := nG BK447 hg; replace BK447 := bB BK447 hb; have NB454_492 := nL BK454 hg; have NB492_454 := nG BK454 hg; replace BK454 := bB BK454 hb; clear hb hbox hg
     refine hK.out _ _ ⟨(blk_cell BK415.out 0).trans rfl, (blk_cell BK415.out 1).trans rfl, (blk_cell BK415.out 2).trans rfl, (blk_cell BK416.out 0).trans rfl, (blk_cell BK416.out 1).trans rfl, (blk_cell BK416.out 2).trans rfl⟩ (fun hHeld => ?_)
     clear hK K
     refine norm_ (a' := ?_) ?_ ?_
     rotate_left
     · show Act.put _ (some 15) _ = _
       simp only [Act.put, sa, sb, sc, i64_w, i32_w]
       rfl
     exact norm_ (by simp only [putAll, Act.put, sa, sb, sc]) (hCont (.slice Ao126 t477.length co126, .slice Ao127 t482.length co127, v488, gb492) _ ⟨hHeld, (by (with_reducible repeat (first | apply Kd.R_alloc | apply Kd.R_drewN | apply Kd.R_drew)); exact Kd.R_mono HO422.out (fun _ hk => ⟨hk.1.1.1.1, ⟨hk.1.1.1.2.1, ⟨hk.1.1.1.2.2.1, ⟨hk.1.1.1.2.2.2.1, ⟨hk.1.1.1.2.2.2.2.1, ⟨hk.1.1.1.2.2.2.2.2.1, ⟨hk.1.1.1.2.2.2.2.2.2, ⟨hk.1.1.2, ⟨hk.1.2, hk.2⟩⟩⟩⟩⟩⟩⟩⟩⟩)), (by (with_reducible repeat (first | apply Kd.R_alloc | apply Kd.R_drewN | apply Kd.R_drew)); exact Kd.R_mono HO427.out (fun _ hk => ⟨hk.1.1.1.1, ⟨hk.1.1.1.2.1, ⟨hk.1.1.1.2.2.1, ⟨hk.1.1.1.2.2.2.1, ⟨hk.1.1.1.2.2.2.2.1, ⟨hk.1.1.1.2.2.2.2.2.1, ⟨hk.1.1.1.2.2.2.2.2.2, ⟨hk.1.1.2, ⟨hk.1.2, hk.2⟩⟩⟩⟩⟩⟩⟩⟩⟩)), (by (with_reducible repeat (first | apply Kd.R_alloc | apply Kd.R_drewN | apply Kd.R_drew)); exact Kd.R_mono HO432.out (fun _ hk => ⟨hk.1.1.1.1, ⟨hk.1.1.1.2.1, ⟨hk.1.1.1.2.2.1, ⟨hk.1.1.1.2.2.2.1, ⟨hk.1.1.1.2.2.2.2.1, ⟨hk.1.1.1.2.2.2.2.2.1, ⟨hk.1.1.1.2.2.2.2.2.2, ⟨hk.1.1.2, ⟨hk.1.2, hk.2⟩⟩⟩⟩⟩⟩⟩⟩⟩)), (by (with_reducible repeat (first | apply Kd.R_alloc | apply Kd.R_drewN | apply Kd.R_drew)); exact Kd.R_mono HO439.out (fun _ hk => ⟨hk.1.1.1.1, ⟨hk.1.1.1.2.1, ⟨hk.1.1.1.2.2.1, ⟨hk.1.1.1.2.2.2.1, ⟨hk.1.1.1.2.2.2.2.1, ⟨hk.1.1.1.2.2.2.2.2.1, ⟨hk.1.1.1.2.2.2.2.2.2, ⟨hk.1.1.2, ⟨hk.1.2, hk.2⟩⟩⟩⟩⟩⟩⟩⟩⟩)), (by (with_reducible repeat (first | apply Kd.R_alloc | apply Kd.R_drewN | apply Kd.R_drew)); exact Kd.R_mono HO445.out (fun _ hk => ⟨hk.1.1.1.1, ⟨hk.1.1.1.2.1, ⟨hk.1.1.1.2.2.1, ⟨hk.1.1.1.2.2.2.1, ⟨hk.1.1.1.2.2.2.2.1, ⟨hk.1.1.1.2.2.2.2.2.1, ⟨hk.1.1.1.2.2.2.2.2.2, ⟨hk.1.1.2, ⟨hk.1.2, hk.2⟩⟩⟩⟩⟩⟩⟩⟩⟩)), (by (with_reducible repeat (first | apply Kd.R_alloc | apply Kd.R_drewN | apply Kd.R_drew)); exact Kd.R_mono HO451.out (fun _ hk => ⟨hk.1.1.1.1, ⟨hk.1.1.1.2.1, ⟨hk.1.1.1.2.2.1, ⟨hk.1.1.1.2.2.2.1, ⟨hk.1.1.1.2.2.2.2.1, ⟨hk.1.1.1.2.2.2.2.2.1, ⟨hk.1.1.1.2.2.2.2.2.2, ⟨hk.1.1.2, ⟨hk.1.2, hk.2⟩⟩⟩⟩⟩⟩⟩⟩⟩)), (by (with_reducible repeat (first | apply Kd.R_alloc | apply Kd.R_drewN | apply Kd.R_drew)); exact Kd.R_mono HO459.out (fun _ hk => ⟨hk.1.1.1.1, ⟨hk.1.1.1.2.1, ⟨hk.1.1.1.2.2.1, ⟨hk.1.1.1.2.2.2.1, ⟨hk.1.1.1.2.2.2.2.1, ⟨hk.1.1.1.2.2.2.2.2.1, ⟨hk.1.1.1.2.2.2.2.2.2, ⟨hk.1.1.2, ⟨hk.1.2, hk.2⟩⟩⟩⟩⟩⟩⟩⟩⟩)), (by (with_reducible repeat (first | apply Kd.R_alloc | apply Kd.R_drewN | apply Kd.R_drew)); exact Kd.R_mono HO465.out (fun _ hk => ⟨hk.1.1.1.1, ⟨hk.1.1.1.2.1, ⟨hk.1.1.1.2.2.1, ⟨hk.1.1.1.2.2.2.1, ⟨hk.1.1.1.2.2.2.2.1, ⟨hk.1.1.1.2.2.2.2.2.1, ⟨hk.1.1.1.2.2.2.2.2.2, ⟨hk.1.1.2, ⟨hk.1.2, hk.2⟩⟩⟩⟩⟩⟩⟩⟩⟩)), (by (with_reducible repeat (first | apply Kd.R_alloc | apply Kd.R_drewN | apply Kd.R_drew)); exact Kd.R_mono HO479.out (fun _ hk => ⟨hk.1.1.1.1.1.1.1.1.1.2, ⟨hk.1.1.1.1.1.1.1.1.2, ⟨hk.1.1.1.1.1.1.1.2, ⟨hk.1.1.1.1.1.1.2, ⟨hk.1.1.1.1.1.2, ⟨hk.1.1.1.1.2, ⟨hk.1.1.1.2, ⟨hk.1.1.2, ⟨hk.1.2, hk.2⟩⟩⟩⟩⟩⟩⟩⟩⟩)), (by (with_reducible repeat (first | apply Kd.R_alloc | apply Kd.R_drewN | apply Kd.R_drew)); exact Kd.R_mono HO484.out (fun _ hk => ⟨hk.1.1.1.1.1.1.1.1.1.2, ⟨hk.1.1.1.1.1.1.1.1.2, ⟨hk.1.1.1.1.1.1.1.2, ⟨hk.1.1.1.1.1.1.2, ⟨hk.1.1.1.1.1.2, ⟨hk.1.1.1.1.2, ⟨hk.1.1.1.2, ⟨hk.1.1.2, ⟨hk.1.2, hk.2⟩⟩⟩⟩⟩⟩⟩⟩⟩)), (by (with_reducible repeat (first | apply Kd.R_alloc | apply Kd.R_drewN | apply Kd.R_drew)); exact Kd.R_mono HO489.out (fun _ hk => ⟨hk.1.1.1.1.1.1.1.1.1.2, ⟨hk.1.1.1.1.1.1.1.1.2, ⟨hk.1.1.1.1.1.1.1.2, ⟨hk.1.1.1.1.1.1.2, ⟨hk.1.1.1.1.1.2, ⟨hk.1.1.1.1.2, ⟨hk.1.1.1.2, ⟨hk.1.1.2, ⟨hk.1.2, hk.2⟩⟩⟩⟩⟩⟩⟩⟩⟩)), (pB BK415), (pB BK416), (pB BK435), (pB BK441), (pB BK447), (pB BK454), (pB BK492), GW492.out, GE492.out, NB415_492.out, NB492_415.out, NB416_492.out, NB492_416.out, NB435_492.out, NB492_435.out, NB441_492.out, NB492_441.out, NB447_492.out, NB492_447.out, NB454_492.out, NB492_454.out, (pH HB)⟩)
   skip
   refine box_step ?hg (N := 15) ?hd (cs := #[.bool false, .slice none 0 0, .int .i64 0]) (t := 77) ?hr ?_; (case hd => rfl); (case hg => rfl); (case hr => first | (go_simp; done) | (go_simp; rfl))
   intro gb492 hg w126 hbox hb
   replace HO422 := AM (Kd.R_below (pR HO422) hb); replace HO427 := AM (Kd.R_below (pR HO427) hb); replace HO432 := AM (Kd.R_below (pR HO432) hb); replace HO439 := AM (Kd.R_below (pR HO439) hb); replace HO445 := AM (Kd.R_below (pR HO445) hb); replace HO451 := AM (Kd.R_below (pR HO451) hb); replace HO459 := AM (Kd.R_below (pR HO459) hb); replace HO465 := AM (Kd.R_below (pR HO465) hb); replace HO479 := AM (Kd.R_below (pR HO479) hb); replace HO484 := AM (Kd.R_below (pR HO484) hb); have BK492 := AM (hbox); have GW492 := gH HB hg; have GE492 := gH HB hg; replace HB := AM (below_step (pH HB) hb); have NB415_492 := nL BK415 hg; have NB492_415 := nG BK415 hg; replace BK415 := bB BK415 hb; have NB416_492 := nL BK416 hg; have NB492_416 := nG BK416 hg; replace BK416 := bB BK416 hb; have NB435_492 := nL BK435 hg; have NB492_435 := nG BK435 hg; replace BK435 := bB BK435 hb; have NB441_492 := nL BK441 hg; have NB492_441 := nG BK441 hg; replace BK441 := bB BK441 hb; have NB447_492 := nL BK447 hg; have NB492_447 := nG BK447 hg; replace BK447 := bB BK447 hb; have NB454_492 := nL BK454 hg; have NB492_454 := nG BK454 hg; replace BK454 := bB BK454 hb; clear hb hbox hg
   obtain ⟨Ao127, co127, eo127⟩ := Kd.R_slice HO479.out
   (first | subst eo127 | (injection eo127 with f1_ f2_ f3_; have f4_ := f1_.symm; have f5_ := f3_.symm; clear f1_ f2_ f3_; subst f4_; subst f5_))
   obtain ⟨Ao128, co128, eo128⟩ := Kd.R_slice HO484.out
   (first | subst eo128 | (injection eo128 with f1_ f2_ f3_; have f4_ := f1_.symm; have f5_ := f3_.symm; clear f1_ f2_ f3_; subst f4_; subst f5_))
   refine hK.out _ _ ⟨(blk_cell BK415.out 0).trans rfl, (blk_cell BK415.out 1).trans rfl, (blk_cell BK415.out 2).trans rfl, (blk_cell BK416.out 0).trans rfl, (blk_cell BK416.out 1).trans rfl, (blk_cell BK416.out 2).trans rfl⟩ (fun hHeld => ?_)
   clear hK K
   refine norm_ (a' := ?_) ?_ ?_
   rotate_left
   · show Act.put _ (some 15) _ = _
     simp only [Act.put, sa, sb, sc, i64_w, i32_w]
     rfl
   refine one_ (i := 4) (N := some 99) #[true, true, true, true, true, false, false, false, true, false, false] rfl rfl (one_of HT_.out (by kernel_rfl)) (by decide) (fun K hK => ?_)
   refine goes_ Try.func45 (by kernel_rfl) rfl #[.agg #[.bool t476, .slice Ao127 t477.length co127, .int .i64 t480], .agg #[.bool t481, .slice Ao128 t482.length co128, .int .i64 t485]] (by rfl) rfl rfl (by (try simp only [List.map_toArray, List.map_cons, List.map_nil]); first | done | rfl | (simp only [List.length_drop, List.length_take]; rfl)) ?_
   with_reducible refine (impl_DyMul.calls k t476 (fun k_ => some k_ = (.slice Ao127 t477.length co127 : Value).ownBlock) _ _ t477 t480 t481 (fun k_ => some k_ = (.slice Ao128 t482.length co128 : Value).ownBlock) _ _ t482 t485 t486 t487 t490 t491 _ ?side1 ?side2 A45.out).mono ?_
   (case side1 => exact Kd.R_V (Kd.R_tight rfl (Kd.R_types (Kd.R_types (Kd.R_types (Kd.R_types (Kd.R_types (Kd.R_types (Kd.R_types (HO479.out) BK415.out (by decide)) BK416.out (by decide)) BK435.out (by decide)) BK441.out (by decide)) BK447.out (by decide)) BK454.out (by decide)) BK492.out (by decide))))
   (case side2 => exact Kd.R_V (Kd.R_tight rfl (Kd.R_types (Kd.R_types (Kd.R_types (Kd.R_types (Kd.R_types (Kd.R_types (Kd.R_types (HO484.out) BK415.out (by decide)) BK416.out (by decide)) BK435.out (by decide)) BK441.out (by decide)) BK447.out (by decide)) BK454.out (by decide)) BK492.out (by decide))))
   rintro e w129 ⟨v488, rfl, ho0, hb⟩
   refine ⟨_, rfl, ?_⟩
   have HO489 := AM (Kd.R_lower (Kd.R_new' (Kd.R_new' (Kd.R_new' (Kd.R_new' (Kd.R_new' (Kd.R_new' (Kd.R_new' (Kd.R_new' (Kd.R_new' (Kd.R_new' (Kd.R_mono (ok' := fun k_ => True) ho0 (fun _ hk_ => trivial)) (Kd.R_lt (pR HO422))) (Kd.R_lt (pR HO427))) (Kd.R_lt (pR HO432))) (Kd.R_lt (pR HO439))) (Kd.R_lt (pR HO445))) (Kd.R_lt (pR HO451))) (Kd.R_lt (pR HO459))) (Kd.R_lt (pR HO465))) (Kd.R_lt (pR HO479))) (Kd.R_lt (pR HO484))) (below_size (pH HB))); replace HO422 := AM (Kd.R_elder' (pR HO422) (Kd.R_base ho0) hb); replace HO427 := AM (Kd.R_elder' (pR HO427) (Kd.R_base ho0) hb); replace HO432 := AM (Kd.R_elder' (pR HO432) (Kd.R_base ho0) hb); replace HO439 := AM (Kd.R_elder' (pR HO439) (Kd.R_base ho0) hb); replace HO445 := AM (Kd.R_elder' (pR HO445) (Kd.R_base ho0) hb); replace HO451 := AM (Kd.R_elder' (pR HO451) (Kd.R_base ho0) hb); replace HO459 := AM (Kd.R_elder' (pR HO459) (Kd.R_base ho0) hb); replace HO465 := AM (Kd.R_elder' (pR HO465) (Kd.R_base ho0) hb); replace HO479 := AM (Kd.R_elder' (pR HO479) (Kd.R_base ho0) hb); replace HO484 := AM (Kd.R_elder' (pR HO484) (Kd.R_base ho0) hb); replace BK415 := bB BK415 hb; replace BK416 := bB BK416 hb; replace BK435 := bB BK435 hb; replace BK441 := bB BK441 hb; replace BK447 := bB BK447 hb; replace BK454 := bB BK454 hb; replace BK492 := bB BK492 hb; replace HB := AM (below_step (pH HB) hb)
   (try clear hb)
   (try clear hb2)
   (try clear hk)
   (try clear hi)
   (try clear ho0)
   refine hK.out _ _ ⟨(blk_cell BK415.out 0).trans rfl, (blk_cell BK415.out 1).trans rfl, (blk_cell BK415.out 2).trans rfl, (blk_cell BK416.out 0).trans rfl, (blk_cell BK416.out 1).trans rfl, (blk_cell BK416.out 2).trans rfl⟩ (fun hHeld => ?_)
   clear hK K
   refine norm_ (a' := ?_) ?_ ?_
   rotate_left
   · show Act.put _ (some 99) _ = _
     simp only [Act.put, sa, sb, sc, i64_w, i32_w]
     rfl
   refine pure_ (i := 5) (N := some 94) (v := ?_) (a' := ?_) #[true, true, true, true, true, true, false, false, true, false, false] rfl rfl (any_of HT_.out (by kernel_rfl)) (fun _ _ _ h => h) (Or.inl ⟨by rfl, ?_⟩) ?_ ?_
   rotate_left
   · intro w'
     go_simp
     with_reducible rfl
   rotate_left
   · simp only [Act.put, sa, sb, sc, i64_w, i32_w]
     rfl
   refine pure_ (i := 6) (N := some 100) (v := ?_) (a' := ?_) #[true, true, true, true, true, true, true, false, true, false, false] rfl rfl (any_of HT_.out (by kernel_rfl)) (fun _ _ _ h => h) (Or.inl ⟨by rfl, ?_⟩) ?_ ?_
   rotate_left
   · intro w'
     go_simp
     with_reducible rfl
   rotate_left
   · simp only [Act.put, sa, sb, sc, i64_w, i32_w]
     rfl
   refine pure_ (i := 7) (N := some 101) (v := ?_) (a' := ?_) #[true, true, true, true, true, true, true, true, true, false, false] rfl rfl (any_of HT_.out (by kernel_rfl)) (fun _ _ _ h => h) (Or.inl ⟨by rfl, ?_⟩) ?_ ?_
   rotate_left
   · intro w'
     go_simp
     with_reducible rfl
   rotate_left
   · simp only [Act.put, sa, sb, sc, i64_w, i32_w]
     rfl
   exact norm_ (by simp only [putAll, Act.put, sa, sb, sc]) (hCont (.slice Ao127 t477.length co127, .slice Ao128 t482.length co128, v488, gb492) _ ⟨hHeld, (by (with_reducible repeat (first | apply Kd.R_alloc | apply Kd.R_drewN | apply Kd.R_drew)); exact Kd.R_mono HO422.out (fun _ hk => ⟨hk.1.1.1.1, ⟨hk.1.1.1.2.1, ⟨hk.1.1.1.2.2.1, ⟨hk.1.1.1.2.2.2.1, ⟨hk.1.1.1.2.2.2.2.1, ⟨hk.1.1.1.2.2.2.2.2.1, ⟨hk.1.1.1.2.2.2.2.2.2, ⟨hk.1.1.2, ⟨hk.1.2, hk.2⟩⟩⟩⟩⟩⟩⟩⟩⟩)), (by (with_reducible repeat (first | apply Kd.R_alloc | apply Kd.R_drewN | apply Kd.R_drew)); exact Kd.R_mono HO427.out (fun _ hk => ⟨hk.1.1.1.1, ⟨hk.1.1.1.2.1, ⟨hk.1.1.1.2.2.1, ⟨hk.1.1.1.2.2.2.1, ⟨hk.1.1.1.2.2.2.2.1, ⟨hk.1.1.1.2.2.2.2.2.1, ⟨hk.1.1.1.2.2.2.2.2.2, ⟨hk.1.1.2, ⟨hk.1.2, hk.2⟩⟩⟩⟩⟩⟩⟩⟩⟩)), (by (with_reducible repeat (first | apply Kd.R_alloc | apply Kd.R_drewN | apply Kd.R_drew)); exact Kd.R_mono HO432.out (fun _ hk => ⟨hk.1.1.1.1, ⟨hk.1.1.1.2.1, ⟨hk.1.1.1.2.2.1, ⟨hk.1.1.1.2.2.2.1, ⟨hk.1.1.1.2.2.2.2.1, ⟨hk.1.1.1.2.2.2.2.2.1, ⟨hk.1.1.1.2.2.2.2.2.2, ⟨hk.1.1.2, ⟨hk.1.2, hk.2⟩⟩⟩⟩⟩⟩⟩⟩⟩)), (by (with_reducible repeat (first | apply Kd.R_alloc | apply Kd.R_drewN | apply Kd.R_drew)); exact Kd.R_mono HO439.out (fun _ hk => ⟨hk.1.1.1.1, ⟨hk.1.1.1.2.1, ⟨hk.1.1.1.2.2.1, ⟨hk.1.1.1.2.2.2.1, ⟨hk.1.1.1.2.2.2.2.1, ⟨hk.1.1.1.2.2.2.2.2.1, ⟨hk.1.1.1.2.2.2.2.2.2, ⟨hk.1.1.2, ⟨hk.1.2, hk.2⟩⟩⟩⟩⟩⟩⟩⟩⟩)), (by (with_reducible repeat (first | apply Kd.R_alloc | apply Kd.R_drewN | apply Kd.R_drew)); exact Kd.R_mono HO445.out (fun _ hk => ⟨hk.1.1.1.1, ⟨hk.1.1.1.2.1, ⟨hk.1.1.1.2.2.1, ⟨hk.1.1.1.2.2.2.1, ⟨hk.1.1.1.2.2.2.2.1, ⟨hk.1.1.1.2.2.2.2.2.1, ⟨hk.1.1.1.2.2.2.2.2.2, ⟨hk.1.1.2, ⟨hk.1.2, hk.2⟩⟩⟩⟩⟩⟩⟩⟩⟩)), (by (with_reducible repeat (first | apply Kd.R_alloc | apply Kd.R_drewN | apply Kd.R_drew)); exact Kd.R_mono HO451.out (fun _ hk => ⟨hk.1.1.1.1, ⟨hk.1.1.1.2.1, ⟨hk.1.1.1.2.2.1, ⟨hk.1.1.1.2.2.2.1, ⟨hk.1.1.1.2.2.2.2.1, ⟨hk.1.1.1.2.2.2.2.2.1, ⟨hk.1.1.1.2.2.2.2.2.2, ⟨hk.1.1.2, ⟨hk.1.2, hk.2⟩⟩⟩⟩⟩⟩⟩⟩⟩)), (by (with_reducible repeat (first | apply Kd.R_alloc | apply Kd.R_drewN | apply Kd.R_drew)); exact Kd.R_mono HO459.out (fun _ hk => ⟨hk.1.1.1.1, ⟨hk.1.1.1.2.1, ⟨hk.1.1.1.2.2.1, ⟨hk.1.1.1.2.2.2.1, ⟨hk.1.1.1.2.2.2.2.1, ⟨hk.1.1.1.2.2.2.2.2.1, ⟨hk.1.1.1.2.2.2.2.2.2, ⟨hk.1.1.2, ⟨hk.1.2, hk.2⟩⟩⟩⟩⟩⟩⟩⟩⟩)), (by (with_reducible repeat (first | apply Kd.R_alloc | apply Kd.R_drewN | apply Kd.R_drew)); exact Kd.R_mono HO465.out (fun _ hk => ⟨hk.1.1.1.1, ⟨hk.1.1.1.2.1, ⟨hk.1.1.1.2.2.1, ⟨hk.1.1.1.2.2.2.1, ⟨hk.1.1.1.2.2.2.2.1, ⟨hk.1.1.1.2.2.2.2.2.1, ⟨hk.1.1.1.2.2.2.2.2.2, ⟨hk.1.1.2, ⟨hk.1.2, hk.2⟩⟩⟩⟩⟩⟩⟩⟩⟩)), (by (with_reducible repeat (first | apply Kd.R_alloc | apply Kd.R_drewN | apply Kd.R_drew)); exact Kd.R_mono HO479.out (fun _ hk => ⟨hk.1.1.1.1.1.1.1.1.1.2, ⟨hk.1.1.1.1.1.1.1.1.2, ⟨hk.1.1.1.1.1.1.1.2, ⟨hk.1.1.1.1.1.1.2, ⟨hk.1.1.1.1.1.2, ⟨hk.1.1.1.1.2, ⟨hk.1.1.1.2, ⟨hk.1.1.2, ⟨hk.1.2, hk.2⟩⟩⟩⟩⟩⟩⟩⟩⟩)), (by (with_reducible repeat (first | apply Kd.R_alloc | apply Kd.R_drewN | apply Kd.R_drew)); exact Kd.R_mono HO484.out (fun _ hk => ⟨hk.1.1.1.1.1.1.1.1.1.2, ⟨hk.1.1.1.1.1.1.1.1.2, ⟨hk.1.1.1.1.1.1.1.2, ⟨hk.1.1.1.1.1.1.2, ⟨hk.1.1.1.1.1.2, ⟨hk.1.1.1.1.2, ⟨hk.1.1.1.2, ⟨hk.1.1.2, ⟨hk.1.2, hk.2⟩⟩⟩⟩⟩⟩⟩⟩⟩)), (by (with_reducible repeat (first | apply Kd.R_alloc | apply Kd.R_drewN | apply Kd.R_drew)); exact Kd.R_mono HO489.out (fun _ hk => ⟨hk.1.1.1.1.1.1.1.1.1.2, ⟨hk.1.1.1.1.1.1.1.1.2, ⟨hk.1.1.1.1.1.1.1.2, ⟨hk.1.1.1.1.1.1.2, ⟨hk.1.1.1.1.1.2, ⟨hk.1.1.1.1.2, ⟨hk.1.1.1.2, ⟨hk.1.1.2, ⟨hk.1.2, hk.2⟩⟩⟩⟩⟩⟩⟩⟩⟩)), (pB BK415), (pB BK416), (pB BK435), (pB BK441), (pB BK447), (pB BK454), (pB BK492), GW492.out, GE492.out, NB415_492.out, NB492_415.out, NB416_492.out, NB492_416.out, NB435_492.out, NB492_435.out, NB441_492.out, NB492_441.out, NB447_492.out, NB492_447.out, NB454_492.out, NB492_454.out, (pH HB)⟩)
 rintro ⟨v478, v483, v488, gb492⟩ w130 ⟨hS_, h0_, h1_, h2_, h3_, h4_, h5_, h6_, h7_, h8_, h9_, h10_, h11_, h12_, h13_, h14_, h15_, h16_, h17_, h18_, h19_, h20_, h21_, h22_, h23_, h24_, h25_, h26_, h27_, h28_, h29_, h30_, h31_, h32_⟩
 have n0_ : Aside0 (Kd.R (Kd.int .u32) 50 w130 w.heap.size (fun k_ => some k_ ≠ (v426 : Value).ownBlock ∧ some k_ ≠ (.slice Ao68 t430.length co68 : Value).ownBlock ∧ some k_ ≠ (.slice Ao79 t437.length co79 : Value).ownBlock ∧ some k_ ≠ (.slice Ao89 t443.length co89 : Value).ownBlock ∧ some k_ ≠ (.slice Ao101 t449.length co101 : Value).ownBlock ∧ some k_ ≠ (.slice Ao106 t457.length co106 : Value).ownBlock ∧ some k_ ≠ (.slice Ao110 t463.length co110 : Value).ownBlock ∧ some k_ ≠ (v478 : Value).ownBlock ∧ some k_ ≠ (v483 : Value).ownBlock ∧ some k_ ≠ (v488 : Value).ownBlock) v421 t420) := ⟨h0_⟩
 have n1_ : Aside0 (Kd.R (Kd.int .u32) 50 w130 w.heap.size (fun k_ => some k_ ≠ (v421 : Value).ownBlock ∧ some k_ ≠ (.slice Ao68 t430.length co68 : Value).ownBlock ∧ some k_ ≠ (.slice Ao79 t437.length co79 : Value).ownBlock ∧ some k_ ≠ (.slice Ao89 t443.length co89 : Value).ownBlock ∧ some k_ ≠ (.slice Ao101 t449.length co101 : Value).ownBlock ∧ some k_ ≠ (.slice Ao106 t457.length co106 : Value).ownBlock ∧ some k_ ≠ (.slice Ao110 t463.length co110 : Value).ownBlock ∧ some k_ ≠ (v478 : Value).ownBlock ∧ some k_ ≠ (v483 : Value).ownBlock ∧ some k_ ≠ (v488 : Value).ownBlock) v426 t425) := ⟨h1_⟩
 have n2_ : Aside0 (Kd.R (Kd.int .u32) 50 w130 w.heap.size (fun k_ => some k_ ≠ (v421 : Value).ownBlock ∧ some k_ ≠ (v426 : Value).ownBlock ∧ some k_ ≠ (.slice Ao79 t437.length co79 : Value).ownBlock ∧ some k_ ≠ (.slice Ao89 t443.length co89 : Value).ownBlock ∧ some k_ ≠ (.slice Ao101 t449.length co101 : Value).ownBlock ∧ some k_ ≠ (.slice Ao106 t457.length co106 : Value).ownBlock ∧ some k_ ≠ (.slice Ao110 t463.length co110 : Value).ownBlock ∧ some k_ ≠ (v478 : Value).ownBlock ∧ some k_ ≠ (v483 : Value).ownBlock ∧ some k_ ≠ (v488 : Value).ownBlock) (.slice Ao68 t430.length co68) t430) := ⟨h2_⟩
 have n3_ : Aside0 (Kd.R (Kd.int .u32) 50 w130 w.heap.size (fun k_ => some k_ ≠ (v421 : Value).ownBlock ∧ some k_ ≠ (v426 : Value).ownBlock ∧ some k_ ≠ (.slice Ao68 t430.length co68 : Value).ownBlock ∧ some k_ ≠ (.slice Ao89 t443.length co89 : Value).ownBlock ∧ some k_ ≠ (.slice Ao101 t449.length co101 : Value).ownBlock ∧ some k_ ≠ (.slice Ao106 t457.length co106 : Value).ownBlock ∧ some k_ ≠ (.slice Ao110 t463.length co110 : Value).ownBlock ∧ some k_ ≠ (v478 : Value).ownBlock ∧ some k_ ≠ (v483 : Value).ownBlock ∧ some k_ ≠ (v488 : Value).ownBlock) (.slice Ao79 t437.length co79) t469) := ⟨h3_⟩
 have n4_ : Aside0 (Kd.R (Kd.int .u32) 50 w130 w.heap.size (fun k_ => some k_ ≠ (v421 : Value).ownBlock ∧ some k_ ≠ (v426 : Value).ownBlock ∧ some k_ ≠ (.slice Ao68 t430.length co68 : Value).ownBlock ∧ some k_ ≠ (.slice Ao79 t437.length co79 : Value).ownBlock ∧ some k_ ≠ (.slice Ao101 t449.length co101 : Value).ownBlock ∧ some k_ ≠ (.slice Ao106 t457.length co106 : Value).ownBlock ∧ some k_ ≠ (.slice Ao110 t463.length co110 : Value).ownBlock ∧ some k_ ≠ (v478 : Value).ownBlock ∧ some k_ ≠ (v483 : Value).ownBlock ∧ some k_ ≠ (v488 : Value).ownBlock) (.slice Ao89 t443.length co89) t471) := ⟨h4_⟩
 have n5_ : Aside0 (Kd.R (Kd.int .u32) 50 w130 w.heap.size (fun k_ => some k_ ≠ (v421 : Value).ownBlock ∧ some k_ ≠ (v426 : Value).ownBlock ∧ some k_ ≠ (.slice Ao68 t430.length co68 : Value).ownBlock ∧ some k_ ≠ (.slice Ao79 t437.length co79 : Value).ownBlock ∧ some k_ ≠ (.slice Ao89 t443.length co89 : Value).ownBlock ∧ some k_ ≠ (.slice Ao106 t457.length co106 : Value).ownBlock ∧ some k_ ≠ (.slice Ao110 t463.length co110 : Value).ownBlock ∧ some k_ ≠ (v478 : Value).ownBlock ∧ some k_ ≠ (v483 : Value).ownBlock ∧ some k_ ≠ (v488 : Value).ownBlock) (.slice Ao101 t449.length co101) t474) := ⟨h5_⟩
 have n6_ : Aside0 (Kd.R (Kd.int .u32) 50 w130 w.heap.size (fun k_ => some k_ ≠ (v421 : Value).ownBlock ∧ some k_ ≠ (v426 : Value).ownBlock ∧ some k_ ≠ (.slice Ao68 t430.length co68 : Value).ownBlock ∧ some k_ ≠ (.slice Ao79 t437.length co79 : Value).ownBlock ∧ some k_ ≠ (.slice Ao89 t443.length co89 : Value).ownBlock ∧ some k_ ≠ (.slice Ao101 t449.length co101 : Value).ownBlock ∧ some k_ ≠ (.slice Ao110 t463.length co110 : Value).ownBlock ∧ some k_ ≠ (v478 : Value).ownBlock ∧ some k_ ≠ (v483 : Value).ownBlock ∧ some k_ ≠ (v488 : Value).ownBlock) (.slice Ao106 t457.length co106) t457) := ⟨h6_⟩
 have n7_ : Aside0 (Kd.R (Kd.int .u32) 50 w130 w.heap.size (fun k_ => some k_ ≠ (v421 : Value).ownBlock ∧ some k_ ≠ (v426 : Value).ownBlock ∧ some k_ ≠ (.slice Ao68 t430.length co68 : Value).ownBlock ∧ some k_ ≠ (.slice Ao79 t437.length co79 : Value).ownBlock ∧ some k_ ≠ (.slice Ao89 t443.length co89 : Value).ownBlock ∧ some k_ ≠ (.slice Ao101 t449.length co101 : Value).ownBlock ∧ some k_ ≠ (.slice Ao106 t457.length co106 : Value).ownBlock ∧ some k_ ≠ (v478 : Value).ownBlock ∧ some k_ ≠ (v483 : Value).ownBlock ∧ some k_ ≠ (v488 : Value).ownBlock) (.slice Ao110 t463.length co110) t463) := ⟨h7_⟩
 have n8_ : Aside0 (Kd.R (Kd.int .u32) 50 w130 w.heap.size (fun k_ => some k_ ≠ (v421 : Value).ownBlock ∧ some k_ ≠ (v426 : Value).ownBlock ∧ some k_ ≠ (.slice Ao68 t430.length co68 : Value).ownBlock ∧ some k_ ≠ (.slice Ao79 t437.length co79 : Value).ownBlock ∧ some k_ ≠ (.slice Ao89 t443.length co89 : Value).ownBlock ∧ some k_ ≠ (.slice Ao101 t449.length co101 : Value).ownBlock ∧ some k_ ≠ (.slice Ao106 t457.length co106 : Value).ownBlock ∧ some k_ ≠ (.slice Ao110 t463.length co110 : Value).ownBlock ∧ some k_ ≠ (v483 : Value).ownBlock ∧ some k_ ≠ (v488 : Value).ownBlock) v478 t477) := ⟨h8_⟩
 have n9_ : Aside0 (Kd.R (Kd.int .u32) 50 w130 w.heap.size (fun k_ => some k_ ≠ (v421 : Value).ownBlock ∧ some k_ ≠ (v426 : Value).ownBlock ∧ some k_ ≠ (.slice Ao68 t430.length co68 : Value).ownBlock ∧ some k_ ≠ (.slice Ao79 t437.length co79 : Value).ownBlock ∧ some k_ ≠ (.slice Ao89 t443.length co89 : Value).ownBlock ∧ some k_ ≠ (.slice Ao101 t449.length co101 : Value).ownBlock ∧ some k_ ≠ (.slice Ao106 t457.length co106 : Value).ownBlock ∧ some k_ ≠ (.slice Ao110 t463.length co110 : Value).ownBlock ∧ some k_ ≠ (v478 : Value).ownBlock ∧ some k_ ≠ (v488 : Value).ownBlock) v483 t482) := ⟨h9_⟩
 have n10_ : Aside0 (Kd.R (Kd.int .u32) 50 w130 w.heap.size (fun k_ => some k_ ≠ (v421 : Value).ownBlock ∧ some k_ ≠ (v426 : Value).ownBlock ∧ some k_ ≠ (.slice Ao68 t430.length co68 : Value).ownBlock ∧ some k_ ≠ (.slice Ao79 t437.length co79 : Value).ownBlock ∧ some k_ ≠ (.slice Ao89 t443.length co89 : Value).ownBlock ∧ some k_ ≠ (.slice Ao101 t449.length co101 : Value).ownBlock ∧ some k_ ≠ (.slice Ao106 t457.length co106 : Value).ownBlock ∧ some k_ ≠ (.slice Ao110 t463.length co110 : Value).ownBlock ∧ some k_ ≠ (v478 : Value).ownBlock ∧ some k_ ≠ (v483 : Value).ownBlock) v488 t487) := ⟨h10_⟩
 have n11_ : Aside0 (w130.heap[gb415]? = some (.cells #[.bool a0_0, .slice A0_1 l0_1.length c0_1, .int .i64 a0_2] 74 (0, 0))) := ⟨h11_⟩
 have n12_ : Aside0 (w130.heap[gb416]? = some (.cells #[.bool a1_0, .slice A1_1 l1_1.length c1_1, .int .i64 a1_2] 74 (0, 0))) := ⟨h12_⟩
 have n13_ : Aside0 (w130.heap[gb435]? = some (.cells #[.bool t429, .slice Ao68 t430.length co68, .int .i64 t433] 77 (0, 0))) := ⟨h13_⟩
 have n14_ : Aside0 (w130.heap[gb441]? = some (.cells #[.bool t436, .slice Ao79 t437.length co79, .int .i64 t440] 77 (0, 0))) := ⟨h14_⟩
 have n15_ : Aside0 (w130.heap[gb447]? = some (.cells #[.bool t442, .slice Ao89 t443.length co89, .int .i64 t446] 77 (0, 0))) := ⟨h15_⟩
 have n16_ : Aside0 (w130.heap[gb454]? = some (.cells #[.bool t448, .slice Ao101 t449.length co101, .int .i64 t452] 77 (0, 0))) := ⟨h16_⟩
 have n17_ : Aside0 (w130.heap[gb492]? = some (.cells #[.bool false, .slice none 0 0, .int .i64 0] 77 (0, 0))) := ⟨h17_⟩
 have n18_ : Aside0 (w.heap.size ≤ gb492) := ⟨h18_⟩
 have n19_ : Aside0 (w.heap.size ≤ gb492) := ⟨h19_⟩
 have n20_ : Aside0 (gb415 ≠ gb492) := ⟨h20_⟩
 have n21_ : Aside0 (gb492 ≠ gb415) := ⟨h21_⟩
 have n22_ : Aside0 (gb416 ≠ gb492) := ⟨h22_⟩
 have n23_ : Aside0 (gb492 ≠ gb416) := ⟨h23_⟩
 have n24_ : Aside0 (gb435 ≠ gb492) := ⟨h24_⟩
 have n25_ : Aside0 (gb492 ≠ gb435) := ⟨h25_⟩
 have n26_ : Aside0 (gb441 ≠ gb492) := ⟨h26_⟩
 have n27_ : Aside0 (gb492 ≠ gb441) := ⟨h27_⟩
 have n28_ : Aside0 (gb447 ≠ gb492) := ⟨h28_⟩
 have n29_ : Aside0 (gb492 ≠ gb447) := ⟨h29_⟩
 have n30_ : Aside0 (gb454 ≠ gb492) := ⟨h30_⟩
 have n31_ : Aside0 (gb492 ≠ gb454) := ⟨h31_⟩
 have n32_ : Aside0 (Below w.heap.size w w130) := ⟨h32_⟩
 clear HO422; clear HO427; clear HO432; clear HO439; clear HO445; clear HO451; clear HO459; clear HO465; clear BK415; clear BK416; clear BK435; clear BK441; clear BK447; clear BK454; clear HB; clear h0_ h1_ h2_ h3_ h4_ h5_ h6_ h7_ h8_ h9_ h10_ h11_ h12_ h13_ h14_ h15_ h16_ h17_ h18_ h19_ h20_ h21_ h22_ h23_ h24_ h25_ h26_ h27_ h28_ h29_ h30_ h31_ h32_; have HO422 := n0_; have HO427 := n1_; have HO432 := n2_; have HO439 := n3_; have HO445 := n4_; have HO451 := n5_; have HO459 := n6_; have HO465 := n7_; have HO479 := n8_; have HO484 := n9_; have HO489 := n10_; have BK415 := n11_; have BK416 := n12_; have BK435 := n13_; have BK441 := n14_; have BK447 := n15_; have BK454 := n16_; have BK492 := n17_; have GW492 := n18_; have GE492 := n19_; have NB415_492 := n20_; have NB492_415 := n21_; have NB416_492 := n22_; have NB492_416 := n23_; have NB435_492 := n24_; have NB492_435 := n25_; have NB441_492 := n26_; have NB492_441 := n27_; have NB447_492 := n28_; have NB492_447 := n29_; have NB454_492 := n30_; have NB492_454 := n31_; have HB := n32_; clear n0_ n1_ n2_ n3_ n4_ n5_ n6_ n7_ n8_ n9_ n10_ n11_ n12_ n13_ n14_ n15_ n16_ n17_ n18_ n19_ n20_ n21_ n22_ n23_ n24_ n25_ n26_ n27_ n28_ n29_ n30_ n31_ n32_
 have hHeld : w130.cell? ⟨gb415, 0, none⟩ = some (.bool a0_0) ∧ w130.cell? ⟨gb415, 1, none⟩ = some (.slice A0_1 l0_1.length c0_1) ∧ w130.cell? ⟨gb415, 2, none⟩ = some (.int .i64 a0_2) ∧ w130.cell? ⟨gb416, 0, none⟩ = some (.bool a1_0) ∧ w130.cell? ⟨gb416, 1, none⟩ = some (.slice A1_1 l1_1.length c1_1) ∧ w130.cell? ⟨gb416, 2, none⟩ = some (.int .i64 a1_2) := hS_
 obtain ⟨Ao132, co132, eo132⟩ := Kd.R_slice HO489.out
 (first | subst eo132 | (injection eo132 with f1_ f2_ f3_; have f4_ := f1_.symm; have f5_ := f3_.symm; clear f1_ f2_ f3_; subst f4_; subst f5_))
 refine norm_ (a' := ?_) ?_ ?_
 rotate_left
 · simp only [putAll, Act.put, sa, sb, sc]
   rfl
 refine one_ (i := 9) (N := none) #[true, true, true, true, true, true, true, true, true, true, false] rfl rfl (one_of HT_.out (by kernel_rfl)) (by decide) (fun K hK => ?_)
 have hs131 : w130.cell? ⟨gb492, 0, none⟩ = some (.bool false) := (blk_cell BK492.out 0).trans rfl
 have hfs131 := blk_frozen BK492.out 0; have hns131_0 := NB415_492.out; have hns131_1 := NB416_492.out; have hns131_2 := NB435_492.out; have hns131_3 := NB441_492.out; have hns131_4 := NB447_492.out; have hns131_5 := NB454_492.out; have hms131_0 := NB492_415.out; have hms131_1 := NB492_416.out; have hms131_2 := NB492_435.out; have hms131_3 := NB492_441.out; have hms131_4 := NB492_447.out; have hms131_5 := NB492_454.out
 have hs133 : w130.cell? ⟨gb492, 1, none⟩ = some (.slice none 0 0) := (blk_cell BK492.out 1).trans rfl
 have hfs133 := blk_frozen BK492.out 1; have hns133_0 := NB415_492.out; have hns133_1 := NB416_492.out; have hns133_2 := NB435_492.out; have hns133_3 := NB441_492.out; have hns133_4 := NB447_492.out; have hns133_5 := NB454_492.out; have hms133_0 := NB492_415.out; have hms133_1 := NB492_416.out; have hms133_2 := NB492_435.out; have hms133_3 := NB492_441.out; have hms133_4 := NB492_447.out; have hms133_5 := NB492_454.out
 have hs134 : w130.cell? ⟨gb492, 2, none⟩ = some (.int .i64 0) := (blk_cell BK492.out 2).trans rfl
 have hfs134 := blk_frozen BK492.out 2; have hns134_0 := NB415_492.out; have hns134_1 := NB416_492.out; have hns134_2 := NB435_492.out; have hns134_3 := NB441_492.out; have hns134_4 := NB447_492.out; have hns134_5 := NB454_492.out; have hms134_0 := NB492_415.out; have hms134_1 := NB492_416.out; have hms134_2 := NB492_435.out; have hms134_3 := NB492_441.out; have hms134_4 := NB492_447.out; have hms134_5 := NB492_454.out
 refine skip_ (w1 := ?_) (by rfl) rfl ?_ ?_
 rotate_left
 · go_simp
   rfl
 refine hK.out _ _ ⟨((cell_far (p := ⟨gb492, _, none⟩) NB415_492.out _).trans (((cell_far (p := ⟨gb492, _, none⟩) NB415_492.out _).trans (((cell_far (p := ⟨gb492, _, none⟩) NB415_492.out _).trans (hHeld.1)))))), ((cell_far (p := ⟨gb492, _, none⟩) NB415_492.out _).trans (((cell_far (p := ⟨gb492, _, none⟩) NB415_492.out _).trans (((cell_far (p := ⟨gb492, _, none⟩) NB415_492.out _).trans (hHeld.2.1)))))), ((cell_far (p := ⟨gb492, _, none⟩) NB415_492.out _).trans (((cell_far (p := ⟨gb492, _, none⟩) NB415_492.out _).trans (((cell_far (p := ⟨gb492, _, none⟩) NB415_492.out _).trans (hHeld.2.2.1)))))), ((cell_far (p := ⟨gb492, _, none⟩) NB416_492.out _).trans (((cell_far (p := ⟨gb492, _, none⟩) NB416_492.out _).trans (((cell_far (p := ⟨gb492, _, none⟩) NB416_492.out _).trans (hHeld.2.2.2.1)))))), ((cell_far (p := ⟨gb492, _, none⟩) NB416_492.out _).trans (((cell_far (p := ⟨gb492, _, none⟩) NB416_492.out _).trans (((cell_far (p := ⟨gb492, _, none⟩) NB416_492.out _).trans (hHeld.2.2.2.2.1)))))), ((cell_far (p := ⟨gb492, _, none⟩) NB416_492.out _).trans (((cell_far (p := ⟨gb492, _, none⟩) NB416_492.out _).trans (((cell_far (p := ⟨gb492, _, none⟩) NB416_492.out _).trans (hHeld.2.2.2.2.2))))))⟩ (fun hHeld => ?_)
 clear hK K
 refine pure_ (i := 10) (N := some 16) (v := ?_) (a' := ?_) #[true, true, true, true, true, true, true, true, true, true, true] rfl rfl (any_of HT_.out (by kernel_rfl)) (fun _ _ _ h => h) (Or.inl ⟨by rfl, ?_⟩) ?_ ?_
 rotate_left
 · intro w'
   go_simp
   with_reducible rfl
 rotate_left
 · simp only [Act.put, sa, sb, sc, i64_w, i32_w]
   rfl
 refine done_ (done_of HT_.out (by kernel_rfl)) ?_
 have hnb135 := NB492_415.out; have hnc135 := NB415_492.out; have hnb136 := NB492_416.out; have hnc136 := NB416_492.out; have hnb137 := NB492_435.out; have hnc137 := NB435_492.out; have hnb138 := NB492_441.out; have hnc138 := NB441_492.out; have hnb139 := NB492_447.out; have hnc139 := NB447_492.out; have hnb140 := NB492_454.out; have hnc140 := NB454_492.out
 have hcz141_0 : w130.cell? ⟨gb492, 0, none⟩ = some (.bool false) := (blk_cell BK492.out 0).trans rfl
 have hcz141_1 : w130.cell? ⟨gb492, 1, none⟩ = some (.slice none 0 0) := (blk_cell BK492.out 1).trans rfl
 have hcz141_2 : w130.cell? ⟨gb492, 2, none⟩ = some (.int .i64 0) := (blk_cell BK492.out 2).trans rfl
 have hfz141_0 := blk_frozen BK492.out 0; have hfz141_1 := blk_frozen BK492.out 1; have hfz141_2 := blk_frozen BK492.out 2
 have hcz142_0 : w130.cell? ⟨gb435, 0, none⟩ = some (.bool t429) := (blk_cell BK435.out 0).trans rfl
 have hcz142_1 : w130.cell? ⟨gb435, 1, none⟩ = some (.slice Ao68 t430.length co68) := (blk_cell BK435.out 1).trans rfl
 have hcz142_2 : w130.cell? ⟨gb435, 2, none⟩ = some (.int .i64 t433) := (blk_cell BK435.out 2).trans rfl
 have hfz142_0 := blk_frozen BK435.out 0; have hfz142_1 := blk_frozen BK435.out 1; have hfz142_2 := blk_frozen BK435.out 2
 try go_wp2_with (first | ((with_reducible refine gate_callee (f := 46) rfl ?_); refine goesL_ (some 104) rfl rfl Try.func46 (by kernel_rfl) rfl #[.agg #[.bool t486, .slice Ao132 t487.length co132, .int .i64 t490], .agg #[.bool t429, .slice Ao68 t430.length co68, .int .i64 t433]] rfl (by (try simp only [List.map_toArray, List.map_cons, List.map_nil]); first | done | rfl | (simp only [List.length_drop, List.length_take]; rfl)) ?_; (with_reducible refine (laws_eqDyadic.calls k t486 _ _ t487 t490 t429 _ _ t430 t433 true _ ?side1 ?side2 ?side3 ?side4 A46.out).mono ?_); (case side1 => refine (Kd.R_reads' (e := 50) (base := w.heap.size) (ok := fun k_ => (some k_ ≠ (v421 : Value).ownBlock ∧ (some k_ ≠ (v426 : Value).ownBlock ∧ (some k_ ≠ (.slice Ao68 t430.length co68 : Value).ownBlock ∧ (some k_ ≠ (.slice Ao79 t437.length co79 : Value).ownBlock ∧ (some k_ ≠ (.slice Ao89 t443.length co89 : Value).ownBlock ∧ (some k_ ≠ (.slice Ao101 t449.length co101 : Value).ownBlock ∧ (some k_ ≠ (.slice Ao106 t457.length co106 : Value).ownBlock ∧ (some k_ ≠ (.slice Ao110 t463.length co110 : Value).ownBlock ∧ (some k_ ≠ (v478 : Value).ownBlock ∧ some k_ ≠ (v483 : Value).ownBlock)))))))))) (n := t487.length) (c := co132) ?_).2.2; exact (by (with_reducible repeat (first | apply Kd.R_alloc | apply Kd.R_drewN | apply Kd.R_drew)); exact (Kd.R_mono (Kd.R_far (p := ⟨gb492, 2, none⟩) (Kd.R_far (p := ⟨gb492, 1, none⟩) (Kd.R_far (p := ⟨gb492, 0, none⟩) (Kd.R_types HO489.out BK492.out (by decide)) (fun _ hk => hk.2) (.bool t486)) (fun _ hk => hk.2) (.slice Ao132 t487.length co132)) (fun _ hk => hk.2) (.int .i64 t490)) (fun _ h_ => h_.1)))); (case side2 => exact (Kd.R_reads' HO489.out).2.1); (case side3 => refine (Kd.R_reads' (e := 50) (base := w.heap.size) (ok := fun k_ => (some k_ ≠ (v421 : Value).ownBlock ∧ (some k_ ≠ (v426 : Value).ownBlock ∧ (some k_ ≠ (.slice Ao79 t437.length co79 : Value).ownBlock ∧ (some k_ ≠ (.slice Ao89 t443.length co89 : Value).ownBlock ∧ (some k_ ≠ (.slice Ao101 t449.length co101 : Value).ownBlock ∧ (some k_ ≠ (.slice Ao106 t457.length co106 : Value).ownBlock ∧ (some k_ ≠ (.slice Ao110 t463.length co110 : Value).ownBlock ∧ (some k_ ≠ (v478 : Value).ownBlock ∧ (some k_ ≠ (v483 : Value).ownBlock ∧ some k_ ≠ (.slice Ao132 t487.length co132 : Value).ownBlock)))))))))) (n := t430.length) (c := co68) ?_).2.2; exact (by (with_reducible repeat (first | apply Kd.R_alloc | apply Kd.R_drewN | apply Kd.R_drew)); exact (Kd.R_mono (Kd.R_far (p := ⟨gb492, 2, none⟩) (Kd.R_far (p := ⟨gb492, 1, none⟩) (Kd.R_far (p := ⟨gb492, 0, none⟩) (Kd.R_types HO432.out BK492.out (by decide)) (fun _ hk => hk.2) (.bool t486)) (fun _ hk => hk.2) (.slice Ao132 t487.length co132)) (fun _ hk => hk.2) (.int .i64 t490)) (fun _ h_ => h_.1)))); (case side4 => exact (Kd.R_reads' HO432.out).2.1); rintro e w143 ⟨rfl, hb⟩; refine ⟨_, rfl, ?_⟩; replace HO422 := AM (Kd.R_below (by (with_reducible repeat (first | apply Kd.R_alloc | apply Kd.R_drewN | apply Kd.R_drew)); exact (Kd.R_mono (Kd.R_far (p := ⟨gb492, 2, none⟩) (Kd.R_far (p := ⟨gb492, 1, none⟩) (Kd.R_far (p := ⟨gb492, 0, none⟩) (Kd.R_types HO422.out BK492.out (by decide)) (fun _ hk => hk.2) (.bool t486)) (fun _ hk => hk.2) (.slice Ao132 t487.length co132)) (fun _ hk => hk.2) (.int .i64 t490)) (fun _ h_ => h_.1))) hb); replace HO427 := AM (Kd.R_below (by (with_reducible repeat (first | apply Kd.R_alloc | apply Kd.R_drewN | apply Kd.R_drew)); exact (Kd.R_mono (Kd.R_far (p := ⟨gb492, 2, none⟩) (Kd.R_far (p := ⟨gb492, 1, none⟩) (Kd.R_far (p := ⟨gb492, 0, none⟩) (Kd.R_types HO427.out BK492.out (by decide)) (fun _ hk => hk.2) (.bool t486)) (fun _ hk => hk.2) (.slice Ao132 t487.length co132)) (fun _ hk => hk.2) (.int .i64 t490)) (fun _ h_ => h_.1))) hb); replace HO432 := AM (Kd.R_below (by (with_reducible repeat (first | apply Kd.R_alloc | apply Kd.R_drewN | apply Kd.R_drew)); exact (Kd.R_mono (Kd.R_far (p := ⟨gb492, 2, none⟩) (Kd.R_far (p := ⟨gb492, 1, none⟩) (Kd.R_far (p := ⟨gb492, 0, none⟩) (Kd.R_types HO432.out BK492.out (by decide)) (fun _ hk => hk.2) (.bool t486)) (fun _ hk => hk.2) (.slice Ao132 t487.length co132)) (fun _ hk => hk.2) (.int .i64 t490)) (fun _ h_ => h_.1))) hb); replace HO439 := AM (Kd.R_below (by (with_reducible repeat (first | apply Kd.R_alloc | apply Kd.R_drewN | apply Kd.R_drew)); exact (Kd.R_mono (Kd.R_far (p := ⟨gb492, 2, none⟩) (Kd.R_far (p := ⟨gb492, 1, none⟩) (Kd.R_far (p := ⟨gb492, 0, none⟩) (Kd.R_types HO439.out BK492.out (by decide)) (fun _ hk => hk.2) (.bool t486)) (fun _ hk => hk.2) (.slice Ao132 t487.length co132)) (fun _ hk => hk.2) (.int .i64 t490)) (fun _ h_ => h_.1))) hb); replace HO445 := AM (Kd.R_below (by (with_reducible repeat (first | apply Kd.R_alloc | apply Kd.R_drewN | apply Kd.R_drew)); exact (Kd.R_mono (Kd.R_far (p := ⟨gb492, 2, none⟩) (Kd.R_far (p := ⟨gb492, 1, none⟩) (Kd.R_far (p := ⟨gb492, 0, none⟩) (Kd.R_types HO445.out BK492.out (by decide)) (fun _ hk => hk.2) (.bool t486)) (fun _ hk => hk.2) (.slice Ao132 t487.length co132)) (fun _ hk => hk.2) (.int .i64 t490)) (fun _ h_ => h_.1))) hb); replace HO451 := AM (Kd.R_below (by (with_reducible repeat (first | apply Kd.R_alloc | apply Kd.R_drewN | apply Kd.R_drew)); exact (Kd.R_mono (Kd.R_far (p := ⟨gb492, 2, none⟩) (Kd.R_far (p := ⟨gb492, 1, none⟩) (Kd.R_far (p := ⟨gb492, 0, none⟩) (Kd.R_types HO451.out BK492.out (by decide)) (fun _ hk => hk.2) (.bool t486)) (fun _ hk => hk.2) (.slice Ao132 t487.length co132)) (fun _ hk => hk.2) (.int .i64 t490)) (fun _ h_ => h_.1))) hb); replace HO459 := AM (Kd.R_below (by (with_reducible repeat (first | apply Kd.R_alloc | apply Kd.R_drewN | apply Kd.R_drew)); exact (Kd.R_mono (Kd.R_far (p := ⟨gb492, 2, none⟩) (Kd.R_far (p := ⟨gb492, 1, none⟩) (Kd.R_far (p := ⟨gb492, 0, none⟩) (Kd.R_types HO459.out BK492.out (by decide)) (fun _ hk => hk.2) (.bool t486)) (fun _ hk => hk.2) (.slice Ao132 t487.length co132)) (fun _ hk => hk.2) (.int .i64 t490)) (fun _ h_ => h_.1))) hb); replace HO465 := AM (Kd.R_below (by (with_reducible repeat (first | apply Kd.R_alloc | apply Kd.R_drewN | apply Kd.R_drew)); exact (Kd.R_mono (Kd.R_far (p := ⟨gb492, 2, none⟩) (Kd.R_far (p := ⟨gb492, 1, none⟩) (Kd.R_far (p := ⟨gb492, 0, none⟩) (Kd.R_types HO465.out BK492.out (by decide)) (fun _ hk => hk.2) (.bool t486)) (fun _ hk => hk.2) (.slice Ao132 t487.length co132)) (fun _ hk => hk.2) (.int .i64 t490)) (fun _ h_ => h_.1))) hb); replace HO479 := AM (Kd.R_below (by (with_reducible repeat (first | apply Kd.R_alloc | apply Kd.R_drewN | apply Kd.R_drew)); exact (Kd.R_mono (Kd.R_far (p := ⟨gb492, 2, none⟩) (Kd.R_far (p := ⟨gb492, 1, none⟩) (Kd.R_far (p := ⟨gb492, 0, none⟩) (Kd.R_types HO479.out BK492.out (by decide)) (fun _ hk => hk.2) (.bool t486)) (fun _ hk => hk.2) (.slice Ao132 t487.length co132)) (fun _ hk => hk.2) (.int .i64 t490)) (fun _ h_ => h_.1))) hb); replace HO484 := AM (Kd.R_below (by (with_reducible repeat (first | apply Kd.R_alloc | apply Kd.R_drewN | apply Kd.R_drew)); exact (Kd.R_mono (Kd.R_far (p := ⟨gb492, 2, none⟩) (Kd.R_far (p := ⟨gb492, 1, none⟩) (Kd.R_far (p := ⟨gb492, 0, none⟩) (Kd.R_types HO484.out BK492.out (by decide)) (fun _ hk => hk.2) (.bool t486)) (fun _ hk => hk.2) (.slice Ao132 t487.length co132)) (fun _ hk => hk.2) (.int .i64 t490)) (fun _ h_ => h_.1))) hb); replace HO489 := AM (Kd.R_below (by (with_reducible repeat (first | apply Kd.R_alloc | apply Kd.R_drewN | apply Kd.R_drew)); exact (Kd.R_mono (Kd.R_far (p := ⟨gb492, 2, none⟩) (Kd.R_far (p := ⟨gb492, 1, none⟩) (Kd.R_far (p := ⟨gb492, 0, none⟩) (Kd.R_types HO489.out BK492.out (by decide)) (fun _ hk => hk.2) (.bool t486)) (fun _ hk => hk.2) (.slice Ao132 t487.length co132)) (fun _ hk => hk.2) (.int .i64 t490)) (fun _ h_ => h_.1))) hb); replace BK415 := AM (blk_below (g := gb415) (o := .cells #[.bool a0_0, .slice A0_1 l0_1.length c0_1, .int .i64 a0_2] 74 (0, 0)) (by refine sB ?_; refine blk_far ?_ NB415_492.out _; refine sB ?_; refine blk_far ?_ NB415_492.out _; refine sB ?_; refine blk_far ?_ NB415_492.out _; refine sB ?_; exact BK415.out) hb); replace BK416 := AM (blk_below (g := gb416) (o := .cells #[.bool a1_0, .slice A1_1 l1_1.length c1_1, .int .i64 a1_2] 74 (0, 0)) (by refine sB ?_; refine blk_far ?_ NB416_492.out _; refine sB ?_; refine blk_far ?_ NB416_492.out _; refine sB ?_; refine blk_far ?_ NB416_492.out _; refine sB ?_; exact BK416.out) hb); replace BK435 := AM (blk_below (g := gb435) (o := .cells #[.bool t429, .slice Ao68 t430.length co68, .int .i64 t433] 77 (0, 0)) (by refine sB ?_; refine blk_far ?_ NB435_492.out _; refine sB ?_; refine blk_far ?_ NB435_492.out _; refine sB ?_; refine blk_far ?_ NB435_492.out _; refine sB ?_; exact BK435.out) hb); replace BK441 := AM (blk_below (g := gb441) (o := .cells #[.bool t436, .slice Ao79 t437.length co79, .int .i64 t440] 77 (0, 0)) (by refine sB ?_; refine blk_far ?_ NB441_492.out _; refine sB ?_; refine blk_far ?_ NB441_492.out _; refine sB ?_; refine blk_far ?_ NB441_492.out _; refine sB ?_; exact BK441.out) hb); replace BK447 := AM (blk_below (g := gb447) (o := .cells #[.bool t442, .slice Ao89 t443.length co89, .int .i64 t446] 77 (0, 0)) (by refine sB ?_; refine blk_far ?_ NB447_492.out _; refine sB ?_; refine blk_far ?_ NB447_492.out _; refine sB ?_; refine blk_far ?_ NB447_492.out _; refine sB ?_; exact BK447.out) hb); replace BK454 := AM (blk_below (g := gb454) (o := .cells #[.bool t448, .slice Ao101 t449.length co101, .int .i64 t452] 77 (0, 0)) (by refine sB ?_; refine blk_far ?_ NB454_492.out _; refine sB ?_; refine blk_far ?_ NB454_492.out _; refine sB ?_; refine blk_far ?_ NB454_492.out _; refine sB ?_; exact BK454.out) hb); replace BK492 := AM (blk_below (g := gb492) (o := .cells #[.bool t486, .slice Ao132 t487.length co132, .int .i64 t490] 77 (0, 0)) (by refine sB ?_; refine blk_put (cs := #[.bool t486, .slice Ao132 t487.length co132, .int .i64 0]) ?_ 2 _ rfl; refine sB ?_; refine blk_put (cs := #[.bool t486, .slice none 0 0, .int .i64 0]) ?_ 1 _ rfl; refine sB ?_; refine blk_put (cs := #[.bool false, .slice none 0 0, .int .i64 0]) ?_ 0 _ rfl; refine sB ?_; exact BK492.out) hb); replace HB := AM (below_step (pH HB) hb); (try clear hb); (try clear hb2); (try clear hk); (try clear hi); have ⟨hcz144_0, hcz144_1, hcz144_2, hfz144_0, hfz144_1, hfz144_2⟩ := z3 BK454) | ((with_reducible refine gate_callee (f := 48) rfl ?_); refine goesL_ (some 113) rfl rfl Try.func48 (by kernel_rfl) rfl #[.agg #[.bool t448, .slice Ao101 t474.length co101, .int .i64 t452], .int .i64 1] rfl (by (try simp only [List.map_toArray, List.map_cons, List.map_nil]); first | done | (rw [show t474.length = t449.length from (Kd.R_reads' HO451.out).1.symm] <;> rfl) | rfl | (simp only [List.length_drop, List.length_take]; rfl)) ?_; (with_reducible refine (laws_heldDyadic.calls k t448 _ _ t474 t452 1 t494 _ ?side1 ?side2 A49.out).mono ?_); (case side1 => exact cR HO451); (case side2 => rw [show t474.length = t449.length from (Kd.R_reads' HO451.out).1.symm]; exact (Kd.R_reads' HO451.out).2.1); rintro e w145 ⟨rfl, hb⟩; refine ⟨_, rfl, ?_⟩; replace HO422 := AM (Kd.R_below (pR HO422) hb); replace HO427 := AM (Kd.R_below (pR HO427) hb); replace HO432 := AM (Kd.R_below (pR HO432) hb); replace HO439 := AM (Kd.R_below (pR HO439) hb); replace HO445 := AM (Kd.R_below (pR HO445) hb); replace HO451 := AM (Kd.R_below (pR HO451) hb); replace HO459 := AM (Kd.R_below (pR HO459) hb); replace HO465 := AM (Kd.R_below (pR HO465) hb); replace HO479 := AM (Kd.R_below (pR HO479) hb); replace HO484 := AM (Kd.R_below (pR HO484) hb); replace HO489 := AM (Kd.R_below (pR HO489) hb); replace BK415 := bB BK415 hb; replace BK416 := bB BK416 hb; replace BK435 := bB BK435 hb; replace BK441 := bB BK441 hb; replace BK447 := bB BK447 hb; replace BK454 := bB BK454 hb; replace BK492 := bB BK492 hb; replace HB := AM (below_step (pH HB) hb); (try clear hb); (try clear hb2); (try clear hk); (try clear hi)))
 go_ret
 exact ⟨by first | rfl | (simp [errW_none, errW_some] <;> rfl) | (simp [*, errW_none, errW_some] <;> rfl), pH HB⟩
end Go.Proofs.Ytcpdeenhjodmfaa.QDyMul
