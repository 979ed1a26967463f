-- Written by wip/tools/mkprint.py (my program) out of the translation, for this claim. Not trusted: Lean checks it.
import Derived.Test.YtcpdeenhjodmfaaQEncodeScenex0
import Derived.Test.YtcpdeenhjodmfaaQEncodeScenex5
namespace Go.Proofs.Ytcpdeenhjodmfaa.QEncodeScene
open Go.RowKit Go.Proofs.YtcpdeenhjodmfaaW.PrintWords Go.Proofs.YtcpdeenhjodmfaaW.PrintLast Go.Proofs.YtcpdeenhjodmfaaW.PrintMore
attribute [local go_sem] max2_int min2_int max_two min_two max_three min_three max_four min_four   -- for this text's walks alone
set_option linter.unusedVariables false
set_option linter.unusedSimpArgs false

/-! ### impl_finitePoint: function 135 -/
def impl_finitePoint.f (a0_0 : Int) (a0_1 : Int) (a0_2 : Int) : Option (Bool) := (impl_finite.f a0_0).bind fun t316 => (if t316 = true then ((impl_finite.f a0_1).bind fun t317 => (if t317 = true then ((impl_finite.f a0_2).bind fun t318 => (some t318)) else (some false))) else (some false))
set_option maxHeartbeats 8000000 in
set_option maxRecDepth 100000 in
theorem impl_finitePoint.calls (a0_0 : Int) (a0_1 : Int) (a0_2 : Int) (r : Bool) (w : World) (h : impl_finitePoint.f a0_0 a0_1 a0_2 = some r) :
 Calls Try.prog 135 #[.agg #[.int .u32 a0_0, .int .u32 a0_1, .int .u32 a0_2]] w fun e w' => e = .returned (.bool r) ∧ Below w.heap.size w w' := by
 have hu125 := Try.underlying125; have HB := AM (Below.refl w.heap.size w)
 have H : ((impl_finite.f a0_0).bind fun t316 => (if t316 = true then ((impl_finite.f a0_1).bind fun t317 => (if t317 = true then ((impl_finite.f a0_2).bind fun t318 => (some t318)) else (some false))) else (some false))) = some r := h
 clear h
 replace H := Option.bind_eq_some_iff.mp H
 obtain ⟨t316, A20, H⟩ := H
 (try dsimp only at H)
 have A2 := AM A20; clear A20
 by_cases c3 : t316 = true
 rotate_left
 · replace c3 := Bool.eq_false_iff.mpr c3
   subst c3
   have H1 : (some false) = some r := by rw [if_neg (show ¬ (false = true) by decide)] at H; exact H
   clear H; have H := H1; clear H1
   obtain rfl := Option.some.inj H
   go_enter Try.func135, Try.ntmps135
   go_wp2_with (first | ((with_reducible refine gate_dst (N := 1) rfl ?_); refine box_event ?hg (N := 1) ?hd (cs := #[.int .u32 a0_0, .int .u32 a0_1, .int .u32 a0_2]) (t := 125) ?hr ?_; (case hd => rfl); (case hg => rfl); (case hr => first | (go_simp; done) | (go_simp; rfl)); intro gb315 hg w11 hbox hb; have BK315 := AM (hbox); have GW315 := gH HB hg; have GE315 := gH HB hg; replace HB := AM (below_step (pH HB) hb); clear hb hbox hg; have ⟨hcz12_0, hcz12_1, hcz12_2, hfz12_0, hfz12_1, hfz12_2⟩ := z3 BK315) | ((with_reducible refine gate_callee (f := 79) rfl ?_); refine goesL_ (some 5) rfl rfl Try.func79 (by kernel_rfl) rfl #[.int .u32 a0_0] rfl (by (try simp only [List.map_toArray, List.map_cons, List.map_nil]); first | done | rfl | (simp only [List.length_drop, List.length_take]; rfl)) ?_; (with_reducible refine (impl_finite.calls a0_0 false _ A2.out).mono ?_); rintro e w' ⟨rfl, ⟨nd, rfl⟩⟩; refine ⟨_, rfl, ?_⟩))
   go_ret
   exact ⟨by first | rfl | (simp [errW_none, errW_some] <;> rfl) | (simp [*, errW_none, errW_some] <;> rfl), pH HB⟩

 subst c3
 have H1 : ((impl_finite.f a0_1).bind fun t317 => (if t317 = true then ((impl_finite.f a0_2).bind fun t318 => (some t318)) else (some false))) = some r := by rw [if_pos rfl] at H; exact H
 clear H; have H := H1; clear H1
 replace H := Option.bind_eq_some_iff.mp H
 obtain ⟨t317, A40, H⟩ := H
 (try dsimp only at H)
 have A4 := AM A40; clear A40
 by_cases c5 : t317 = true
 rotate_left
 · replace c5 := Bool.eq_false_iff.mpr c5
   subst c5
   have H1 : (some false) = some r := by rw [if_neg (show ¬ (false = true) by decide)] at H; exact H
   clear H; have H := H1; clear H1
   obtain rfl := Option.some.inj H
   go_enter Try.func135, Try.ntmps135
   go_wp2_with (first | ((with_reducible refine gate_dst (N := 1) rfl ?_); refine box_event ?hg (N := 1) ?hd (cs := #[.int .u32 a0_0, .int .u32 a0_1, .int .u32 a0_2]) (t := 125) ?hr ?_; (case hd => rfl); (case hg => rfl); (case hr => first | (go_simp; done) | (go_simp; rfl)); intro gb315 hg w9 hbox hb; have BK315 := AM (hbox); have GW315 := gH HB hg; have GE315 := gH HB hg; replace HB := AM (below_step (pH HB) hb); clear hb hbox hg; have ⟨hcz10_0, hcz10_1, hcz10_2, hfz10_0, hfz10_1, hfz10_2⟩ := z3 BK315) | ((with_reducible refine gate_callee (f := 79) rfl ?_); refine goesL_ (some 5) rfl rfl Try.func79 (by kernel_rfl) rfl #[.int .u32 a0_0] rfl (by (try simp only [List.map_toArray, List.map_cons, List.map_nil]); first | done | rfl | (simp only [List.length_drop, List.length_take]; rfl)) ?_; (with_reducible refine (impl_finite.calls a0_0 true _ A2.out).mono ?_); rintro e w' ⟨rfl, ⟨nd, rfl⟩⟩; refine ⟨_, rfl, ?_⟩) | (go_at_call 79; (with_reducible refine (impl_finite.calls a0_1 false _ A4.out).mono ?_); rintro e w' ⟨rfl, ⟨nd, rfl⟩⟩))
   go_ret
   exact ⟨by first | rfl | (simp [errW_none, errW_some] <;> rfl) | (simp [*, errW_none, errW_some] <;> rfl), pH HB⟩
 subst c5
 have H1 : ((impl_finite.f a0_2).bind fun t318 => (some t318)) = some r := by rw [if_pos rfl] at H; exact H
 clear H; have H := H1; clear H1
 replace H := Option.bind_eq_some_iff.mp H
 obtain ⟨t318, A60, H⟩ := H
 (try dsimp only at H)
 have A6 := AM A60; clear A60
 obtain rfl := Option.some.inj H
 go_enter Try.func135, Try.ntmps135
 go_wp2_with (first | ((with_reducible refine gate_dst (N := 1) rfl ?_); refine box_event ?hg (N := 1) ?hd (cs := #[.int .u32 a0_0, .int .u32 a0_1, .int .u32 a0_2]) (t := 125) ?hr ?_; (case hd => rfl); (case hg => rfl); (case hr => first | (go_simp; done) | (go_simp; rfl)); intro gb315 hg w7 hbox hb; have BK315 := AM (hbox); have GW315 := gH HB hg; have GE315 := gH HB hg; replace HB := AM (below_step (pH HB) hb); clear hb hbox hg; have ⟨hcz8_0, hcz8_1, hcz8_2, hfz8_0, hfz8_1, hfz8_2⟩ := z3 BK315) | ((with_reducible refine gate_callee (f := 79) rfl ?_); refine goesL_ (some 5) rfl rfl Try.func79 (by kernel_rfl) rfl #[.int .u32 a0_0] rfl (by (try simp only [List.map_toArray, List.map_cons, List.map_nil]); first | done | rfl | (simp only [List.length_drop, List.length_take]; rfl)) ?_; (with_reducible refine (impl_finite.calls a0_0 true _ A2.out).mono ?_); rintro e w' ⟨rfl, ⟨nd, rfl⟩⟩; refine ⟨_, rfl, ?_⟩) | (go_at_call 79; (with_reducible refine (impl_finite.calls a0_1 true _ A4.out).mono ?_); rintro e w' ⟨rfl, ⟨nd, rfl⟩⟩) | (go_at_call 79; (with_reducible refine (impl_finite.calls a0_2 t318 _ A6.out).mono ?_); rintro e w' ⟨rfl, ⟨nd, rfl⟩⟩))
 go_ret
 exact ⟨by first | rfl | (simp [errW_none, errW_some] <;> rfl) | (simp [*, errW_none, errW_some] <;> rfl), pH HB⟩
/-! ### impl_finitePoints: function 96 -/
def impl_finitePoints.l0 : Nat → List (S125) → Int → Int → Option (Bool)
 | 0, _, _, _ => none
 | k + 1, x5, x6, x7 => if x7 < x6 then (if 0 ≤ x7 then (if x7 < (x5.length : Int) then ((impl_finitePoint.f ((rd_T125 x5 x7).f0) ((rd_T125 x5 x7).f1) ((rd_T125 x5 x7).f2)).bind fun t321 => (if t321 = true then (impl_finitePoints.l0 k x5 x6 (wrap64 (x7 + 1))) else (some false))) else (none)) else (none)) else (some true)
def impl_finitePoints.f (k : Nat) (l0 : List (S125)) : Option (Bool) := impl_finitePoints.l0 k l0 (l0.length : Int) 0
theorem impl_finitePoints.mono_l : ∀ k, (∀ y0 y1 y2, LeO (impl_finitePoints.l0 k y0 y1 y2) (impl_finitePoints.l0 (k + 1) y0 y1 y2))
 | 0 => fun _ _ _ r h => by simp [impl_finitePoints.l0] at h
 | k + 1 => by
  have ih0 := impl_finitePoints.mono_l k
  · intro y0 y1 y2
    unfold impl_finitePoints.l0
    repeat' with_reducible first | exact ih0 _ _ _ | exact LeO.refl _ | exact LeO.none _ | refine LeO.ite ?_ ?_ | refine LeO.bind ?_ (fun _ => ?_)
theorem impl_finitePoints.mono : ∀ a0 k, LeO (impl_finitePoints.f k a0) (impl_finitePoints.f (k + 1) a0) := by
 intro a0 k
 have ih0 := impl_finitePoints.mono_l k
 unfold impl_finitePoints.f
 repeat' with_reducible first | exact ih0 _ _ _ | exact LeO.refl _ | exact LeO.none _ | refine LeO.ite ?_ ?_ | refine LeO.bind ?_ (fun _ => ?_)
set_option maxHeartbeats 8000000 in
set_option maxRecDepth 100000 in
theorem impl_finitePoints.calls (k : Nat) (A0 : Option Addr) (c0 : Nat) (l0 : List (S125)) (r : Bool) (w : World) (hr0 : Kd.C k125 w A0 l0.length l0) (hc0 : l0.length ≤ c0) (h : impl_finitePoints.f k l0 = some r) :
 Calls Try.prog 96 #[.slice A0 l0.length c0] w fun e w' => e = .returned (.bool r) ∧ Below w.heap.size w w' := by
 have hu125 := Try.underlying125; have HR0 := AM hr0; have HC0 := AM hc0; clear hr0 hc0; have HB := AM (Below.refl w.heap.size w)
 have H : (impl_finitePoints.l0 k l0 (l0.length : Int) 0) = some r := h
 clear h
 have H' := AM H
 clear H
 go_enter Try.func96, Try.ntmps96
 go_wp2
 go_loopg [7] k (fun kq v7 w' => ∃ (x7_1 : Int), v7 = .int .i64 x7_1 ∧ Aside0 (impl_finitePoints.l0 kq l0 (l0.length : Int) x7_1 = some r) ∧ Aside0 (kq ≤ k) ∧ Aside0 (Below w.heap.size w w'))
 case atStart => exact ⟨(0), (by first | rfl | (simp; done) | (simp [*]; done)), H', ⟨Nat.le_refl _⟩, ⟨pH HB⟩⟩
 case round =>
  clear H'
  obtain ⟨x7_1, rfl, HA, HK1, HB⟩ := hrel
  cases gk with
  | zero => exact absurd HA.out (by simp [impl_finitePoints.l0])
  | succ k1 =>
   have H := HA.out; clear HA
   simp only [impl_finitePoints.l0] at H
   by_cases c2 : x7_1 < (l0.length : Int)
   rotate_left
   · rw [if_neg c2] at H
     have c2b0 : decide (x7_1 < (l0.length : Int)) = false := decide_eq_false c2
     clear c2
     obtain rfl := Option.some.inj H
     go_wp2
     go_ret
     exact ⟨by first | rfl | (simp [errW_none, errW_some] <;> rfl) | (simp [*, errW_none, errW_some] <;> rfl), pH HB⟩

   rw [if_pos c2] at H
   have c2b0 : decide (x7_1 < (l0.length : Int)) = true := decide_eq_true c2
   clear c2
   by_cases c3 : 0 ≤ x7_1
   rotate_left
   · rw [if_neg c3] at H
     exact absurd H (by simp)
   rw [if_pos c3] at H
   have c3b0 : decide (0 ≤ x7_1) = true := decide_eq_true c3
   clear c3
   by_cases c4 : x7_1 < (l0.length : Int)
   rotate_left
   · rw [if_neg c4] at H
     exact absurd H (by simp)
   rw [if_pos c4] at H
   have c4b0 : decide (x7_1 < (l0.length : Int)) = true := decide_eq_true c4
   clear c4
   replace H := Option.bind_eq_some_iff.mp H
   obtain ⟨t321, A50, H⟩ := H
   (try dsimp only at H)
   have A5 := AM A50; clear A50
   by_cases c6 : t321 = true
   rotate_left
   · replace c6 := Bool.eq_false_iff.mpr c6
     subst c6
     have H1 : (some false) = some r := by rw [if_neg (show ¬ (false = true) by decide)] at H; exact H
     clear H; have H := H1; clear H1
     obtain rfl := Option.some.inj H
     have p319 : 0 ≤ (x7_1 : Int) := of_decide_eq_true (by first | (with_reducible assumption) | assumption)
     have q319 : x7_1 < (l0.length : Int) := of_decide_eq_true (by first | (with_reducible assumption) | assumption)
     obtain ⟨ad319, e319, hx319_0, hx319_1, hx319_2⟩ := at_T125 HR0.out x7_1 p319 q319
     cases e319
     replace hx319_0 := (HB.out.cell (World.block_lt_of_cell? w _ hx319_0)).trans hx319_0; replace hx319_1 := (HB.out.cell (World.block_lt_of_cell? w _ hx319_1)).trans hx319_1; replace hx319_2 := (HB.out.cell (World.block_lt_of_cell? w _ hx319_2)).trans hx319_2; replace p319 := eq_true p319; replace q319 := eq_true q319
     go_wp2_with (first | ((with_reducible refine gate_dst (N := 4) rfl ?_); refine box_event ?hg (N := 4) ?hd (cs := #[.int .u32 0, .int .u32 0, .int .u32 0]) (t := 125) ?hr ?_; (case hd => rfl); (case hg => rfl); (case hr => first | (go_simp; done) | (go_simp; rfl)); intro gb320 hg w10 hbox hb; have BK320 := AM (hbox); have GW320 := gH HB hg; have GE320 := gH HB hg; replace HB := AM (below_step (pH HB) hb); clear hb hbox hg; have ⟨hcz11_0, hcz11_1, hcz11_2, hfz11_0, hfz11_1, hfz11_2⟩ := z3 BK320) | ((with_reducible refine gate_callee (f := 135) rfl ?_); refine goesL_ (some 12) rfl rfl Try.func135 (by kernel_rfl) rfl #[.agg #[.int .u32 ((rd_T125 l0 x7_1).f0), .int .u32 ((rd_T125 l0 x7_1).f1), .int .u32 ((rd_T125 l0 x7_1).f2)]] rfl (by (try simp only [List.map_toArray, List.map_cons, List.map_nil]); first | done | rfl | (simp only [List.length_drop, List.length_take]; rfl)) ?_; (with_reducible refine (impl_finitePoint.calls ((rd_T125 l0 x7_1).f0) ((rd_T125 l0 x7_1).f1) ((rd_T125 l0 x7_1).f2) false _ A5.out).mono ?_); rintro e w12 ⟨rfl, hb⟩; refine ⟨_, rfl, ?_⟩; replace BK320 := AM (blk_below (g := gb320) (o := .cells #[.int .u32 ((rd_T125 l0 x7_1).f0), .int .u32 ((rd_T125 l0 x7_1).f1), .int .u32 ((rd_T125 l0 x7_1).f2)] 125 (0, 0)) (by refine sB ?_; refine blk_put (cs := #[.int .u32 ((rd_T125 l0 x7_1).f0), .int .u32 ((rd_T125 l0 x7_1).f1), .int .u32 0]) ?_ 2 _ rfl; refine sB ?_; refine blk_put (cs := #[.int .u32 ((rd_T125 l0 x7_1).f0), .int .u32 0, .int .u32 0]) ?_ 1 _ rfl; refine sB ?_; refine blk_put (cs := #[.int .u32 0, .int .u32 0, .int .u32 0]) ?_ 0 _ rfl; refine sB ?_; exact BK320.out) hb); replace HB := AM (below_step (pH HB) hb); (try clear hb); (try clear hb2); (try clear hk); (try clear hi)))
     go_ret
     exact ⟨by first | rfl | (simp [errW_none, errW_some] <;> rfl) | (simp [*, errW_none, errW_some] <;> rfl), pH HB⟩
   subst c6
   have H1 : (impl_finitePoints.l0 k1 l0 (l0.length : Int) (wrap64 (x7_1 + 1))) = some r := by rw [if_pos rfl] at H; exact H
   clear H; have H := H1; clear H1
   have H' := AM H
   clear H
   have p319 : 0 ≤ (x7_1 : Int) := of_decide_eq_true (by first | (with_reducible assumption) | assumption)
   have q319 : x7_1 < (l0.length : Int) := of_decide_eq_true (by first | (with_reducible assumption) | assumption)
   obtain ⟨ad319, e319, hx319_0, hx319_1, hx319_2⟩ := at_T125 HR0.out x7_1 p319 q319
   cases e319
   replace hx319_0 := (HB.out.cell (World.block_lt_of_cell? w _ hx319_0)).trans hx319_0; replace hx319_1 := (HB.out.cell (World.block_lt_of_cell? w _ hx319_1)).trans hx319_1; replace hx319_2 := (HB.out.cell (World.block_lt_of_cell? w _ hx319_2)).trans hx319_2; replace p319 := eq_true p319; replace q319 := eq_true q319
   go_wp2_with (first | ((with_reducible refine gate_dst (N := 4) rfl ?_); refine box_event ?hg (N := 4) ?hd (cs := #[.int .u32 0, .int .u32 0, .int .u32 0]) (t := 125) ?hr ?_; (case hd => rfl); (case hg => rfl); (case hr => first | (go_simp; done) | (go_simp; rfl)); intro gb320 hg w7 hbox hb; have BK320 := AM (hbox); have GW320 := gH HB hg; have GE320 := gH HB hg; replace HB := AM (below_step (pH HB) hb); clear hb hbox hg; have ⟨hcz8_0, hcz8_1, hcz8_2, hfz8_0, hfz8_1, hfz8_2⟩ := z3 BK320) | ((with_reducible refine gate_callee (f := 135) rfl ?_); refine goesL_ (some 12) rfl rfl Try.func135 (by kernel_rfl) rfl #[.agg #[.int .u32 ((rd_T125 l0 x7_1).f0), .int .u32 ((rd_T125 l0 x7_1).f1), .int .u32 ((rd_T125 l0 x7_1).f2)]] rfl (by (try simp only [List.map_toArray, List.map_cons, List.map_nil]); first | done | rfl | (simp only [List.length_drop, List.length_take]; rfl)) ?_; (with_reducible refine (impl_finitePoint.calls ((rd_T125 l0 x7_1).f0) ((rd_T125 l0 x7_1).f1) ((rd_T125 l0 x7_1).f2) true _ A5.out).mono ?_); rintro e w9 ⟨rfl, hb⟩; refine ⟨_, rfl, ?_⟩; replace BK320 := AM (blk_below (g := gb320) (o := .cells #[.int .u32 ((rd_T125 l0 x7_1).f0), .int .u32 ((rd_T125 l0 x7_1).f1), .int .u32 ((rd_T125 l0 x7_1).f2)] 125 (0, 0)) (by refine sB ?_; refine blk_put (cs := #[.int .u32 ((rd_T125 l0 x7_1).f0), .int .u32 ((rd_T125 l0 x7_1).f1), .int .u32 0]) ?_ 2 _ rfl; refine sB ?_; refine blk_put (cs := #[.int .u32 ((rd_T125 l0 x7_1).f0), .int .u32 0, .int .u32 0]) ?_ 1 _ rfl; refine sB ?_; refine blk_put (cs := #[.int .u32 0, .int .u32 0, .int .u32 0]) ?_ 0 _ rfl; refine sB ?_; exact BK320.out) hb); replace HB := AM (below_step (pH HB) hb); (try clear hb); (try clear hb2); (try clear hk); (try clear hi)))
   go_roundg k1
   case measure => have := HK1.out; omega
   case rel => exact ⟨(wrap64 (x7_1 + 1)), (by first | rfl | (simp; done) | (simp [*]; done)), H', ⟨by have := HK1.out; omega⟩, ⟨pH HB⟩⟩
/-! ### impl_Tri_finite: function 133 -/
def impl_Tri_finite.f (k : Nat) (a0_0 : Int) (a0_1 : Int) (a0_2 : Int) (a0_3 : Int) (a0_4 : Int) (a0_5 : Int) (a0_6 : Int) (a0_7 : Int) (a0_8 : Int) : Option (Bool) := (impl_finitePoints.f k (([(⟨a0_0, a0_1, a0_2⟩ : S125), (⟨a0_3, a0_4, a0_5⟩ : S125), (⟨a0_6, a0_7, a0_8⟩ : S125)] : List (S125)))).bind fun t326 => (some t326)
theorem impl_Tri_finite.mono : ∀ a0 a1 a2 a3 a4 a5 a6 a7 a8 k, LeO (impl_Tri_finite.f k a0 a1 a2 a3 a4 a5 a6 a7 a8) (impl_Tri_finite.f (k + 1) a0 a1 a2 a3 a4 a5 a6 a7 a8) := by
 intro a0 a1 a2 a3 a4 a5 a6 a7 a8 k
 unfold impl_Tri_finite.f
 repeat' with_reducible first | exact impl_finitePoints.mono _ _ | exact LeO.refl _ | exact LeO.none _ | refine LeO.ite ?_ ?_ | refine LeO.bind ?_ (fun _ => ?_)
set_option maxHeartbeats 8000000 in
set_option maxRecDepth 100000 in
theorem impl_Tri_finite.calls (k : Nat) (a0_0 : Int) (a0_1 : Int) (a0_2 : Int) (a0_3 : Int) (a0_4 : Int) (a0_5 : Int) (a0_6 : Int) (a0_7 : Int) (a0_8 : Int) (r : Bool) (w : World) (h : impl_Tri_finite.f k a0_0 a0_1 a0_2 a0_3 a0_4 a0_5 a0_6 a0_7 a0_8 = some r) :
 Calls Try.prog 133 #[.agg #[.int .u32 a0_0, .int .u32 a0_1, .int .u32 a0_2, .int .u32 a0_3, .int .u32 a0_4, .int .u32 a0_5, .int .u32 a0_6, .int .u32 a0_7, .int .u32 a0_8]] w fun e w' => e = .returned (.bool r) ∧ Below w.heap.size w w' := by
 have hu151 := Try.underlying151; have hu125 := Try.underlying125; have HB := AM (Below.refl w.heap.size w)
 have H : ((impl_finitePoints.f k (([(⟨a0_0, a0_1, a0_2⟩ : S125), (⟨a0_3, a0_4, a0_5⟩ : S125), (⟨a0_6, a0_7, a0_8⟩ : S125)] : List (S125)))).bind fun t326 => (some t326)) = some r := h
 clear h
 obtain ⟨y323, hy323⟩ : ∃ y_ : List (S125), y_ = (([(⟨a0_0, a0_1, a0_2⟩ : S125), (⟨a0_3, a0_4, a0_5⟩ : S125), (⟨a0_6, a0_7, a0_8⟩ : S125)] : List (S125))) := ⟨_, rfl⟩
 replace H : ((impl_finitePoints.f k y323).bind fun t326 => (some t326)) = some r := by first | (rw [hy323]; with_reducible exact H) | (have H2_ := (Option.bind_some _ _).symm.trans H; rw [hy323]; with_reducible exact H2_) | (have H2_ := (Option.bind_some _ _).symm.trans H; with_reducible exact H2_) | with_reducible exact H | (rw [hy323]; exact H) | exact H
 have Ny323 := AM hy323; clear hy323
 replace H := Option.bind_eq_some_iff.mp H
 obtain ⟨t326, A20, H⟩ := H
 (try dsimp only at H)
 have A2 := AM A20; clear A20
 obtain rfl := Option.some.inj H
 go_enter Try.func133, Try.ntmps133
 go_wp2_with (first | ((with_reducible refine gate_dst (N := 1) rfl ?_); refine box_event ?hg (N := 1) ?hd (cs := #[.int .u32 a0_0, .int .u32 a0_1, .int .u32 a0_2, .int .u32 a0_3, .int .u32 a0_4, .int .u32 a0_5, .int .u32 a0_6, .int .u32 a0_7, .int .u32 a0_8]) (t := 151) ?hr ?_; (case hd => rfl); (case hg => rfl); (case hr => first | (go_simp; done) | (go_simp; rfl)); intro gb322 hg w3 hbox hb; have BK322 := AM (hbox); have GW322 := gH HB hg; have GE322 := gH HB hg; replace HB := AM (below_step (pH HB) hb); clear hb hbox hg; have hcz4_0 : w3.cell? ⟨gb322, 0, none⟩ = some (.int .u32 a0_0) := (blk_cell BK322.out 0).trans rfl; have hcz4_1 : w3.cell? ⟨gb322, 1, none⟩ = some (.int .u32 a0_1) := (blk_cell BK322.out 1).trans rfl; have hcz4_2 : w3.cell? ⟨gb322, 2, none⟩ = some (.int .u32 a0_2) := (blk_cell BK322.out 2).trans rfl; have hcz4_3 : w3.cell? ⟨gb322, 3, none⟩ = some (.int .u32 a0_3) := (blk_cell BK322.out 3).trans rfl; have hcz4_4 : w3.cell? ⟨gb322, 4, none⟩ = some (.int .u32 a0_4) := (blk_cell BK322.out 4).trans rfl; have hcz4_5 : w3.cell? ⟨gb322, 5, none⟩ = some (.int .u32 a0_5) := (blk_cell BK322.out 5).trans rfl; have hcz4_6 : w3.cell? ⟨gb322, 6, none⟩ = some (.int .u32 a0_6) := (blk_cell BK322.out 6).trans rfl; have hcz4_7 : w3.cell? ⟨gb322, 7, none⟩ = some (.int .u32 a0_7) := (blk_cell BK322.out 7).trans rfl; have hcz4_8 : w3.cell? ⟨gb322, 8, none⟩ = some (.int .u32 a0_8) := (blk_cell BK322.out 8).trans rfl; have hfz4_0 := blk_frozen BK322.out 0; have hfz4_1 := blk_frozen BK322.out 1; have hfz4_2 := blk_frozen BK322.out 2; have hfz4_3 := blk_frozen BK322.out 3; have hfz4_4 := blk_frozen BK322.out 4; have hfz4_5 := blk_frozen BK322.out 5; have hfz4_6 := blk_frozen BK322.out 6; have hfz4_7 := blk_frozen BK322.out 7; have hfz4_8 := blk_frozen BK322.out 8) | ((with_reducible refine gate_dst (N := 9) rfl ?_); refine Kd.R_lit k125 _ 125 ?hg (N := 9) ?hd (xs := ([(⟨a0_0, a0_1, a0_2⟩ : S125), (⟨a0_3, a0_4, a0_5⟩ : S125), (⟨a0_6, a0_7, a0_8⟩ : S125)] : List (S125))) (inner := [.int .u32 a0_0, .int .u32 a0_1, .int .u32 a0_2, .int .u32 a0_3, .int .u32 a0_4, .int .u32 a0_5, .int .u32 a0_6, .int .u32 a0_7, .int .u32 a0_8]) (ok := fun _ => True) (okp := fun _ => True) ?hr ?hp (fun _ hk => hk) trivial (Below.refl _ _) (Nat.le_refl _) (by simp) ?_; (case hd => rfl); (case hg => rfl); (case hr => first | (go_simp; done) | (go_simp; rfl)); (case hp => exact (Reps.c3 (show Kd.M k125 _ _ _ (⟨a0_0, a0_1, a0_2⟩ : S125) [.int .u32 a0_0, .int .u32 a0_1, .int .u32 a0_2] from (k125_mkM _ _ _ (⟨a0_0, a0_1, a0_2⟩ : S125) )) (Reps.c3 (show Kd.M k125 _ _ _ (⟨a0_3, a0_4, a0_5⟩ : S125) [.int .u32 a0_3, .int .u32 a0_4, .int .u32 a0_5] from (k125_mkM _ _ _ (⟨a0_3, a0_4, a0_5⟩ : S125) )) (Reps.c3 (show Kd.M k125 _ _ _ (⟨a0_6, a0_7, a0_8⟩ : S125) [.int .u32 a0_6, .int .u32 a0_7, .int .u32 a0_8] from (k125_mkM _ _ _ (⟨a0_6, a0_7, a0_8⟩ : S125) )) (Reps.none _ _))))); intro v324 w5 ho6 hb hg_ hnew_; clear hg_ hnew_; (first | rw [← Ny323.out] at ho6 | (simp only [Int.reduceToNat] at ho6; rw [← Ny323.out] at ho6)); have HO325 := AM (Kd.R_lower ho6 (below_size (pH HB))); replace BK322 := bB BK322 hb; replace HB := AM (below_step (pH HB) hb); clear hb ho6; obtain ⟨Ao7, co7, eo7⟩ := Kd.R_slice HO325.out; subst eo7) | ((with_reducible refine gate_callee (f := 96) rfl ?_); refine goesL_ (some 10) rfl rfl Try.func96 (by kernel_rfl) rfl #[.slice Ao7 y323.length co7] rfl (by (try simp only [List.map_toArray, List.map_cons, List.map_nil]); first | done | rfl | (simp only [List.length_drop, List.length_take]; rfl)) ?_; (with_reducible refine (impl_finitePoints.calls k _ _ y323 t326 _ ?side1 ?side2 A2.out).mono ?_); (case side1 => exact cR HO325); (case side2 => exact (Kd.R_reads' HO325.out).2.1); rintro e w8 ⟨rfl, hb⟩; refine ⟨_, rfl, ?_⟩; replace HO325 := AM (Kd.R_below (pR HO325) hb); replace BK322 := bB BK322 hb; replace HB := AM (below_step (pH HB) hb); (try clear hb); (try clear hb2); (try clear hk); (try clear hi)))
 go_ret
 exact ⟨by first | rfl | (simp [errW_none, errW_some] <;> rfl) | (simp [*, errW_none, errW_some] <;> rfl), pH HB⟩

/-! ### impl_goodTris: function 94 -/
def impl_goodTris.l0 : Nat → List (S151) → Int → Int → Option (Bool)
 | 0, _, _, _ => none
 | k + 1, x8, x9, x10 => if x10 < x9 then (if 0 ≤ x10 then (if x10 < (x8.length : Int) then ((impl_Tri_finite.f k ((rd_T151 x8 x10).f0.f0) ((rd_T151 x8 x10).f0.f1) ((rd_T151 x8 x10).f0.f2) ((rd_T151 x8 x10).f1.f0) ((rd_T151 x8 x10).f1.f1) ((rd_T151 x8 x10).f1.f2) ((rd_T151 x8 x10).f2.f0) ((rd_T151 x8 x10).f2.f1) ((rd_T151 x8 x10).f2.f2)).bind fun t329 => (if t329 = true then (impl_goodTris.l0 k x8 x9 (wrap64 (x10 + 1))) else (some false))) else (none)) else (none)) else (some true)
def impl_goodTris.f (k : Nat) (l0 : List (S151)) : Option (Bool) := if (l0.length : Int) > 40 then (some false) else (impl_goodTris.l0 k l0 (l0.length : Int) 0)
theorem impl_goodTris.mono_l : ∀ k, (∀ y0 y1 y2, LeO (impl_goodTris.l0 k y0 y1 y2) (impl_goodTris.l0 (k + 1) y0 y1 y2))
 | 0 => fun _ _ _ r h => by simp [impl_goodTris.l0] at h
 | k + 1 => by
  have ih0 := impl_goodTris.mono_l k
  · intro y0 y1 y2
    unfold impl_goodTris.l0
    repeat' with_reducible first | exact ih0 _ _ _ | exact impl_Tri_finite.mono _ _ _ _ _ _ _ _ _ _ | exact LeO.refl _ | exact LeO.none _ | refine LeO.ite ?_ ?_ | refine LeO.bind ?_ (fun _ => ?_)
theorem impl_goodTris.mono : ∀ a0 k, LeO (impl_goodTris.f k a0) (impl_goodTris.f (k + 1) a0) := by
 intro a0 k
 have ih0 := impl_goodTris.mono_l k
 unfold impl_goodTris.f
 repeat' with_reducible first | exact ih0 _ _ _ | exact impl_Tri_finite.mono _ _ _ _ _ _ _ _ _ _ | exact LeO.refl _ | exact LeO.none _ | refine LeO.ite ?_ ?_ | refine LeO.bind ?_ (fun _ => ?_)
set_option maxHeartbeats 8000000 in
set_option maxRecDepth 100000 in
theorem impl_goodTris.calls (k : Nat) (A0 : Option Addr) (c0 : Nat) (l0 : List (S151)) (r : Bool) (w : World) (hr0 : Kd.C k151 w A0 l0.length l0) (hc0 : l0.length ≤ c0) (h : impl_goodTris.f k l0 = some r) :
 Calls Try.prog 94 #[.slice A0 l0.length c0] w fun e w' => e = .returned (.bool r) ∧ Below w.heap.size w w' := by
 have hu151 := Try.underlying151; have HR0 := AM hr0; have HC0 := AM hc0; clear hr0 hc0; have HB := AM (Below.refl w.heap.size w)
 have H : (if (l0.length : Int) > 40 then (some false) else (impl_goodTris.l0 k l0 (l0.length : Int) 0)) = some r := h
 clear h
 by_cases c2 : (l0.length : Int) > 40
 · rw [if_pos c2] at H
   have c2b0 : decide (40 < (l0.length : Int)) = true := decide_eq_true c2
   have c2b1 : decide (40 < l0.length) = true := decide_eq_true (by omega)
   clear c2
   obtain rfl := Option.some.inj H
   go_enter Try.func94, Try.ntmps94
   go_wp2
   go_ret
   exact ⟨by first | rfl | (simp [errW_none, errW_some] <;> rfl) | (simp [*, errW_none, errW_some] <;> rfl), pH HB⟩
 rw [if_neg c2] at H
 have c2b0 : decide (40 < (l0.length : Int)) = false := decide_eq_false c2
 have c2b1 : decide (40 < l0.length) = false := decide_eq_false (by omega)
 clear c2
 have H' := AM H
 clear H
 go_enter Try.func94, Try.ntmps94
 go_wp2
 go_loopg [10] k (fun kq v10 w' => ∃ (x10_1 : Int), v10 = .int .i64 x10_1 ∧ Aside0 (impl_goodTris.l0 kq l0 (l0.length : Int) x10_1 = some r) ∧ Aside0 (kq ≤ k) ∧ Aside0 (Below w.heap.size w w'))
 case atStart => exact ⟨(0), (by first | rfl | (simp; done) | (simp [*]; done)), H', ⟨Nat.le_refl _⟩, ⟨pH HB⟩⟩
 case round =>
  clear H'
  try clear c2
  try clear c2b0
  try clear c2b1
  try clear p2
  obtain ⟨x10_1, rfl, HA, HK1, HB⟩ := hrel
  cases gk with
  | zero => exact absurd HA.out (by simp [impl_goodTris.l0])
  | succ k1 =>
   have H := HA.out; clear HA
   simp only [impl_goodTris.l0] at H
   by_cases c3 : x10_1 < (l0.length : Int)
   rotate_left
   · rw [if_neg c3] at H
     have c3b0 : decide (x10_1 < (l0.length : Int)) = false := decide_eq_false c3
     clear c3
     obtain rfl := Option.some.inj H
     go_wp2
     go_ret
     exact ⟨by first | rfl | (simp [errW_none, errW_some] <;> rfl) | (simp [*, errW_none, errW_some] <;> rfl), pH HB⟩

   rw [if_pos c3] at H
   have c3b0 : decide (x10_1 < (l0.length : Int)) = true := decide_eq_true c3
   clear c3
   by_cases c4 : 0 ≤ x10_1
   rotate_left
   · rw [if_neg c4] at H
     exact absurd H (by simp)
   rw [if_pos c4] at H
   have c4b0 : decide (0 ≤ x10_1) = true := decide_eq_true c4
   clear c4
   by_cases c5 : x10_1 < (l0.length : Int)
   rotate_left
   · rw [if_neg c5] at H
     exact absurd H (by simp)
   rw [if_pos c5] at H
   have c5b0 : decide (x10_1 < (l0.length : Int)) = true := decide_eq_true c5
   clear c5
   replace H := Option.bind_eq_some_iff.mp H
   obtain ⟨t329, A60, H⟩ := H
   (try dsimp only at H)
   have A6 := AM A60; clear A60
   by_cases c7 : t329 = true
   rotate_left
   · replace c7 := Bool.eq_false_iff.mpr c7
     subst c7
     have H1 : (some false) = some r := by rw [if_neg (show ¬ (false = true) by decide)] at H; exact H
     clear H; have H := H1; clear H1
     obtain rfl := Option.some.inj H
     have p327 : 0 ≤ (x10_1 : Int) := of_decide_eq_true (by first | (with_reducible assumption) | assumption)
     have q327 : x10_1 < (l0.length : Int) := of_decide_eq_true (by first | (with_reducible assumption) | assumption)
     obtain ⟨ad327, e327, hx327_0, hx327_1, hx327_2, hx327_3, hx327_4, hx327_5, hx327_6, hx327_7, hx327_8⟩ := at_T151 HR0.out x10_1 p327 q327
     cases e327
     replace hx327_0 := (HB.out.cell (World.block_lt_of_cell? w _ hx327_0)).trans hx327_0; replace hx327_1 := (HB.out.cell (World.block_lt_of_cell? w _ hx327_1)).trans hx327_1; replace hx327_2 := (HB.out.cell (World.block_lt_of_cell? w _ hx327_2)).trans hx327_2; replace hx327_3 := (HB.out.cell (World.block_lt_of_cell? w _ hx327_3)).trans hx327_3; replace hx327_4 := (HB.out.cell (World.block_lt_of_cell? w _ hx327_4)).trans hx327_4; replace hx327_5 := (HB.out.cell (World.block_lt_of_cell? w _ hx327_5)).trans hx327_5; replace hx327_6 := (HB.out.cell (World.block_lt_of_cell? w _ hx327_6)).trans hx327_6; replace hx327_7 := (HB.out.cell (World.block_lt_of_cell? w _ hx327_7)).trans hx327_7; replace hx327_8 := (HB.out.cell (World.block_lt_of_cell? w _ hx327_8)).trans hx327_8; replace p327 := eq_true p327; replace q327 := eq_true q327
     go_wp2_with (first | ((with_reducible refine gate_dst (N := 4) rfl ?_); refine box_event ?hg (N := 4) ?hd (cs := #[.int .u32 0, .int .u32 0, .int .u32 0, .int .u32 0, .int .u32 0, .int .u32 0, .int .u32 0, .int .u32 0, .int .u32 0]) (t := 151) ?hr ?_; (case hd => rfl); (case hg => rfl); (case hr => first | (go_simp; done) | (go_simp; rfl)); intro gb328 hg w11 hbox hb; have BK328 := AM (hbox); have GW328 := gH HB hg; have GE328 := gH HB hg; replace HB := AM (below_step (pH HB) hb); clear hb hbox hg; have hcz12_0 : w11.cell? ⟨gb328, 0, none⟩ = some (.int .u32 0) := (blk_cell BK328.out 0).trans rfl; have hcz12_1 : w11.cell? ⟨gb328, 1, none⟩ = some (.int .u32 0) := (blk_cell BK328.out 1).trans rfl; have hcz12_2 : w11.cell? ⟨gb328, 2, none⟩ = some (.int .u32 0) := (blk_cell BK328.out 2).trans rfl; have hcz12_3 : w11.cell? ⟨gb328, 3, none⟩ = some (.int .u32 0) := (blk_cell BK328.out 3).trans rfl; have hcz12_4 : w11.cell? ⟨gb328, 4, none⟩ = some (.int .u32 0) := (blk_cell BK328.out 4).trans rfl; have hcz12_5 : w11.cell? ⟨gb328, 5, none⟩ = some (.int .u32 0) := (blk_cell BK328.out 5).trans rfl; have hcz12_6 : w11.cell? ⟨gb328, 6, none⟩ = some (.int .u32 0) := (blk_cell BK328.out 6).trans rfl; have hcz12_7 : w11.cell? ⟨gb328, 7, none⟩ = some (.int .u32 0) := (blk_cell BK328.out 7).trans rfl; have hcz12_8 : w11.cell? ⟨gb328, 8, none⟩ = some (.int .u32 0) := (blk_cell BK328.out 8).trans rfl; have hfz12_0 := blk_frozen BK328.out 0; have hfz12_1 := blk_frozen BK328.out 1; have hfz12_2 := blk_frozen BK328.out 2; have hfz12_3 := blk_frozen BK328.out 3; have hfz12_4 := blk_frozen BK328.out 4; have hfz12_5 := blk_frozen BK328.out 5; have hfz12_6 := blk_frozen BK328.out 6; have hfz12_7 := blk_frozen BK328.out 7; have hfz12_8 := blk_frozen BK328.out 8) | ((with_reducible refine gate_callee (f := 133) rfl ?_); refine goesL_ (some 15) rfl rfl Try.func133 (by kernel_rfl) rfl #[.agg #[.int .u32 ((rd_T151 l0 x10_1).f0.f0), .int .u32 ((rd_T151 l0 x10_1).f0.f1), .int .u32 ((rd_T151 l0 x10_1).f0.f2), .int .u32 ((rd_T151 l0 x10_1).f1.f0), .int .u32 ((rd_T151 l0 x10_1).f1.f1), .int .u32 ((rd_T151 l0 x10_1).f1.f2), .int .u32 ((rd_T151 l0 x10_1).f2.f0), .int .u32 ((rd_T151 l0 x10_1).f2.f1), .int .u32 ((rd_T151 l0 x10_1).f2.f2)]] rfl (by (try simp only [List.map_toArray, List.map_cons, List.map_nil]); first | done | rfl | (simp only [List.length_drop, List.length_take]; rfl)) ?_; (with_reducible refine (impl_Tri_finite.calls k1 ((rd_T151 l0 x10_1).f0.f0) ((rd_T151 l0 x10_1).f0.f1) ((rd_T151 l0 x10_1).f0.f2) ((rd_T151 l0 x10_1).f1.f0) ((rd_T151 l0 x10_1).f1.f1) ((rd_T151 l0 x10_1).f1.f2) ((rd_T151 l0 x10_1).f2.f0) ((rd_T151 l0 x10_1).f2.f1) ((rd_T151 l0 x10_1).f2.f2) false _ A6.out).mono ?_); rintro e w13 ⟨rfl, hb⟩; refine ⟨_, rfl, ?_⟩; replace BK328 := AM (blk_below (g := gb328) (o := .cells #[.int .u32 ((rd_T151 l0 x10_1).f0.f0), .int .u32 ((rd_T151 l0 x10_1).f0.f1), .int .u32 ((rd_T151 l0 x10_1).f0.f2), .int .u32 ((rd_T151 l0 x10_1).f1.f0), .int .u32 ((rd_T151 l0 x10_1).f1.f1), .int .u32 ((rd_T151 l0 x10_1).f1.f2), .int .u32 ((rd_T151 l0 x10_1).f2.f0), .int .u32 ((rd_T151 l0 x10_1).f2.f1), .int .u32 ((rd_T151 l0 x10_1).f2.f2)] 151 (0, 0)) (by refine sB ?_; refine blk_put (cs := #[.int .u32 ((rd_T151 l0 x10_1).f0.f0), .int .u32 ((rd_T151 l0 x10_1).f0.f1), .int .u32 ((rd_T151 l0 x10_1).f0.f2), .int .u32 ((rd_T151 l0 x10_1).f1.f0), .int .u32 ((rd_T151 l0 x10_1).f1.f1), .int .u32 ((rd_T151 l0 x10_1).f1.f2), .int .u32 ((rd_T151 l0 x10_1).f2.f0), .int .u32 ((rd_T151 l0 x10_1).f2.f1), .int .u32 0]) ?_ 8 _ rfl; refine sB ?_; refine blk_put (cs := #[.int .u32 ((rd_T151 l0 x10_1).f0.f0), .int .u32 ((rd_T151 l0 x10_1).f0.f1), .int .u32 ((rd_T151 l0 x10_1).f0.f2), .int .u32 ((rd_T151 l0 x10_1).f1.f0), .int .u32 ((rd_T151 l0 x10_1).f1.f1), .int .u32 ((rd_T151 l0 x10_1).f1.f2), .int .u32 ((rd_T151 l0 x10_1).f2.f0), .int .u32 0, .int .u32 0]) ?_ 7 _ rfl; refine sB ?_; refine blk_put (cs := #[.int .u32 ((rd_T151 l0 x10_1).f0.f0), .int .u32 ((rd_T151 l0 x10_1).f0.f1), .int .u32 ((rd_T151 l0 x10_1).f0.f2), .int .u32 ((rd_T151 l0 x10_1).f1.f0), .int .u32 ((rd_T151 l0 x10_1).f1.f1), .int .u32 ((rd_T151 l0 x10_1).f1.f2), .int .u32 0, .int .u32 0, .int .u32 0]) ?_ 6 _ rfl; refine sB ?_; refine blk_put (cs := #[.int .u32 ((rd_T151 l0 x10_1).f0.f0), .int .u32 ((rd_T151 l0 x10_1).f0.f1), .int .u32 ((rd_T151 l0 x10_1).f0.f2), .int .u32 ((rd_T151 l0 x10_1).f1.f0), .int .u32 ((rd_T151 l0 x10_1).f1.f1), .int .u32 0, .int .u32 0, .int .u32 0, .int .u32 0]) ?_ 5 _ rfl; refine sB ?_; refine blk_put (cs := #[.int .u32 ((rd_T151 l0 x10_1).f0.f0), .int .u32 ((rd_T151 l0 x10_1).f0.f1), .int .u32 ((rd_T151 l0 x10_1).f0.f2), .int .u32 ((rd_T151 l0 x10_1).f1.f0), .int .u32 0, .int .u32 0, .int .u32 0, .int .u32 0, .int .u32 0]) ?_ 4 _ rfl; refine sB ?_; refine blk_put (cs := #[.int .u32 ((rd_T151 l0 x10_1).f0.f0), .int .u32 ((rd_T151 l0 x10_1).f0.f1), .int .u32 ((rd_T151 l0 x10_1).f0.f2), .int .u32 0, .int .u32 0, .int .u32 0, .int .u32 0, .int .u32 0, .int .u32 0]) ?_ 3 _ rfl; refine sB ?_; refine blk_put (cs := #[.int .u32 ((rd_T151 l0 x10_1).f0.f0), .int .u32 ((rd_T151 l0 x10_1).f0.f1), .int .u32 0, .int .u32 0, .int .u32 0, .int .u32 0, .int .u32 0, .int .u32 0, .int .u32 0]) ?_ 2 _ rfl; refine sB ?_; refine blk_put (cs := #[.int .u32 ((rd_T151 l0 x10_1).f0.f0), .int .u32 0, .int .u32 0, .int .u32 0, .int .u32 0, .int .u32 0, .int .u32 0, .int .u32 0, .int .u32 0]) ?_ 1 _ rfl; refine sB ?_; refine blk_put (cs := #[.int .u32 0, .int .u32 0, .int .u32 0, .int .u32 0, .int .u32 0, .int .u32 0, .int .u32 0, .int .u32 0, .int .u32 0]) ?_ 0 _ rfl; refine sB ?_; exact BK328.out) hb); replace HB := AM (below_step (pH HB) hb); (try clear hb); (try clear hb2); (try clear hk); (try clear hi)))
     go_ret
     exact ⟨by first | rfl | (simp [errW_none, errW_some] <;> rfl) | (simp [*, errW_none, errW_some] <;> rfl), pH HB⟩
   subst c7
   have H1 : (impl_goodTris.l0 k1 l0 (l0.length : Int) (wrap64 (x10_1 + 1))) = some r := by rw [if_pos rfl] at H; exact H
   clear H; have H := H1; clear H1
   have H' := AM H
   clear H
   have p327 : 0 ≤ (x10_1 : Int) := of_decide_eq_true (by first | (with_reducible assumption) | assumption)
   have q327 : x10_1 < (l0.length : Int) := of_decide_eq_true (by first | (with_reducible assumption) | assumption)
   obtain ⟨ad327, e327, hx327_0, hx327_1, hx327_2, hx327_3, hx327_4, hx327_5, hx327_6, hx327_7, hx327_8⟩ := at_T151 HR0.out x10_1 p327 q327
   cases e327
   replace hx327_0 := (HB.out.cell (World.block_lt_of_cell? w _ hx327_0)).trans hx327_0; replace hx327_1 := (HB.out.cell (World.block_lt_of_cell? w _ hx327_1)).trans hx327_1; replace hx327_2 := (HB.out.cell (World.block_lt_of_cell? w _ hx327_2)).trans hx327_2; replace hx327_3 := (HB.out.cell (World.block_lt_of_cell? w _ hx327_3)).trans hx327_3; replace hx327_4 := (HB.out.cell (World.block_lt_of_cell? w _ hx327_4)).trans hx327_4; replace hx327_5 := (HB.out.cell (World.block_lt_of_cell? w _ hx327_5)).trans hx327_5; replace hx327_6 := (HB.out.cell (World.block_lt_of_cell? w _ hx327_6)).trans hx327_6; replace hx327_7 := (HB.out.cell (World.block_lt_of_cell? w _ hx327_7)).trans hx327_7; replace hx327_8 := (HB.out.cell (World.block_lt_of_cell? w _ hx327_8)).trans hx327_8; replace p327 := eq_true p327; replace q327 := eq_true q327
   go_wp2_with (first | ((with_reducible refine gate_dst (N := 4) rfl ?_); refine box_event ?hg (N := 4) ?hd (cs := #[.int .u32 0, .int .u32 0, .int .u32 0, .int .u32 0, .int .u32 0, .int .u32 0, .int .u32 0, .int .u32 0, .int .u32 0]) (t := 151) ?hr ?_; (case hd => rfl); (case hg => rfl); (case hr => first | (go_simp; done) | (go_simp; rfl)); intro gb328 hg w8 hbox hb; have BK328 := AM (hbox); have GW328 := gH HB hg; have GE328 := gH HB hg; replace HB := AM (below_step (pH HB) hb); clear hb hbox hg; have hcz9_0 : w8.cell? ⟨gb328, 0, none⟩ = some (.int .u32 0) := (blk_cell BK328.out 0).trans rfl; have hcz9_1 : w8.cell? ⟨gb328, 1, none⟩ = some (.int .u32 0) := (blk_cell BK328.out 1).trans rfl; have hcz9_2 : w8.cell? ⟨gb328, 2, none⟩ = some (.int .u32 0) := (blk_cell BK328.out 2).trans rfl; have hcz9_3 : w8.cell? ⟨gb328, 3, none⟩ = some (.int .u32 0) := (blk_cell BK328.out 3).trans rfl; have hcz9_4 : w8.cell? ⟨gb328, 4, none⟩ = some (.int .u32 0) := (blk_cell BK328.out 4).trans rfl; have hcz9_5 : w8.cell? ⟨gb328, 5, none⟩ = some (.int .u32 0) := (blk_cell BK328.out 5).trans rfl; have hcz9_6 : w8.cell? ⟨gb328, 6, none⟩ = some (.int .u32 0) := (blk_cell BK328.out 6).trans rfl; have hcz9_7 : w8.cell? ⟨gb328, 7, none⟩ = some (.int .u32 0) := (blk_cell BK328.out 7).trans rfl; have hcz9_8 : w8.cell? ⟨gb328, 8, none⟩ = some (.int .u32 0) := (blk_cell BK328.out 8).trans rfl; have hfz9_0 := blk_frozen BK328.out 0; have hfz9_1 := blk_frozen BK328.out 1; have hfz9_2 := blk_frozen BK328.out 2; have hfz9_3 := blk_frozen BK328.out 3; have hfz9_4 := blk_frozen BK328.out 4; have hfz9_5 := blk_frozen BK328.out 5; have hfz9_6 := blk_frozen BK328.out 6; have hfz9_7 := blk_frozen BK328.out 7; have hfz9_8 := blk_frozen BK328.out 8) | ((with_reducible refine gate_callee (f := 133) rfl ?_); refine goesL_ (some 15) rfl rfl Try.func133 (by kernel_rfl) rfl #[.agg #[.int .u32 ((rd_T151 l0 x10_1).f0.f0), .int .u32 ((rd_T151 l0 x10_1).f0.f1), .int .u32 ((rd_T151 l0 x10_1).f0.f2), .int .u32 ((rd_T151 l0 x10_1).f1.f0), .int .u32 ((rd_T151 l0 x10_1).f1.f1), .int .u32 ((rd_T151 l0 x10_1).f1.f2), .int .u32 ((rd_T151 l0 x10_1).f2.f0), .int .u32 ((rd_T151 l0 x10_1).f2.f1), .int .u32 ((rd_T151 l0 x10_1).f2.f2)]] rfl (by (try simp only [List.map_toArray, List.map_cons, List.map_nil]); first | done | rfl | (simp only [List.length_drop, List.length_take]; rfl)) ?_; (with_reducible refine (impl_Tri_finite.calls k1 ((rd_T151 l0 x10_1).f0.f0) ((rd_T151 l0 x10_1).f0.f1) ((rd_T151 l0 x10_1).f0.f2) ((rd_T151 l0 x10_1).f1.f0) ((rd_T151 l0 x10_1).f1.f1) ((rd_T151 l0 x10_1).f1.f2) ((rd_T151 l0 x10_1).f2.f0) ((rd_T151 l0 x10_1).f2.f1) ((rd_T151 l0 x10_1).f2.f2) true _ A6.out).mono ?_); rintro e w10 ⟨rfl, hb⟩; refine ⟨_, rfl, ?_⟩; replace BK328 := AM (blk_below (g := gb328) (o := .cells #[.int .u32 ((rd_T151 l0 x10_1).f0.f0), .int .u32 ((rd_T151 l0 x10_1).f0.f1), .int .u32 ((rd_T151 l0 x10_1).f0.f2), .int .u32 ((rd_T151 l0 x10_1).f1.f0), .int .u32 ((rd_T151 l0 x10_1).f1.f1), .int .u32 ((rd_T151 l0 x10_1).f1.f2), .int .u32 ((rd_T151 l0 x10_1).f2.f0), .int .u32 ((rd_T151 l0 x10_1).f2.f1), .int .u32 ((rd_T151 l0 x10_1).f2.f2)] 151 (0, 0)) (by refine sB ?_; refine blk_put (cs := #[.int .u32 ((rd_T151 l0 x10_1).f0.f0), .int .u32 ((rd_T151 l0 x10_1).f0.f1), .int .u32 ((rd_T151 l0 x10_1).f0.f2), .int .u32 ((rd_T151 l0 x10_1).f1.f0), .int .u32 ((rd_T151 l0 x10_1).f1.f1), .int .u32 ((rd_T151 l0 x10_1).f1.f2), .int .u32 ((rd_T151 l0 x10_1).f2.f0), .int .u32 ((rd_T151 l0 x10_1).f2.f1), .int .u32 0]) ?_ 8 _ rfl; refine sB ?_; refine blk_put (cs := #[.int .u32 ((rd_T151 l0 x10_1).f0.f0), .int .u32 ((rd_T151 l0 x10_1).f0.f1), .int .u32 ((rd_T151 l0 x10_1).f0.f2), .int .u32 ((rd_T151 l0 x10_1).f1.f0), .int .u32 ((rd_T151 l0 x10_1).f1.f1), .int .u32 ((rd_T151 l0 x10_1).f1.f2), .int .u32 ((rd_T151 l0 x10_1).f2.f0), .int .u32 0, .int .u32 0]) ?_ 7 _ rfl; refine sB ?_; refine blk_put (cs := #[.int .u32 ((rd_T151 l0 x10_1).f0.f0), .int .u32 ((rd_T151 l0 x10_1).f0.f1), .int .u32 ((rd_T151 l0 x10_1).f0.f2), .int .u32 ((rd_T151 l0 x10_1).f1.f0), .int .u32 ((rd_T151 l0 x10_1).f1.f1), .int .u32 ((rd_T151 l0 x10_1).f1.f2), .int .u32 0, .int .u32 0, .int .u32 0]) ?_ 6 _ rfl; refine sB ?_; refine blk_put (cs := #[.int .u32 ((rd_T151 l0 x10_1).f0.f0), .int .u32 ((rd_T151 l0 x10_1).f0.f1), .int .u32 ((rd_T151 l0 x10_1).f0.f2), .int .u32 ((rd_T151 l0 x10_1).f1.f0), .int .u32 ((rd_T151 l0 x10_1).f1.f1), .int .u32 0, .int .u32 0, .int .u32 0, .int .u32 0]) ?_ 5 _ rfl; refine sB ?_; refine blk_put (cs := #[.int .u32 ((rd_T151 l0 x10_1).f0.f0), .int .u32 ((rd_T151 l0 x10_1).f0.f1), .int .u32 ((rd_T151 l0 x10_1).f0.f2), .int .u32 ((rd_T151 l0 x10_1).f1.f0), .int .u32 0, .int .u32 0, .int .u32 0, .int .u32 0, .int .u32 0]) ?_ 4 _ rfl; refine sB ?_; refine blk_put (cs := #[.int .u32 ((rd_T151 l0 x10_1).f0.f0), .int .u32 ((rd_T151 l0 x10_1).f0.f1), .int .u32 ((rd_T151 l0 x10_1).f0.f2), .int .u32 0, .int .u32 0, .int .u32 0, .int .u32 0, .int .u32 0, .int .u32 0]) ?_ 3 _ rfl; refine sB ?_; refine blk_put (cs := #[.int .u32 ((rd_T151 l0 x10_1).f0.f0), .int .u32 ((rd_T151 l0 x10_1).f0.f1), .int .u32 0, .int .u32 0, .int .u32 0, .int .u32 0, .int .u32 0, .int .u32 0, .int .u32 0]) ?_ 2 _ rfl; refine sB ?_; refine blk_put (cs := #[.int .u32 ((rd_T151 l0 x10_1).f0.f0), .int .u32 0, .int .u32 0, .int .u32 0, .int .u32 0, .int .u32 0, .int .u32 0, .int .u32 0, .int .u32 0]) ?_ 1 _ rfl; refine sB ?_; refine blk_put (cs := #[.int .u32 0, .int .u32 0, .int .u32 0, .int .u32 0, .int .u32 0, .int .u32 0, .int .u32 0, .int .u32 0, .int .u32 0]) ?_ 0 _ rfl; refine sB ?_; exact BK328.out) hb); replace HB := AM (below_step (pH HB) hb); (try clear hb); (try clear hb2); (try clear hk); (try clear hi)))
   go_roundg k1
   case measure => have := HK1.out; omega
   case rel => exact ⟨(wrap64 (x10_1 + 1)), (by first | rfl | (simp; done) | (simp [*]; done)), H', ⟨by have := HK1.out; omega⟩, ⟨pH HB⟩⟩
/-! ### impl_Point_zero: function 134 -/
def impl_Point_zero.f (a0_0 : Int) (a0_1 : Int) (a0_2 : Int) : Option (Bool) := some ((((Go.bits .or .u32 (Go.bits .or .u32 a0_0 a0_1) a0_2) * 2) % 4294967296) == 0)
set_option maxHeartbeats 8000000 in
set_option maxRecDepth 100000 in
theorem impl_Point_zero.calls (a0_0 : Int) (a0_1 : Int) (a0_2 : Int) (r : Bool) (w : World) (h : impl_Point_zero.f a0_0 a0_1 a0_2 = some r) :
 Calls Try.prog 134 #[.agg #[.int .u32 a0_0, .int .u32 a0_1, .int .u32 a0_2]] w fun e w' => e = .returned (.bool r) ∧ Below w.heap.size w w' := by
 have hu125 := Try.underlying125; have HB := AM (Below.refl w.heap.size w)
 have H : (some ((((Go.bits .or .u32 (Go.bits .or .u32 a0_0 a0_1) a0_2) * 2) % 4294967296) == 0)) = some r := h
 clear h
 obtain rfl := Option.some.inj H
 go_enter Try.func134, Try.ntmps134
 go_wp2_with (first | ((with_reducible refine gate_dst (N := 1) rfl ?_); refine box_event ?hg (N := 1) ?hd (cs := #[.int .u32 a0_0, .int .u32 a0_1, .int .u32 a0_2]) (t := 125) ?hr ?_; (case hd => rfl); (case hg => rfl); (case hr => first | (go_simp; done) | (go_simp; rfl)); intro gb330 hg w2 hbox hb; have BK330 := AM (hbox); have GW330 := gH HB hg; have GE330 := gH HB hg; replace HB := AM (below_step (pH HB) hb); clear hb hbox hg; have ⟨hcz3_0, hcz3_1, hcz3_2, hfz3_0, hfz3_1, hfz3_2⟩ := z3 BK330))
 go_ret
 exact ⟨by first | rfl | (simp [errW_none, errW_some] <;> rfl) | (simp [*, errW_none, errW_some] <;> rfl), pH HB⟩

/-! ### impl_Ray_proper: function 95 -/
def impl_Ray_proper.f (k : Nat) (a0_0 : Int) (a0_1 : Int) (a0_2 : Int) (a0_3 : Int) (a0_4 : Int) (a0_5 : Int) : Option (Bool) := (impl_finitePoints.f k (([(⟨a0_0, a0_1, a0_2⟩ : S125), (⟨a0_3, a0_4, a0_5⟩ : S125)] : List (S125)))).bind fun t335 => (if t335 = true then ((impl_Point_zero.f a0_3 a0_4 a0_5).bind fun t336 => (some (!t336))) else (some false))
theorem impl_Ray_proper.mono : ∀ a0 a1 a2 a3 a4 a5 k, LeO (impl_Ray_proper.f k a0 a1 a2 a3 a4 a5) (impl_Ray_proper.f (k + 1) a0 a1 a2 a3 a4 a5) := by
 intro a0 a1 a2 a3 a4 a5 k
 unfold impl_Ray_proper.f
 repeat' with_reducible first | exact impl_finitePoints.mono _ _ | exact LeO.refl _ | exact LeO.none _ | refine LeO.ite ?_ ?_ | refine LeO.bind ?_ (fun _ => ?_)
set_option maxHeartbeats 8000000 in
set_option maxRecDepth 100000 in
theorem impl_Ray_proper.calls (k : Nat) (a0_0 : Int) (a0_1 : Int) (a0_2 : Int) (a0_3 : Int) (a0_4 : Int) (a0_5 : Int) (r : Bool) (w : World) (h : impl_Ray_proper.f k a0_0 a0_1 a0_2 a0_3 a0_4 a0_5 = some r) :
 Calls Try.prog 95 #[.agg #[.int .u32 a0_0, .int .u32 a0_1, .int .u32 a0_2, .int .u32 a0_3, .int .u32 a0_4, .int .u32 a0_5]] w fun e w' => e = .returned (.bool r) ∧ Below w.heap.size w w' := by
 have hu127 := Try.underlying127; have hu125 := Try.underlying125; have HB := AM (Below.refl w.heap.size w)
 have H : ((impl_finitePoints.f k (([(⟨a0_0, a0_1, a0_2⟩ : S125), (⟨a0_3, a0_4, a0_5⟩ : S125)] : List (S125)))).bind fun t335 => (if t335 = true then ((impl_Point_zero.f a0_3 a0_4 a0_5).bind fun t336 => (some (!t336))) else (some false))) = some r := h
 clear h
 obtain ⟨y332, hy332⟩ : ∃ y_ : List (S125), y_ = (([(⟨a0_0, a0_1, a0_2⟩ : S125), (⟨a0_3, a0_4, a0_5⟩ : S125)] : List (S125))) := ⟨_, rfl⟩
 replace H : ((impl_finitePoints.f k y332).bind fun t335 => (if t335 = true then ((impl_Point_zero.f a0_3 a0_4 a0_5).bind fun t336 => (some (!t336))) else (some false))) = some r := by first | (rw [hy332]; with_reducible exact H) | (have H2_ := (Option.bind_some _ _).symm.trans H; rw [hy332]; with_reducible exact H2_) | (have H2_ := (Option.bind_some _ _).symm.trans H; with_reducible exact H2_) | with_reducible exact H | (rw [hy332]; exact H) | exact H
 have Ny332 := AM hy332; clear hy332
 replace H := Option.bind_eq_some_iff.mp H
 obtain ⟨t335, A20, H⟩ := H
 (try dsimp only at H)
 have A2 := AM A20; clear A20
 by_cases c3 : t335 = true
 rotate_left
 · replace c3 := Bool.eq_false_iff.mpr c3
   subst c3
   have H1 : (some false) = some r := by rw [if_neg (show ¬ (false = true) by decide)] at H; exact H
   clear H; have H := H1; clear H1
   obtain rfl := Option.some.inj H
   go_enter Try.func95, Try.ntmps95
   go_wp2_with (first | ((with_reducible refine gate_dst (N := 1) rfl ?_); refine box_event ?hg (N := 1) ?hd (cs := #[.int .u32 a0_0, .int .u32 a0_1, .int .u32 a0_2, .int .u32 a0_3, .int .u32 a0_4, .int .u32 a0_5]) (t := 127) ?hr ?_; (case hd => rfl); (case hg => rfl); (case hr => first | (go_simp; done) | (go_simp; rfl)); intro gb331 hg w13 hbox hb; have BK331 := AM (hbox); have GW331 := gH HB hg; have GE331 := gH HB hg; replace HB := AM (below_step (pH HB) hb); clear hb hbox hg; have ⟨hcz14_0, hcz14_1, hcz14_2, hcz14_3, hcz14_4, hcz14_5, hfz14_0, hfz14_1, hfz14_2, hfz14_3, hfz14_4, hfz14_5⟩ := z6 BK331) | ((with_reducible refine gate_dst (N := 7) rfl ?_); refine Kd.R_lit k125 _ 125 ?hg (N := 7) ?hd (xs := ([(⟨a0_0, a0_1, a0_2⟩ : S125), (⟨a0_3, a0_4, a0_5⟩ : S125)] : List (S125))) (inner := [.int .u32 a0_0, .int .u32 a0_1, .int .u32 a0_2, .int .u32 a0_3, .int .u32 a0_4, .int .u32 a0_5]) (ok := fun _ => True) (okp := fun _ => True) ?hr ?hp (fun _ hk => hk) trivial (Below.refl _ _) (Nat.le_refl _) (by simp) ?_; (case hd => rfl); (case hg => rfl); (case hr => first | (go_simp; done) | (go_simp; rfl)); (case hp => exact (Reps.c3 (show Kd.M k125 _ _ _ (⟨a0_0, a0_1, a0_2⟩ : S125) [.int .u32 a0_0, .int .u32 a0_1, .int .u32 a0_2] from (k125_mkM _ _ _ (⟨a0_0, a0_1, a0_2⟩ : S125) )) (Reps.c3 (show Kd.M k125 _ _ _ (⟨a0_3, a0_4, a0_5⟩ : S125) [.int .u32 a0_3, .int .u32 a0_4, .int .u32 a0_5] from (k125_mkM _ _ _ (⟨a0_3, a0_4, a0_5⟩ : S125) )) (Reps.none _ _)))); intro v333 w15 ho16 hb hg_ hnew_; clear hg_ hnew_; (first | rw [← Ny332.out] at ho16 | (simp only [Int.reduceToNat] at ho16; rw [← Ny332.out] at ho16)); have HO334 := AM (Kd.R_lower ho16 (below_size (pH HB))); replace BK331 := bB BK331 hb; replace HB := AM (below_step (pH HB) hb); clear hb ho16; obtain ⟨Ao17, co17, eo17⟩ := Kd.R_slice HO334.out; subst eo17) | ((with_reducible refine gate_callee (f := 96) rfl ?_); refine goesL_ (some 8) rfl rfl Try.func96 (by kernel_rfl) rfl #[.slice Ao17 y332.length co17] rfl (by (try simp only [List.map_toArray, List.map_cons, List.map_nil]); first | done | rfl | (simp only [List.length_drop, List.length_take]; rfl)) ?_; (with_reducible refine (impl_finitePoints.calls k _ _ y332 false _ ?side1 ?side2 A2.out).mono ?_); (case side1 => exact cR HO334); (case side2 => exact (Kd.R_reads' HO334.out).2.1); rintro e w18 ⟨rfl, hb⟩; refine ⟨_, rfl, ?_⟩; replace HO334 := AM (Kd.R_below (pR HO334) hb); replace BK331 := bB BK331 hb; replace HB := AM (below_step (pH HB) hb); (try clear hb); (try clear hb2); (try clear hk); (try clear hi)))
   go_ret
   exact ⟨by first | rfl | (simp [errW_none, errW_some] <;> rfl) | (simp [*, errW_none, errW_some] <;> rfl), pH HB⟩

 subst c3
 have H1 : ((impl_Point_zero.f a0_3 a0_4 a0_5).bind fun t336 => (some (!t336))) = some r := by rw [if_pos rfl] at H; exact H
 clear H; have H := H1; clear H1
 replace H := Option.bind_eq_some_iff.mp H
 obtain ⟨t336, A40, H⟩ := H
 (try dsimp only at H)
 have A4 := AM A40; clear A40
 obtain rfl := Option.some.inj H
 go_enter Try.func95, Try.ntmps95
 go_wp2_with (first | ((with_reducible refine gate_dst (N := 1) rfl ?_); refine box_event ?hg (N := 1) ?hd (cs := #[.int .u32 a0_0, .int .u32 a0_1, .int .u32 a0_2, .int .u32 a0_3, .int .u32 a0_4, .int .u32 a0_5]) (t := 127) ?hr ?_; (case hd => rfl); (case hg => rfl); (case hr => first | (go_simp; done) | (go_simp; rfl)); intro gb331 hg w5 hbox hb; have BK331 := AM (hbox); have GW331 := gH HB hg; have GE331 := gH HB hg; replace HB := AM (below_step (pH HB) hb); clear hb hbox hg; have ⟨hcz6_0, hcz6_1, hcz6_2, hcz6_3, hcz6_4, hcz6_5, hfz6_0, hfz6_1, hfz6_2, hfz6_3, hfz6_4, hfz6_5⟩ := z6 BK331) | ((with_reducible refine gate_dst (N := 7) rfl ?_); refine Kd.R_lit k125 _ 125 ?hg (N := 7) ?hd (xs := ([(⟨a0_0, a0_1, a0_2⟩ : S125), (⟨a0_3, a0_4, a0_5⟩ : S125)] : List (S125))) (inner := [.int .u32 a0_0, .int .u32 a0_1, .int .u32 a0_2, .int .u32 a0_3, .int .u32 a0_4, .int .u32 a0_5]) (ok := fun _ => True) (okp := fun _ => True) ?hr ?hp (fun _ hk => hk) trivial (Below.refl _ _) (Nat.le_refl _) (by simp) ?_; (case hd => rfl); (case hg => rfl); (case hr => first | (go_simp; done) | (go_simp; rfl)); (case hp => exact (Reps.c3 (show Kd.M k125 _ _ _ (⟨a0_0, a0_1, a0_2⟩ : S125) [.int .u32 a0_0, .int .u32 a0_1, .int .u32 a0_2] from (k125_mkM _ _ _ (⟨a0_0, a0_1, a0_2⟩ : S125) )) (Reps.c3 (show Kd.M k125 _ _ _ (⟨a0_3, a0_4, a0_5⟩ : S125) [.int .u32 a0_3, .int .u32 a0_4, .int .u32 a0_5] from (k125_mkM _ _ _ (⟨a0_3, a0_4, a0_5⟩ : S125) )) (Reps.none _ _)))); intro v333 w7 ho8 hb hg_ hnew_; clear hg_ hnew_; (first | rw [← Ny332.out] at ho8 | (simp only [Int.reduceToNat] at ho8; rw [← Ny332.out] at ho8)); have HO334 := AM (Kd.R_lower ho8 (below_size (pH HB))); replace BK331 := bB BK331 hb; replace HB := AM (below_step (pH HB) hb); clear hb ho8; obtain ⟨Ao9, co9, eo9⟩ := Kd.R_slice HO334.out; subst eo9) | ((with_reducible refine gate_callee (f := 96) rfl ?_); refine goesL_ (some 8) rfl rfl Try.func96 (by kernel_rfl) rfl #[.slice Ao9 y332.length co9] rfl (by (try simp only [List.map_toArray, List.map_cons, List.map_nil]); first | done | rfl | (simp only [List.length_drop, List.length_take]; rfl)) ?_; (with_reducible refine (impl_finitePoints.calls k _ _ y332 true _ ?side1 ?side2 A2.out).mono ?_); (case side1 => exact cR HO334); (case side2 => exact (Kd.R_reads' HO334.out).2.1); rintro e w10 ⟨rfl, hb⟩; refine ⟨_, rfl, ?_⟩; replace HO334 := AM (Kd.R_below (pR HO334) hb); replace BK331 := bB BK331 hb; replace HB := AM (below_step (pH HB) hb); (try clear hb); (try clear hb2); (try clear hk); (try clear hi); have ⟨hcz11_0, hcz11_1, hcz11_2, hcz11_3, hcz11_4, hcz11_5, hfz11_0, hfz11_1, hfz11_2, hfz11_3, hfz11_4, hfz11_5⟩ := z6 BK331) | (go_at_call 134; (with_reducible refine (impl_Point_zero.calls a0_3 a0_4 a0_5 t336 _ A4.out).mono ?_); rintro e w12 ⟨rfl, hb⟩; replace HO334 := AM (Kd.R_below (pR HO334) hb); replace BK331 := bB BK331 hb; replace HB := AM (below_step (pH HB) hb); (try clear hb); (try clear hb2); (try clear hk); (try clear hi)))
 go_ret
 exact ⟨by first | rfl | (simp [errW_none, errW_some] <;> rfl) | (simp [*, errW_none, errW_some] <;> rfl), pH HB⟩
/-! ### impl_ValidScene: function 40 -/
mutual
def impl_ValidScene.j0 : Nat → Bool → List (S151) → List (S127) → List (S125) → Option (Bool)
 | 0, _, _, _, _ => none
 | k + 1, x20, x338000, x338001, x338002 => if x20 = true then (some false) else (impl_ValidScene.l0 k x338001 (x338001.length : Int) 0 x338000 x338001 x338002)
def impl_ValidScene.l0 : Nat → List (S127) → Int → Int → List (S151) → List (S127) → List (S125) → Option (Bool)
 | 0, _, _, _, _, _, _ => none
 | k + 1, x22, x23, x24, x338000, x338001, x338002 => if x24 < x23 then (if 0 ≤ x24 then (if x24 < (x22.length : Int) then ((impl_Ray_proper.f k ((rd_T127 x22 x24).f0.f0) ((rd_T127 x22 x24).f0.f1) ((rd_T127 x22 x24).f0.f2) ((rd_T127 x22 x24).f1.f0) ((rd_T127 x22 x24).f1.f1) ((rd_T127 x22 x24).f1.f2)).bind fun t341 => (if t341 = true then (impl_ValidScene.l0 k x22 x23 (wrap64 (x24 + 1)) x338000 x338001 x338002) else (some false))) else (none)) else (none)) else ((impl_finitePoints.f k x338002).bind fun t342 => (some t342))
end
def impl_ValidScene.f (k : Nat) (l0_0 : List (S151)) (l0_1 : List (S127)) (l0_2 : List (S125)) : Option (Bool) := (impl_goodTris.f k l0_0).bind fun t338 => (if t338 = true then (if (l0_1.length : Int) > 40 then (impl_ValidScene.j0 k true l0_0 l0_1 l0_2) else (impl_ValidScene.j0 k (decide ((l0_2.length : Int) > 4)) l0_0 l0_1 l0_2)) else (impl_ValidScene.j0 k true l0_0 l0_1 l0_2))
theorem impl_ValidScene.mono_l : ∀ k, (∀ y0 y1 y2 y3, LeO (impl_ValidScene.j0 k y0 y1 y2 y3) (impl_ValidScene.j0 (k + 1) y0 y1 y2 y3)) ∧ (∀ y0 y1 y2 y3 y4 y5, LeO (impl_ValidScene.l0 k y0 y1 y2 y3 y4 y5) (impl_ValidScene.l0 (k + 1) y0 y1 y2 y3 y4 y5))
 | 0 => ⟨fun _ _ _ _ r h => by simp [impl_ValidScene.j0] at h, fun _ _ _ _ _ _ r h => by simp [impl_ValidScene.l0] at h⟩
 | k + 1 => by
  obtain ⟨ih0, ih1⟩ := impl_ValidScene.mono_l k
  refine ⟨?_, ?_⟩
  · intro y0 y1 y2 y3
    unfold impl_ValidScene.j0
    repeat' with_reducible first | exact ih0 _ _ _ _ | exact ih1 _ _ _ _ _ _ | exact impl_Ray_proper.mono _ _ _ _ _ _ _ | exact impl_finitePoints.mono _ _ | exact impl_goodTris.mono _ _ | exact LeO.refl _ | exact LeO.none _ | refine LeO.ite ?_ ?_ | refine LeO.bind ?_ (fun _ => ?_)
  intro y0 y1 y2 y3 y4 y5
  unfold impl_ValidScene.l0
  repeat' with_reducible first | exact ih0 _ _ _ _ | exact ih1 _ _ _ _ _ _ | exact impl_Ray_proper.mono _ _ _ _ _ _ _ | exact impl_finitePoints.mono _ _ | exact impl_goodTris.mono _ _ | exact LeO.refl _ | exact LeO.none _ | refine LeO.ite ?_ ?_ | refine LeO.bind ?_ (fun _ => ?_)
theorem impl_ValidScene.mono : ∀ a0 a1 a2 k, LeO (impl_ValidScene.f k a0 a1 a2) (impl_ValidScene.f (k + 1) a0 a1 a2) := by
 intro a0 a1 a2 k
 obtain ⟨ih0, ih1⟩ := impl_ValidScene.mono_l k
 unfold impl_ValidScene.f
 repeat' with_reducible first | exact ih0 _ _ _ _ | exact ih1 _ _ _ _ _ _ | exact impl_Ray_proper.mono _ _ _ _ _ _ _ | exact impl_finitePoints.mono _ _ | exact impl_goodTris.mono _ _ | exact LeO.refl _ | exact LeO.none _ | refine LeO.ite ?_ ?_ | refine LeO.bind ?_ (fun _ => ?_)
set_option maxHeartbeats 8000000 in
set_option maxRecDepth 100000 in
theorem impl_ValidScene.calls (k : Nat) (A0_0 : Option Addr) (c0_0 : Nat) (l0_0 : List (S151)) (A0_1 : Option Addr) (c0_1 : Nat) (l0_1 : List (S127)) (A0_2 : Option Addr) (c0_2 : Nat) (l0_2 : List (S125)) (r : Bool) (w : World) (hr0_0 : Kd.C k151 w A0_0 l0_0.length l0_0) (hc0_0 : l0_0.length ≤ c0_0) (hr0_1 : Kd.C k127 w A0_1 l0_1.length l0_1) (hc0_1 : l0_1.length ≤ c0_1) (hr0_2 : Kd.C k125 w A0_2 l0_2.length l0_2) (hc0_2 : l0_2.length ≤ c0_2) (h : impl_ValidScene.f k l0_0 l0_1 l0_2 = some r) :
 Calls Try.prog 40 #[.agg #[.slice A0_0 l0_0.length c0_0, .slice A0_1 l0_1.length c0_1, .slice A0_2 l0_2.length c0_2]] w fun e w' => e = .returned (.bool r) ∧ Below w.heap.size w w' := by
 have hu69 := Try.underlying69; have hu127 := Try.underlying127; have HR0_0 := AM hr0_0; have HC0_0 := AM hc0_0; clear hr0_0 hc0_0; have HR0_1 := AM hr0_1; have HC0_1 := AM hc0_1; clear hr0_1 hc0_1; have HR0_2 := AM hr0_2; have HC0_2 := AM hc0_2; clear hr0_2 hc0_2; have HB := AM (Below.refl w.heap.size w)
 have H : ((impl_goodTris.f k l0_0).bind fun t338 => (if t338 = true then (if (l0_1.length : Int) > 40 then (impl_ValidScene.j0 k true l0_0 l0_1 l0_2) else (impl_ValidScene.j0 k (decide ((l0_2.length : Int) > 4)) l0_0 l0_1 l0_2)) else (impl_ValidScene.j0 k true l0_0 l0_1 l0_2))) = some r := h
 clear h; have HC2 := AM H; clear H
 go_enter Try.func40, Try.ntmps40
 go_upto_region 1 with (first | ((with_reducible refine gate_dst (N := 1) rfl ?_); (try (refine gate_guard (by rfl) ?_; dsimp only)); refine box_event ?hg (N := 1) ?hd (cs := #[.slice A0_0 l0_0.length c0_0, .slice A0_1 l0_1.length c0_1, .slice A0_2 l0_2.length c0_2]) (t := 69) ?hr ?_; (case hd => rfl); (case hg => rfl); (case hr => first | (go_simp; done) | (go_simp; rfl)); intro gb337 hg w3 hbox hb; have BK337 := AM (hbox); have GW337 := gH HB hg; have GE337 := gH HB hg; replace HB := AM (below_step (pH HB) hb); clear hb hbox hg))
 (try simp only [Act.put, List.setIfInBounds_toArray, List.set_cons_zero, List.set_cons_succ])
 go_cut [20] (fun v20 wc => ∃ (kq : Nat) (x20_1 : Bool), v20 = .bool x20_1 ∧ Aside0 (impl_ValidScene.j0 kq x20_1 l0_0 l0_1 l0_2 = some r) ∧ Aside0 (kq ≤ k) ∧ Aside0 (wc.heap[gb337]? = some (.cells #[(.slice A0_0 l0_0.length c0_0), (.slice A0_1 l0_1.length c0_1), (.slice A0_2 l0_2.length c0_2)] 69 (0, 0))) ∧ Aside0 (Below w.heap.size w wc))
 case first =>
  have H := HC2.out; clear HC2
  replace H := Option.bind_eq_some_iff.mp H
  obtain ⟨t338, A40, H⟩ := H
  (try dsimp only at H)
  have A4 := AM A40; clear A40
  by_cases c5 : t338 = true
  rotate_left
  · replace c5 := Bool.eq_false_iff.mpr c5
    subst c5
    have H1 : (impl_ValidScene.j0 k true l0_0 l0_1 l0_2) = some r := by rw [if_neg (show ¬ (false = true) by decide)] at H; exact H
    clear H; have H := H1; clear H1
    have H' := AM H
    clear H
    have hcz13_0 : w3.cell? ⟨gb337, 0, none⟩ = some (.slice A0_0 l0_0.length c0_0) := (blk_cell BK337.out 0).trans rfl
    have hcz13_1 : w3.cell? ⟨gb337, 1, none⟩ = some (.slice A0_1 l0_1.length c0_1) := (blk_cell BK337.out 1).trans rfl
    have hcz13_2 : w3.cell? ⟨gb337, 2, none⟩ = some (.slice A0_2 l0_2.length c0_2) := (blk_cell BK337.out 2).trans rfl
    have hfz13_0 := blk_frozen BK337.out 0; have hfz13_1 := blk_frozen BK337.out 1; have hfz13_2 := blk_frozen BK337.out 2
    go_wp2_with (first | ((with_reducible refine gate_callee (f := 94) rfl ?_); refine goesL_ (some 7) rfl rfl Try.func94 (by kernel_rfl) rfl #[.slice A0_0 l0_0.length c0_0] rfl (by (try simp only [List.map_toArray, List.map_cons, List.map_nil]); first | done | rfl | (simp only [List.length_drop, List.length_take]; rfl)) ?_; (with_reducible refine (impl_goodTris.calls k _ _ l0_0 false _ ?side1 ?side2 A4.out).mono ?_); (case side1 => exact cB HR0_0 HB); (case side2 => exact HC0_0.out); rintro e w14 ⟨rfl, hb⟩; refine ⟨_, rfl, ?_⟩; replace BK337 := bB BK337 hb; replace HB := AM (below_step (pH HB) hb); (try clear hb); (try clear hb2); (try clear hk); (try clear hi)))
    go_meet
    case rel => exact ⟨_, (true), (by first | rfl | (simp; done) | (simp [*]; done)), H', ⟨by first | omega | exact Nat.le_refl _⟩, ⟨by refine sB ?_; exact BK337.out⟩, ⟨pH HB⟩⟩
  subst c5
  have H1 : (if (l0_1.length : Int) > 40 then (impl_ValidScene.j0 k true l0_0 l0_1 l0_2) else (impl_ValidScene.j0 k (decide ((l0_2.length : Int) > 4)) l0_0 l0_1 l0_2)) = some r := by rw [if_pos rfl] at H; exact H
  clear H; have H := H1; clear H1
  by_cases c6 : (l0_1.length : Int) > 40
  · rw [if_pos c6] at H
    have c6b0 : decide (40 < (l0_1.length : Int)) = true := decide_eq_true c6
    have c6b1 : decide (40 < l0_1.length) = true := decide_eq_true (by omega)
    clear c6
    (first | rw [c6b0] | (simp only [i64_w, i32_w]; rw [c6b0]) | skip)
    have H' := AM H
    clear H
    have hcz7_0 : w3.cell? ⟨gb337, 0, none⟩ = some (.slice A0_0 l0_0.length c0_0) := (blk_cell BK337.out 0).trans rfl
    have hcz7_1 : w3.cell? ⟨gb337, 1, none⟩ = some (.slice A0_1 l0_1.length c0_1) := (blk_cell BK337.out 1).trans rfl
    have hcz7_2 : w3.cell? ⟨gb337, 2, none⟩ = some (.slice A0_2 l0_2.length c0_2) := (blk_cell BK337.out 2).trans rfl
    have hfz7_0 := blk_frozen BK337.out 0; have hfz7_1 := blk_frozen BK337.out 1; have hfz7_2 := blk_frozen BK337.out 2
    go_wp2_with (first | ((with_reducible refine gate_callee (f := 94) rfl ?_); refine goesL_ (some 7) rfl rfl Try.func94 (by kernel_rfl) rfl #[.slice A0_0 l0_0.length c0_0] rfl (by (try simp only [List.map_toArray, List.map_cons, List.map_nil]); first | done | rfl | (simp only [List.length_drop, List.length_take]; rfl)) ?_; (with_reducible refine (impl_goodTris.calls k _ _ l0_0 true _ ?side1 ?side2 A4.out).mono ?_); (case side1 => exact cB HR0_0 HB); (case side2 => exact HC0_0.out); rintro e w8 ⟨rfl, hb⟩; refine ⟨_, rfl, ?_⟩; replace BK337 := bB BK337 hb; replace HB := AM (below_step (pH HB) hb); (try clear hb); (try clear hb2); (try clear hk); (try clear hi); have ⟨hcz9_0, hcz9_1, hcz9_2, hfz9_0, hfz9_1, hfz9_2⟩ := z3 BK337))
    go_meet
    case rel => exact ⟨_, (true), (by first | rfl | (simp; done) | (simp [*]; done)), H', ⟨by first | omega | exact Nat.le_refl _⟩, ⟨by refine sB ?_; exact BK337.out⟩, ⟨pH HB⟩⟩
  rw [if_neg c6] at H
  have c6b0 : decide (40 < (l0_1.length : Int)) = false := decide_eq_false c6
  have c6b1 : decide (40 < l0_1.length) = false := decide_eq_false (by omega)
  clear c6
  (first | rw [c6b0] | (simp only [i64_w, i32_w]; rw [c6b0]) | skip)
  have H' := AM H
  clear H
  have hcz10_0 : w3.cell? ⟨gb337, 0, none⟩ = some (.slice A0_0 l0_0.length c0_0) := (blk_cell BK337.out 0).trans rfl
  have hcz10_1 : w3.cell? ⟨gb337, 1, none⟩ = some (.slice A0_1 l0_1.length c0_1) := (blk_cell BK337.out 1).trans rfl
  have hcz10_2 : w3.cell? ⟨gb337, 2, none⟩ = some (.slice A0_2 l0_2.length c0_2) := (blk_cell BK337.out 2).trans rfl
  have hfz10_0 := blk_frozen BK337.out 0; have hfz10_1 := blk_frozen BK337.out 1; have hfz10_2 := blk_frozen BK337.out 2
  go_wp2_with (first | ((with_reducible refine gate_callee (f := 94) rfl ?_); refine goesL_ (some 7) rfl rfl Try.func94 (by kernel_rfl) rfl #[.slice A0_0 l0_0.length c0_0] rfl (by (try simp only [List.map_toArray, List.map_cons, List.map_nil]); first | done | rfl | (simp only [List.length_drop, List.length_take]; rfl)) ?_; (with_reducible refine (impl_goodTris.calls k _ _ l0_0 true _ ?side1 ?side2 A4.out).mono ?_); (case side1 => exact cB HR0_0 HB); (case side2 => exact HC0_0.out); rintro e w11 ⟨rfl, hb⟩; refine ⟨_, rfl, ?_⟩; replace BK337 := bB BK337 hb; replace HB := AM (below_step (pH HB) hb); (try clear hb); (try clear hb2); (try clear hk); (try clear hi); have ⟨hcz12_0, hcz12_1, hcz12_2, hfz12_0, hfz12_1, hfz12_2⟩ := z3 BK337))
  go_meet
  case rel => exact ⟨_, (decide ((l0_2.length : Int) > 4)), (by first | rfl | (simp; done) | (simp [*]; done)), H', ⟨by first | omega | exact Nat.le_refl _⟩, ⟨by refine sB ?_; exact BK337.out⟩, ⟨pH HB⟩⟩
 case rest =>
  clear HC2
  try clear p2
  try clear c4
  try clear c5
  try clear c6
  try clear c6b0
  try clear c6b1
  try clear c9
  try clear hcz10_0
  try clear hcz10_1
  try clear hcz10_2
  try clear hcz12_0
  try clear hcz12_1
  try clear hcz12_2
  try clear hcz13_0
  try clear hcz13_1
  try clear hcz13_2
  try clear hcz7_0
  try clear hcz7_1
  try clear hcz7_2
  try clear hcz9_0
  try clear hcz9_1
  try clear hcz9_2
  try clear hfz10_0
  try clear hfz10_1
  try clear hfz10_2
  try clear hfz12_0
  try clear hfz12_1
  try clear hfz12_2
  try clear hfz13_0
  try clear hfz13_1
  try clear hfz13_2
  try clear hfz7_0
  try clear hfz7_1
  try clear hfz7_2
  try clear hfz9_0
  try clear hfz9_1
  try clear hfz9_2
  obtain ⟨kq, x20_1, rfl, HA, HJ1, BK337, HB⟩ := hcut
  cases kq with
  | zero => exact absurd HA.out (by simp [impl_ValidScene.j0])
  | succ kj1 =>
   have H := HA.out; clear HA
   simp only [impl_ValidScene.j0] at H
   by_cases c15 : x20_1 = true
   · subst c15
     have H1 : (some false) = some r := by rw [if_pos rfl] at H; exact H
     clear H; have H := H1; clear H1
     obtain rfl := Option.some.inj H
     go_wp2
     go_ret
     exact ⟨by first | rfl | (simp [errW_none, errW_some] <;> rfl) | (simp [*, errW_none, errW_some] <;> rfl), pH HB⟩
   replace c15 := Bool.eq_false_iff.mpr c15
   subst c15
   have H1 : (impl_ValidScene.l0 kj1 l0_1 (l0_1.length : Int) 0 l0_0 l0_1 l0_2) = some r := by rw [if_neg (show ¬ (false = true) by decide)] at H; exact H
   clear H; have H := H1; clear H1
   have H' := AM H
   clear H
   have hcz16_0 : wc.cell? ⟨gb337, 0, none⟩ = some (.slice A0_0 l0_0.length c0_0) := (blk_cell BK337.out 0).trans rfl
   have hcz16_1 : wc.cell? ⟨gb337, 1, none⟩ = some (.slice A0_1 l0_1.length c0_1) := (blk_cell BK337.out 1).trans rfl
   have hcz16_2 : wc.cell? ⟨gb337, 2, none⟩ = some (.slice A0_2 l0_2.length c0_2) := (blk_cell BK337.out 2).trans rfl
   have hfz16_0 := blk_frozen BK337.out 0; have hfz16_1 := blk_frozen BK337.out 1; have hfz16_2 := blk_frozen BK337.out 2
   go_wp2
   go_loopg [24] kj1 (fun kq v24 w' => ∃ (x24_2 : Int), v24 = .int .i64 x24_2 ∧ Aside0 (impl_ValidScene.l0 kq l0_1 (l0_1.length : Int) x24_2 l0_0 l0_1 l0_2 = some r) ∧ Aside0 (kq ≤ kj1) ∧ Aside0 (w'.heap[gb337]? = some (.cells #[(.slice A0_0 l0_0.length c0_0), (.slice A0_1 l0_1.length c0_1), (.slice A0_2 l0_2.length c0_2)] 69 (0, 0))) ∧ Aside0 (Below w.heap.size w w'))
   case atStart => exact ⟨(0), (by first | rfl | (simp; done) | (simp [*]; done)), H', ⟨Nat.le_refl _⟩, ⟨by refine sB ?_; exact BK337.out⟩, ⟨pH HB⟩⟩
   case round =>
    clear H'
    try clear c1
    try clear p2
    try clear c4
    try clear c5
    try clear c6
    try clear c6b0
    try clear c6b1
    try clear c9
    try clear c15
    try clear hcz10_0
    try clear hcz10_1
    try clear hcz10_2
    try clear hcz12_0
    try clear hcz12_1
    try clear hcz12_2
    try clear hcz13_0
    try clear hcz13_1
    try clear hcz13_2
    try clear hcz16_0
    try clear hcz16_1
    try clear hcz16_2
    try clear hcz7_0
    try clear hcz7_1
    try clear hcz7_2
    try clear hcz9_0
    try clear hcz9_1
    try clear hcz9_2
    try clear hfz10_0
    try clear hfz10_1
    try clear hfz10_2
    try clear hfz12_0
    try clear hfz12_1
    try clear hfz12_2
    try clear hfz13_0
    try clear hfz13_1
    try clear hfz13_2
    try clear hfz16_0
    try clear hfz16_1
    try clear hfz16_2
    try clear hfz7_0
    try clear hfz7_1
    try clear hfz7_2
    try clear hfz9_0
    try clear hfz9_1
    try clear hfz9_2
    try clear p2
    obtain ⟨x24_2, rfl, HA, HK2, BK337, HB⟩ := hrel
    cases gk with
    | zero => exact absurd HA.out (by simp [impl_ValidScene.l0])
    | succ k2 =>
     have H := HA.out; clear HA
     simp only [impl_ValidScene.l0] at H
     by_cases c17 : x24_2 < (l0_1.length : Int)
     rotate_left
     · rw [if_neg c17] at H
       have c17b0 : decide (x24_2 < (l0_1.length : Int)) = false := decide_eq_false c17
       clear c17
       replace H := Option.bind_eq_some_iff.mp H
       obtain ⟨t342, A300, H⟩ := H
       (try dsimp only at H)
       have A30 := AM A300; clear A300
       obtain rfl := Option.some.inj H
       have hcz31_0 : wr.cell? ⟨gb337, 0, none⟩ = some (.slice A0_0 l0_0.length c0_0) := (blk_cell BK337.out 0).trans rfl
       have hcz31_1 : wr.cell? ⟨gb337, 1, none⟩ = some (.slice A0_1 l0_1.length c0_1) := (blk_cell BK337.out 1).trans rfl
       have hcz31_2 : wr.cell? ⟨gb337, 2, none⟩ = some (.slice A0_2 l0_2.length c0_2) := (blk_cell BK337.out 2).trans rfl
       have hfz31_0 := blk_frozen BK337.out 0; have hfz31_1 := blk_frozen BK337.out 1; have hfz31_2 := blk_frozen BK337.out 2
       go_wp2_with (first | ((with_reducible refine gate_callee (f := 96) rfl ?_); refine goesL_ (some 34) rfl rfl Try.func96 (by kernel_rfl) rfl #[.slice A0_2 l0_2.length c0_2] rfl (by (try simp only [List.map_toArray, List.map_cons, List.map_nil]); first | done | rfl | (simp only [List.length_drop, List.length_take]; rfl)) ?_; (with_reducible refine (impl_finitePoints.calls k2 _ _ l0_2 t342 _ ?side1 ?side2 A30.out).mono ?_); (case side1 => exact cB HR0_2 HB); (case side2 => exact HC0_2.out); rintro e w32 ⟨rfl, hb⟩; refine ⟨_, rfl, ?_⟩; replace BK337 := bB BK337 hb; replace HB := AM (below_step (pH HB) hb); (try clear hb); (try clear hb2); (try clear hk); (try clear hi)))
       go_ret
       exact ⟨by first | rfl | (simp [errW_none, errW_some] <;> rfl) | (simp [*, errW_none, errW_some] <;> rfl), pH HB⟩

     rw [if_pos c17] at H
     have c17b0 : decide (x24_2 < (l0_1.length : Int)) = true := decide_eq_true c17
     clear c17
     by_cases c18 : 0 ≤ x24_2
     rotate_left
     · rw [if_neg c18] at H
       exact absurd H (by simp)
     rw [if_pos c18] at H
     have c18b0 : decide (0 ≤ x24_2) = true := decide_eq_true c18
     clear c18
     by_cases c19 : x24_2 < (l0_1.length : Int)
     rotate_left
     · rw [if_neg c19] at H
       exact absurd H (by simp)
     rw [if_pos c19] at H
     have c19b0 : decide (x24_2 < (l0_1.length : Int)) = true := decide_eq_true c19
     clear c19
     replace H := Option.bind_eq_some_iff.mp H
     obtain ⟨t341, A200, H⟩ := H
     (try dsimp only at H)
     have A20 := AM A200; clear A200
     by_cases c21 : t341 = true
     rotate_left
     · replace c21 := Bool.eq_false_iff.mpr c21
       subst c21
       have H1 : (some false) = some r := by rw [if_neg (show ¬ (false = true) by decide)] at H; exact H
       clear H; have H := H1; clear H1
       obtain rfl := Option.some.inj H
       have p339 : 0 ≤ (x24_2 : Int) := of_decide_eq_true (by first | (with_reducible assumption) | assumption)
       have q339 : x24_2 < (l0_1.length : Int) := of_decide_eq_true (by first | (with_reducible assumption) | assumption)
       obtain ⟨ad339, e339, hx339_0, hx339_1, hx339_2, hx339_3, hx339_4, hx339_5⟩ := at_T127 HR0_1.out x24_2 p339 q339
       cases e339
       replace hx339_0 := (HB.out.cell (World.block_lt_of_cell? w _ hx339_0)).trans hx339_0; replace hx339_1 := (HB.out.cell (World.block_lt_of_cell? w _ hx339_1)).trans hx339_1; replace hx339_2 := (HB.out.cell (World.block_lt_of_cell? w _ hx339_2)).trans hx339_2; replace hx339_3 := (HB.out.cell (World.block_lt_of_cell? w _ hx339_3)).trans hx339_3; replace hx339_4 := (HB.out.cell (World.block_lt_of_cell? w _ hx339_4)).trans hx339_4; replace hx339_5 := (HB.out.cell (World.block_lt_of_cell? w _ hx339_5)).trans hx339_5; replace p339 := eq_true p339; replace q339 := eq_true q339
       go_wp2_with (first | ((with_reducible refine gate_dst (N := 4) rfl ?_); (try (refine gate_guard (by rfl) ?_; dsimp only)); refine box_event ?hg (N := 4) ?hd (cs := #[.int .u32 0, .int .u32 0, .int .u32 0, .int .u32 0, .int .u32 0, .int .u32 0]) (t := 127) ?hr ?_; (case hd => rfl); (case hg => rfl); (case hr => first | (go_simp; done) | (go_simp; rfl)); intro gb340 hg w26 hbox hb; have BK340 := AM (hbox); have GW340 := gH HB hg; have GE340 := gH HB hg; replace HB := AM (below_step (pH HB) hb); have NB337_340 := nL BK337 hg; have NB340_337 := nG BK337 hg; replace BK337 := bB BK337 hb; clear hb hbox hg; have hnb27 := NB340_337.out; have hnc27 := NB337_340.out; have ⟨hcz28_0, hcz28_1, hcz28_2, hcz28_3, hcz28_4, hcz28_5, hfz28_0, hfz28_1, hfz28_2, hfz28_3, hfz28_4, hfz28_5⟩ := z6 BK340) | ((with_reducible refine gate_callee (f := 95) rfl ?_); refine goesL_ (some 29) rfl rfl Try.func95 (by kernel_rfl) rfl #[.agg #[.int .u32 ((rd_T127 l0_1 x24_2).f0.f0), .int .u32 ((rd_T127 l0_1 x24_2).f0.f1), .int .u32 ((rd_T127 l0_1 x24_2).f0.f2), .int .u32 ((rd_T127 l0_1 x24_2).f1.f0), .int .u32 ((rd_T127 l0_1 x24_2).f1.f1), .int .u32 ((rd_T127 l0_1 x24_2).f1.f2)]] rfl (by (try simp only [List.map_toArray, List.map_cons, List.map_nil]); first | done | rfl | (simp only [List.length_drop, List.length_take]; rfl)) ?_; (with_reducible refine (impl_Ray_proper.calls k2 ((rd_T127 l0_1 x24_2).f0.f0) ((rd_T127 l0_1 x24_2).f0.f1) ((rd_T127 l0_1 x24_2).f0.f2) ((rd_T127 l0_1 x24_2).f1.f0) ((rd_T127 l0_1 x24_2).f1.f1) ((rd_T127 l0_1 x24_2).f1.f2) false _ A20.out).mono ?_); rintro e w29 ⟨rfl, hb⟩; refine ⟨_, rfl, ?_⟩; replace BK337 := AM (blk_below (g := gb337) (o := .cells #[.slice A0_0 l0_0.length c0_0, .slice (some ad339) l0_1.length c0_1, .slice A0_2 l0_2.length c0_2] 69 (0, 0)) (by refine sB ?_; refine blk_far ?_ NB337_340.out _; refine sB ?_; refine blk_far ?_ NB337_340.out _; refine sB ?_; refine blk_far ?_ NB337_340.out _; refine sB ?_; refine blk_far ?_ NB337_340.out _; refine sB ?_; refine blk_far ?_ NB337_340.out _; refine sB ?_; refine blk_far ?_ NB337_340.out _; refine sB ?_; exact BK337.out) hb); replace BK340 := AM (blk_below (g := gb340) (o := .cells #[.int .u32 ((rd_T127 l0_1 x24_2).f0.f0), .int .u32 ((rd_T127 l0_1 x24_2).f0.f1), .int .u32 ((rd_T127 l0_1 x24_2).f0.f2), .int .u32 ((rd_T127 l0_1 x24_2).f1.f0), .int .u32 ((rd_T127 l0_1 x24_2).f1.f1), .int .u32 ((rd_T127 l0_1 x24_2).f1.f2)] 127 (0, 0)) (by refine sB ?_; refine blk_put (cs := #[.int .u32 ((rd_T127 l0_1 x24_2).f0.f0), .int .u32 ((rd_T127 l0_1 x24_2).f0.f1), .int .u32 ((rd_T127 l0_1 x24_2).f0.f2), .int .u32 ((rd_T127 l0_1 x24_2).f1.f0), .int .u32 ((rd_T127 l0_1 x24_2).f1.f1), .int .u32 0]) ?_ 5 _ rfl; refine sB ?_; refine blk_put (cs := #[.int .u32 ((rd_T127 l0_1 x24_2).f0.f0), .int .u32 ((rd_T127 l0_1 x24_2).f0.f1), .int .u32 ((rd_T127 l0_1 x24_2).f0.f2), .int .u32 ((rd_T127 l0_1 x24_2).f1.f0), .int .u32 0, .int .u32 0]) ?_ 4 _ rfl; refine sB ?_; refine blk_put (cs := #[.int .u32 ((rd_T127 l0_1 x24_2).f0.f0), .int .u32 ((rd_T127 l0_1 x24_2).f0.f1), .int .u32 ((rd_T127 l0_1 x24_2).f0.f2), .int .u32 0, .int .u32 0, .int .u32 0]) ?_ 3 _ rfl; refine sB ?_; refine blk_put (cs := #[.int .u32 ((rd_T127 l0_1 x24_2).f0.f0), .int .u32 ((rd_T127 l0_1 x24_2).f0.f1), .int .u32 0, .int .u32 0, .int .u32 0, .int .u32 0]) ?_ 2 _ rfl; refine sB ?_; refine blk_put (cs := #[.int .u32 ((rd_T127 l0_1 x24_2).f0.f0), .int .u32 0, .int .u32 0, .int .u32 0, .int .u32 0, .int .u32 0]) ?_ 1 _ rfl; refine sB ?_; refine blk_put (cs := #[.int .u32 0, .int .u32 0, .int .u32 0, .int .u32 0, .int .u32 0, .int .u32 0]) ?_ 0 _ rfl; refine sB ?_; exact BK340.out) hb); replace HB := AM (below_step (pH HB) hb); (try clear hb); (try clear hb2); (try clear hk); (try clear hi)))
       go_ret
       exact ⟨by first | rfl | (simp [errW_none, errW_some] <;> rfl) | (simp [*, errW_none, errW_some] <;> rfl), pH HB⟩
     subst c21
     have H1 : (impl_ValidScene.l0 k2 l0_1 (l0_1.length : Int) (wrap64 (x24_2 + 1)) l0_0 l0_1 l0_2) = some r := by rw [if_pos rfl] at H; exact H
     clear H; have H := H1; clear H1
     have H' := AM H
     clear H
     have p339 : 0 ≤ (x24_2 : Int) := of_decide_eq_true (by first | (with_reducible assumption) | assumption)
     have q339 : x24_2 < (l0_1.length : Int) := of_decide_eq_true (by first | (with_reducible assumption) | assumption)
     obtain ⟨ad339, e339, hx339_0, hx339_1, hx339_2, hx339_3, hx339_4, hx339_5⟩ := at_T127 HR0_1.out x24_2 p339 q339
     cases e339
     replace hx339_0 := (HB.out.cell (World.block_lt_of_cell? w _ hx339_0)).trans hx339_0; replace hx339_1 := (HB.out.cell (World.block_lt_of_cell? w _ hx339_1)).trans hx339_1; replace hx339_2 := (HB.out.cell (World.block_lt_of_cell? w _ hx339_2)).trans hx339_2; replace hx339_3 := (HB.out.cell (World.block_lt_of_cell? w _ hx339_3)).trans hx339_3; replace hx339_4 := (HB.out.cell (World.block_lt_of_cell? w _ hx339_4)).trans hx339_4; replace hx339_5 := (HB.out.cell (World.block_lt_of_cell? w _ hx339_5)).trans hx339_5; replace p339 := eq_true p339; replace q339 := eq_true q339
     go_wp2_with (first | ((with_reducible refine gate_dst (N := 4) rfl ?_); (try (refine gate_guard (by rfl) ?_; dsimp only)); refine box_event ?hg (N := 4) ?hd (cs := #[.int .u32 0, .int .u32 0, .int .u32 0, .int .u32 0, .int .u32 0, .int .u32 0]) (t := 127) ?hr ?_; (case hd => rfl); (case hg => rfl); (case hr => first | (go_simp; done) | (go_simp; rfl)); intro gb340 hg w22 hbox hb; have BK340 := AM (hbox); have GW340 := gH HB hg; have GE340 := gH HB hg; replace HB := AM (below_step (pH HB) hb); have NB337_340 := nL BK337 hg; have NB340_337 := nG BK337 hg; replace BK337 := bB BK337 hb; clear hb hbox hg; have hnb23 := NB340_337.out; have hnc23 := NB337_340.out; have ⟨hcz24_0, hcz24_1, hcz24_2, hcz24_3, hcz24_4, hcz24_5, hfz24_0, hfz24_1, hfz24_2, hfz24_3, hfz24_4, hfz24_5⟩ := z6 BK340) | ((with_reducible refine gate_callee (f := 95) rfl ?_); refine goesL_ (some 29) rfl rfl Try.func95 (by kernel_rfl) rfl #[.agg #[.int .u32 ((rd_T127 l0_1 x24_2).f0.f0), .int .u32 ((rd_T127 l0_1 x24_2).f0.f1), .int .u32 ((rd_T127 l0_1 x24_2).f0.f2), .int .u32 ((rd_T127 l0_1 x24_2).f1.f0), .int .u32 ((rd_T127 l0_1 x24_2).f1.f1), .int .u32 ((rd_T127 l0_1 x24_2).f1.f2)]] rfl (by (try simp only [List.map_toArray, List.map_cons, List.map_nil]); first | done | rfl | (simp only [List.length_drop, List.length_take]; rfl)) ?_; (with_reducible refine (impl_Ray_proper.calls k2 ((rd_T127 l0_1 x24_2).f0.f0) ((rd_T127 l0_1 x24_2).f0.f1) ((rd_T127 l0_1 x24_2).f0.f2) ((rd_T127 l0_1 x24_2).f1.f0) ((rd_T127 l0_1 x24_2).f1.f1) ((rd_T127 l0_1 x24_2).f1.f2) true _ A20.out).mono ?_); rintro e w25 ⟨rfl, hb⟩; refine ⟨_, rfl, ?_⟩; replace BK337 := AM (blk_below (g := gb337) (o := .cells #[.slice A0_0 l0_0.length c0_0, .slice (some ad339) l0_1.length c0_1, .slice A0_2 l0_2.length c0_2] 69 (0, 0)) (by refine sB ?_; refine blk_far ?_ NB337_340.out _; refine sB ?_; refine blk_far ?_ NB337_340.out _; refine sB ?_; refine blk_far ?_ NB337_340.out _; refine sB ?_; refine blk_far ?_ NB337_340.out _; refine sB ?_; refine blk_far ?_ NB337_340.out _; refine sB ?_; refine blk_far ?_ NB337_340.out _; refine sB ?_; exact BK337.out) hb); replace BK340 := AM (blk_below (g := gb340) (o := .cells #[.int .u32 ((rd_T127 l0_1 x24_2).f0.f0), .int .u32 ((rd_T127 l0_1 x24_2).f0.f1), .int .u32 ((rd_T127 l0_1 x24_2).f0.f2), .int .u32 ((rd_T127 l0_1 x24_2).f1.f0), .int .u32 ((rd_T127 l0_1 x24_2).f1.f1), .int .u32 ((rd_T127 l0_1 x24_2).f1.f2)] 127 (0, 0)) (by refine sB ?_; refine blk_put (cs := #[.int .u32 ((rd_T127 l0_1 x24_2).f0.f0), .int .u32 ((rd_T127 l0_1 x24_2).f0.f1), .int .u32 ((rd_T127 l0_1 x24_2).f0.f2), .int .u32 ((rd_T127 l0_1 x24_2).f1.f0), .int .u32 ((rd_T127 l0_1 x24_2).f1.f1), .int .u32 0]) ?_ 5 _ rfl; refine sB ?_; refine blk_put (cs := #[.int .u32 ((rd_T127 l0_1 x24_2).f0.f0), .int .u32 ((rd_T127 l0_1 x24_2).f0.f1), .int .u32 ((rd_T127 l0_1 x24_2).f0.f2), .int .u32 ((rd_T127 l0_1 x24_2).f1.f0), .int .u32 0, .int .u32 0]) ?_ 4 _ rfl; refine sB ?_; refine blk_put (cs := #[.int .u32 ((rd_T127 l0_1 x24_2).f0.f0), .int .u32 ((rd_T127 l0_1 x24_2).f0.f1), .int .u32 ((rd_T127 l0_1 x24_2).f0.f2), .int .u32 0, .int .u32 0, .int .u32 0]) ?_ 3 _ rfl; refine sB ?_; refine blk_put (cs := #[.int .u32 ((rd_T127 l0_1 x24_2).f0.f0), .int .u32 ((rd_T127 l0_1 x24_2).f0.f1), .int .u32 0, .int .u32 0, .int .u32 0, .int .u32 0]) ?_ 2 _ rfl; refine sB ?_; refine blk_put (cs := #[.int .u32 ((rd_T127 l0_1 x24_2).f0.f0), .int .u32 0, .int .u32 0, .int .u32 0, .int .u32 0, .int .u32 0]) ?_ 1 _ rfl; refine sB ?_; refine blk_put (cs := #[.int .u32 0, .int .u32 0, .int .u32 0, .int .u32 0, .int .u32 0, .int .u32 0]) ?_ 0 _ rfl; refine sB ?_; exact BK340.out) hb); replace HB := AM (below_step (pH HB) hb); (try clear hb); (try clear hb2); (try clear hk); (try clear hi)))
     go_roundg k2
     case measure => have := HJ1.out; have := HK2.out; omega
     case rel => exact ⟨(wrap64 (x24_2 + 1)), (by first | rfl | (simp; done) | (simp [*]; done)), H', ⟨by have := HJ1.out; have := HK2.out; omega⟩, ⟨by refine sB ?_; exact BK337.out⟩, ⟨pH HB⟩⟩
end Go.Proofs.Ytcpdeenhjodmfaa.QEncodeScene
