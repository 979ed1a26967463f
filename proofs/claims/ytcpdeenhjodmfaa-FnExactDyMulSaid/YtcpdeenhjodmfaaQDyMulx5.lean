-- Written by wip/tools/mkprint.py (my program) out of the translation, for this claim. Not trusted: Lean checks it.
import Derived.Test.YtcpdeenhjodmfaaQDyMulx0
import Derived.Test.YtcpdeenhjodmfaaQDyMulx4
namespace Go.Proofs.Ytcpdeenhjodmfaa.QDyMul
open Go.RowKit Go.Proofs.YtcpdeenhjodmfaaW.PrintWords Go.Proofs.YtcpdeenhjodmfaaW.PrintLast Go.Proofs.YtcpdeenhjodmfaaW.PrintMore
attribute [local go_sem] max2_int min2_int max_two min_two max_three min_three max_four min_four   -- for this text's walks alone
set_option linter.unusedVariables false
set_option linter.unusedSimpArgs false

/-! ### impl_limbs_trim: function 148 -/
def impl_limbs_trim.l0 : Nat → List Int → Option (List Int)
 | 0, _ => none
 | k + 1, x0 => if (x0.length : Int) > 0 then (if 0 ≤ (wrap64 ((x0.length : Int) - 1)) then (if (wrap64 ((x0.length : Int) - 1)) < (x0.length : Int) then (if (rd x0 (wrap64 ((x0.length : Int) - 1))) = 0 then (if (wrap64 ((x0.length : Int) - 1)) ≤ (x0.length : Int) then (impl_limbs_trim.l0 k (x0.take ((wrap64 ((x0.length : Int) - 1)) : Int).toNat)) else (none)) else (some x0)) else (none)) else (none)) else (some x0)
def impl_limbs_trim.f (k : Nat) (l0 : List Int) : Option (List Int) := impl_limbs_trim.l0 k l0
theorem impl_limbs_trim.mono_l : ∀ k, (∀ y0, LeO (impl_limbs_trim.l0 k y0) (impl_limbs_trim.l0 (k + 1) y0))
 | 0 => fun _ r h => by simp [impl_limbs_trim.l0] at h
 | k + 1 => by
  have ih0 := impl_limbs_trim.mono_l k
  · intro y0
    unfold impl_limbs_trim.l0
    repeat' with_reducible first | exact ih0 _ | exact LeO.refl _ | exact LeO.none _ | refine LeO.ite ?_ ?_ | refine LeO.bind ?_ (fun _ => ?_)
theorem impl_limbs_trim.mono : ∀ a0 k, LeO (impl_limbs_trim.f k a0) (impl_limbs_trim.f (k + 1) a0) := by
 intro a0 k
 have ih0 := impl_limbs_trim.mono_l k
 unfold impl_limbs_trim.f
 repeat' with_reducible first | exact ih0 _ | exact LeO.refl _ | exact LeO.none _ | refine LeO.ite ?_ ?_ | refine LeO.bind ?_ (fun _ => ?_)
set_option maxHeartbeats 8000000 in
set_option maxRecDepth 100000 in
theorem impl_limbs_trim.calls (k : Nat) (P0_ : Nat → Prop) (A0 : Option Addr) (c0 : Nat) (l0 : List Int) (r : List Int) (w : World) (hs0 : Kd.V (Kd.int .u32) 50 w w.heap.size (fun k_ => P0_ k_) (.slice A0 l0.length c0) l0) (h : impl_limbs_trim.f k l0 = some r) :
 Calls Try.prog 148 #[.slice A0 l0.length c0] w fun e w' => ∃ v0_ : Value, e = .returned (v0_) ∧ Kd.V (Kd.int .u32) 50 w' w.heap.size (fun k_ => (P0_ k_ ∨ w.heap.size ≤ k_)) v0_ r ∧ Below w.heap.size w w' := by
 have HO0 := AM (show Kd.V (Kd.int .u32) 50 w w.heap.size (fun k_ => (P0_ k_ ∨ w.heap.size ≤ k_)) (.slice A0 l0.length c0) l0 from Kd.V_mono hs0 (fun k_ hk => .inl hk)); have HB := AM (Below.refl w.heap.size w)
 have H : (impl_limbs_trim.l0 k l0) = some r := h
 clear h
 have H' := AM H
 clear H
 go_enter Try.func148, Try.ntmps148
 go_wp2
 go_loopg [0] k (fun kq v0 w' => ∃ (x0_1 : List Int), Aside0 (impl_limbs_trim.l0 kq x0_1 = some r) ∧ Aside0 (kq ≤ k) ∧ Aside0 (Kd.V (Kd.int .u32) 50 w' w.heap.size (fun k_ => (P0_ k_ ∨ w.heap.size ≤ k_)) v0 x0_1) ∧ Aside0 (Below w.heap.size w w'))
 case atStart => exact ⟨(l0), H', ⟨Nat.le_refl _⟩, ⟨by (with_reducible repeat (first | apply Kd.V_alloc | apply Kd.V_drewN | apply Kd.V_drew)); exact HO0.out⟩, ⟨pH HB⟩⟩
 case round =>
  clear H'
  try clear c1
  obtain ⟨x0_1, HA, HK1, HO_0, HB⟩ := hrel
  cases gk with
  | zero => exact absurd HA.out (by simp [impl_limbs_trim.l0])
  | succ k1 =>
   have H := HA.out; clear HA
   simp only [impl_limbs_trim.l0] at H
   by_cases c2 : (x0_1.length : Int) > 0
   rotate_left
   · rw [if_neg c2] at H
     have c2b0 : decide (0 < (x0_1.length : Int)) = false := decide_eq_false c2
     have c2b1 : decide (0 < x0_1.length) = false := decide_eq_false (by omega)
     clear c2
     obtain rfl := Option.some.inj H
     obtain ⟨Ao12, co12, eo12⟩ := Kd.V_slice HO_0.out
     subst eo12
     go_wp2
     go_ret
     exact ⟨_, by first | rfl | (simp [errW_none, errW_some] <;> rfl) | (simp [*, errW_none, errW_some] <;> rfl), by (with_reducible repeat (first | apply Kd.V_alloc | apply Kd.V_drewN | apply Kd.V_drew)); exact HO_0.out, pH HB⟩

   rw [if_pos c2] at H
   have c2b0 : decide (0 < (x0_1.length : Int)) = true := decide_eq_true c2
   have c2b1 : decide (0 < x0_1.length) = true := decide_eq_true (by omega)
   clear c2
   obtain ⟨ji3, hji3⟩ : ∃ j_ : Int, (wrap64 ((x0_1.length : Int) - 1)) = j_ := ⟨_, rfl⟩
   replace H : (if 0 ≤ (ji3) then (if (ji3) < (x0_1.length : Int) then (if (rd x0_1 (ji3)) = 0 then (if (ji3) ≤ (x0_1.length : Int) then (impl_limbs_trim.l0 k1 (x0_1.take ((ji3) : Int).toNat)) else (none)) else (some x0_1)) else (none)) else (none)) = some r := by first | (rw [hji3] at H; exact H) | (simp only [hji3] at H ⊢; exact H)
   have hji3w : (IntKind.i64.wrap ((x0_1.length : Int) - 1)) = ji3 := (i64_w _).trans hji3
   by_cases c4 : 0 ≤ (ji3)
   rotate_left
   · rw [if_neg c4] at H
     exact absurd H (by simp)
   rw [if_pos c4] at H
   have c4b0 : decide (0 ≤ (ji3)) = true := decide_eq_true c4
   clear c4
   by_cases c5 : (ji3) < (x0_1.length : Int)
   rotate_left
   · rw [if_neg c5] at H
     exact absurd H (by simp)
   rw [if_pos c5] at H
   have c5b0 : decide ((ji3) < (x0_1.length : Int)) = true := decide_eq_true c5
   clear c5
   by_cases c6 : (rd x0_1 (ji3)) = 0
   rotate_left
   · rw [if_neg c6] at H
     have c6b0 : ((rd x0_1 (ji3)) == 0) = false := beq_eq_false_iff_ne.mpr c6
     have c6b1 : ((rd x0_1 (ji3)) != 0) = true := bne_iff_ne.mpr c6
     obtain rfl := Option.some.inj H
     obtain ⟨Ao11, co11, eo11⟩ := Kd.V_slice HO_0.out
     subst eo11
     have p281 : 0 ≤ ((ji3) : Int) := of_decide_eq_true (by first | (with_reducible assumption) | assumption)
     have q281 : (ji3) < (x0_1.length : Int) := of_decide_eq_true (by first | (with_reducible assumption) | assumption)
     obtain ⟨ad281, e281, hx281_0⟩ := Kd.at_int (Kd.V_reads' HO_0.out).2.2 (ji3) p281 q281
     cases e281
     replace p281 := eq_true p281; replace q281 := eq_true q281
     go_wp2
     go_ret
     exact ⟨_, by first | rfl | (simp [errW_none, errW_some] <;> rfl) | (simp only [← hji3]; first | rfl | (simp [errW_none, errW_some] <;> rfl)) | (simp [*, errW_none, errW_some] <;> rfl), by (with_reducible repeat (first | apply Kd.V_alloc | apply Kd.V_drewN | apply Kd.V_drew)); exact HO_0.out, pH HB⟩
   rw [if_pos c6] at H
   have c6b0 : ((rd x0_1 (ji3)) == 0) = true := beq_iff_eq.mpr c6
   have c6b1 : ((rd x0_1 (ji3)) != 0) = false := bne_eq_false_iff_eq.mpr c6
   clear c6; have c7b0 := eq_true (of_decide_eq_true (by first | (with_reducible assumption) | assumption) : 0 ≤ (ji3))
   by_cases c8 : (ji3) ≤ (x0_1.length : Int)
   rotate_left
   · rw [if_neg c8] at H
     exact absurd H (by simp)
   rw [if_pos c8] at H
   have c8b0 := eq_true c8
   have c8b1 : decide ((ji3) ≤ (x0_1.length : Int)) = true := decide_eq_true c8
   clear c8
   obtain ⟨y282, hy282⟩ : ∃ y_ : List Int, y_ = (x0_1.take ((ji3) : Int).toNat) := ⟨_, rfl⟩
   replace H : (impl_limbs_trim.l0 k1 y282) = some r := by first | (rw [hy282]; with_reducible exact H) | (have H2_ := (Option.bind_some _ _).symm.trans H; rw [hy282]; with_reducible exact H2_) | (have H2_ := (Option.bind_some _ _).symm.trans H; with_reducible exact H2_) | with_reducible exact H | (rw [hy282]; exact H) | exact H
   have Ny282 := AM hy282; clear hy282
   have H' := AM H
   clear H
   obtain ⟨Ao9, co9, eo9⟩ := Kd.V_slice HO_0.out
   subst eo9
   have p281 : 0 ≤ ((ji3) : Int) := of_decide_eq_true (by first | (with_reducible assumption) | assumption)
   have q281 : (ji3) < (x0_1.length : Int) := of_decide_eq_true (by first | (with_reducible assumption) | assumption)
   obtain ⟨ad281, e281, hx281_0⟩ := Kd.at_int (Kd.V_reads' HO_0.out).2.2 (ji3) p281 q281
   cases e281
   replace p281 := eq_true p281; replace q281 := eq_true q281
   have q10 : ((ji3) : Int) ≤ ((x0_1.length : Int) : Int) := of_decide_eq_true (by first | (with_reducible assumption) | assumption)
   obtain ⟨i010, hi010, _, hsz10, _⟩ := info_parts info50
   have hroom10 : x0_1.length ≤ co9 := (Kd.V_reads' HO_0.out).2.1
   have hC10 : Kd.F (Kd.int .u32) _ _ (some ad281) x0_1.length x0_1 := (Kd.V_at (base := w.heap.size) HO_0.out).2.2
   have hcut10 := cut_to (P := Try.prog) 99 50 .i64 Try.underlying99 hi010 (some ad281) x0_1.length co9 (ji3) (of_decide_eq_true (by first | (with_reducible assumption) | assumption)) q10 hroom10; have hr10 := Kd.F_take (m := ((ji3) : Int).toNat) hC10 (by omega)
   have hy10 : y282.length = ((ji3) : Int).toNat := (by rw [Ny282.out, List.length_take]; omega)
   rw [← Ny282.out] at hr10
   rw [← hy10] at hcut10
   have HO286 := AM (show Kd.V (Kd.int .u32) 50 _ w.heap.size _ (.slice (some ad281) y282.length co9) y282 from Kd.V_mk (by omega) hr10); have HC286 := AM (show y282.length ≤ co9 from by omega); clear hr10 hC10 hroom10 hi010 hsz10; have KY10 := AM hy10; clear hy10; replace q10 := eq_true q10
   go_wp2
   go_roundg k1
   case measure => have := HK1.out; omega
   case rel => exact ⟨(y282), H', ⟨by have := HK1.out; omega⟩, ⟨by (with_reducible repeat (first | apply Kd.V_alloc | apply Kd.V_drewN | apply Kd.V_drew)); exact HO286.out⟩, ⟨pH HB⟩⟩
/-! ### impl_limbs_shiftDown: function 157 -/
mutual
def impl_limbs_shiftDown.l0 : Nat → List Int → Int → Bool → List Int → Int → Int → Option (List Int × Bool)
 | 0, _, _, _, _, _, _ => none
 | k + 1, x0, x1, x6, x34, x35, x36 => if x36 < x35 then (if 0 ≤ x36 then (if x36 < (x34.length : Int) then (if x6 = true then (impl_limbs_shiftDown.l0 k x0 x1 true x34 x35 (wrap64 (x36 + 1))) else (impl_limbs_shiftDown.l0 k x0 x1 ((rd x34 x36) != 0) x34 x35 (wrap64 (x36 + 1)))) else (none)) else (none)) else (if 0 ≤ (wrap64 (Int.tdiv x1 32)) then (if (wrap64 (Int.tdiv x1 32)) ≤ (x0.length : Int) then (if 0 ≤ ((x0.drop ((wrap64 (Int.tdiv x1 32)) : Int).toNat).length : Int) then (if (((x0.drop ((wrap64 (Int.tdiv x1 32)) : Int).toNat).length : Int) : Int).toNat ≤ 70368744177664 then (impl_limbs_shiftDown.l1 k (x0.drop ((wrap64 (Int.tdiv x1 32)) : Int).toNat) x1 x6 (List.replicate (((x0.drop ((wrap64 (Int.tdiv x1 32)) : Int).toNat).length : Int) : Int).toNat 0) ((x0.drop ((wrap64 (Int.tdiv x1 32)) : Int).toNat).length : Int) 0) else (none)) else (none)) else (none)) else (none))
def impl_limbs_shiftDown.l1 : Nat → List Int → Int → Bool → List Int → Int → Int → Option (List Int × Bool)
 | 0, _, _, _, _, _, _ => none
 | k + 1, x0, x1, x6, x9, x54, x55 => if x55 < x54 then (if 0 ≤ x55 then (if x55 < (x0.length : Int) then (if (wrap64 (x55 + 1)) < (x0.length : Int) then (if 0 ≤ (wrap64 (x55 + 1)) then (if 0 ≤ (Int.tmod x1 32) then (if x55 < (x9.length : Int) then (impl_limbs_shiftDown.l1 k x0 x1 x6 (x9.set (x55 : Int).toNat ((shr .u64 (Go.bits .or .u64 (IntKind.u64.wrap (rd x0 x55)) (IntKind.u64.wrap ((IntKind.u64.wrap (rd x0 (wrap64 (x55 + 1)))) * 4294967296))) (Int.tmod x1 32)) % 4294967296)) x54 (wrap64 (x55 + 1))) else (none)) else (none)) else (none)) else (if 0 ≤ (Int.tmod x1 32) then (if x55 < (x9.length : Int) then (impl_limbs_shiftDown.l1 k x0 x1 x6 (x9.set (x55 : Int).toNat ((shr .u64 (IntKind.u64.wrap (rd x0 x55)) (Int.tmod x1 32)) % 4294967296)) x54 (wrap64 (x55 + 1))) else (none)) else (none))) else (none)) else (none)) else ((impl_limbs_trim.f k x9).bind fun t298 => (some (t298, x6)))
end
def impl_limbs_shiftDown.f (k : Nat) (l0 : List Int) (a1 : Int) : Option (List Int × Bool) := if (wrap64 (Int.tdiv a1 32)) ≥ (l0.length : Int) then (some (([] : List Int), decide (0 < l0.length))) else (if 0 ≤ (wrap64 (Int.tdiv a1 32)) then (if (wrap64 (Int.tdiv a1 32)) < (l0.length : Int) then (if 0 ≤ (Int.tmod a1 32) then (if (wrap64 (Int.tdiv a1 32)) ≤ (l0.length : Int) then (impl_limbs_shiftDown.l0 k l0 a1 ((Go.bits .and .u32 (rd l0 (wrap64 (Int.tdiv a1 32))) (((shl .u32 1 (Int.tmod a1 32)) - 1) % 4294967296)) != 0) (l0.take ((wrap64 (Int.tdiv a1 32)) : Int).toNat) ((l0.take ((wrap64 (Int.tdiv a1 32)) : Int).toNat).length : Int) 0) else (none)) else (none)) else (none)) else (none))
theorem impl_limbs_shiftDown.mono_l : ∀ k, (∀ y0 y1 y2 y3 y4 y5, LeO (impl_limbs_shiftDown.l0 k y0 y1 y2 y3 y4 y5) (impl_limbs_shiftDown.l0 (k + 1) y0 y1 y2 y3 y4 y5)) ∧ (∀ y0 y1 y2 y3 y4 y5, LeO (impl_limbs_shiftDown.l1 k y0 y1 y2 y3 y4 y5) (impl_limbs_shiftDown.l1 (k + 1) y0 y1 y2 y3 y4 y5))
 | 0 => ⟨fun _ _ _ _ _ _ r h => by simp [impl_limbs_shiftDown.l0] at h, fun _ _ _ _ _ _ r h => by simp [impl_limbs_shiftDown.l1] at h⟩
 | k + 1 => by
  obtain ⟨ih0, ih1⟩ := impl_limbs_shiftDown.mono_l k
  refine ⟨?_, ?_⟩
  · intro y0 y1 y2 y3 y4 y5
    unfold impl_limbs_shiftDown.l0
    repeat' with_reducible first | exact ih0 _ _ _ _ _ _ | exact ih1 _ _ _ _ _ _ | exact impl_limbs_trim.mono _ _ | exact LeO.refl _ | exact LeO.none _ | refine LeO.ite ?_ ?_ | refine LeO.bind ?_ (fun _ => ?_)
  intro y0 y1 y2 y3 y4 y5
  unfold impl_limbs_shiftDown.l1
  repeat' with_reducible first | exact ih0 _ _ _ _ _ _ | exact ih1 _ _ _ _ _ _ | exact impl_limbs_trim.mono _ _ | exact LeO.refl _ | exact LeO.none _ | refine LeO.ite ?_ ?_ | refine LeO.bind ?_ (fun _ => ?_)
theorem impl_limbs_shiftDown.mono : ∀ a0 a1 k, LeO (impl_limbs_shiftDown.f k a0 a1) (impl_limbs_shiftDown.f (k + 1) a0 a1) := by
 intro a0 a1 k
 obtain ⟨ih0, ih1⟩ := impl_limbs_shiftDown.mono_l k
 unfold impl_limbs_shiftDown.f
 repeat' with_reducible first | exact ih0 _ _ _ _ _ _ | exact ih1 _ _ _ _ _ _ | exact impl_limbs_trim.mono _ _ | exact LeO.refl _ | exact LeO.none _ | refine LeO.ite ?_ ?_ | refine LeO.bind ?_ (fun _ => ?_)
set_option maxHeartbeats 8000000 in
set_option maxRecDepth 100000 in
theorem impl_limbs_shiftDown.calls (k : Nat) (A0 : Option Addr) (c0 : Nat) (l0 : List Int) (a1 : Int) (r1 : List Int) (r2 : Bool) (w : World) (hr0 : Kd.C (Kd.int .u32) w A0 l0.length l0) (hc0 : l0.length ≤ c0) (h : impl_limbs_shiftDown.f k l0 a1 = some (r1, r2)) :
 Calls Try.prog 157 #[.slice A0 l0.length c0, .int .i64 a1] w fun e w' => ∃ v0_ : Value, e = .returned (.tuple #[v0_, .bool r2]) ∧ Kd.V (Kd.int .u32) 50 w' w.heap.size (fun k_ => (w.heap.size ≤ k_)) v0_ r1 ∧ Below w.heap.size w w' := by
 have HR0 := AM hr0; have HC0 := AM hc0; clear hr0 hc0; have HB := AM (Below.refl w.heap.size w)
 have H : (if (wrap64 (Int.tdiv a1 32)) ≥ (l0.length : Int) then (some (([] : List Int), decide (0 < l0.length))) else (if 0 ≤ (wrap64 (Int.tdiv a1 32)) then (if (wrap64 (Int.tdiv a1 32)) < (l0.length : Int) then (if 0 ≤ (Int.tmod a1 32) then (if (wrap64 (Int.tdiv a1 32)) ≤ (l0.length : Int) then (impl_limbs_shiftDown.l0 k l0 a1 ((Go.bits .and .u32 (rd l0 (wrap64 (Int.tdiv a1 32))) (((shl .u32 1 (Int.tmod a1 32)) - 1) % 4294967296)) != 0) (l0.take ((wrap64 (Int.tdiv a1 32)) : Int).toNat) ((l0.take ((wrap64 (Int.tdiv a1 32)) : Int).toNat).length : Int) 0) else (none)) else (none)) else (none)) else (none))) = some (r1, r2) := h
 clear h
 by_cases c3 : (wrap64 (Int.tdiv a1 32)) ≥ (l0.length : Int)
 · rw [if_pos c3] at H
   have c3b0 : decide ((l0.length : Int) ≤ (wrap64 (Int.tdiv a1 32))) = true := decide_eq_true c3
   clear c3
   simp only [Option.some.injEq, Prod.mk.injEq] at H
   obtain ⟨rfl, rfl⟩ := H
   go_enter Try.func157, Try.ntmps157
   go_wp2
   repeat (go_quiet (fail); try go_wp2)
   go_ret2
   exact ⟨.slice none 0 0, by first | rfl | (simp [errW_none, errW_some] <;> rfl) | (simp [*, errW_none, errW_some] <;> rfl), (by first | exact Kd.V_nil _ _ _ _ _ | exact Kd.R_V (Kd.R_nil _ _ _ 0 _)), pH HB⟩
 rw [if_neg c3] at H
 have c3b0 : decide ((l0.length : Int) ≤ (wrap64 (Int.tdiv a1 32))) = false := decide_eq_false c3
 clear c3
 obtain ⟨ji4, hji4⟩ : ∃ j_ : Int, (wrap64 (Int.tdiv a1 32)) = j_ := ⟨_, rfl⟩
 replace H : (if 0 ≤ (ji4) then (if (ji4) < (l0.length : Int) then (if 0 ≤ (Int.tmod a1 32) then (if (ji4) ≤ (l0.length : Int) then (impl_limbs_shiftDown.l0 k l0 a1 ((Go.bits .and .u32 (rd l0 (ji4)) (((shl .u32 1 (Int.tmod a1 32)) - 1) % 4294967296)) != 0) (l0.take ((ji4) : Int).toNat) ((l0.take ((ji4) : Int).toNat).length : Int) 0) else (none)) else (none)) else (none)) else (none)) = some (r1, r2) := by first | (rw [hji4] at H; exact H) | (simp only [hji4] at H ⊢; exact H)
 obtain ⟨yc1, hyc1⟩ : ∃ y_, y_ = (l0.take ((ji4) : Int).toNat) := ⟨_, rfl⟩
 rw [← hyc1] at H
 replace hyc1 := AM hyc1
 (try rw [hji4] at c3b0)
 have hji4w : (IntKind.i64.wrap (Int.tdiv a1 32)) = ji4 := (i64_w _).trans hji4
 by_cases c5 : 0 ≤ (ji4)
 rotate_left
 · rw [if_neg c5] at H
   exact absurd H (by simp)

 rw [if_pos c5] at H
 have c5b0 : decide (0 ≤ (ji4)) = true := decide_eq_true c5
 clear c5
 by_cases c6 : (ji4) < (l0.length : Int)
 rotate_left
 · rw [if_neg c6] at H
   exact absurd H (by simp)
 rw [if_pos c6] at H
 have c6b0 : decide ((ji4) < (l0.length : Int)) = true := decide_eq_true c6
 clear c6
 obtain ⟨ji7, hji7⟩ : ∃ j_ : Int, (Int.tmod a1 32) = j_ := ⟨_, rfl⟩
 replace H : (if 0 ≤ (ji7) then (if (ji4) ≤ (l0.length : Int) then (impl_limbs_shiftDown.l0 k l0 a1 ((Go.bits .and .u32 (rd l0 (ji4)) (((shl .u32 1 (ji7)) - 1) % 4294967296)) != 0) yc1 (yc1.length : Int) 0) else (none)) else (none)) = some (r1, r2) := by first | (rw [hji7] at H; exact H) | (simp only [hji7] at H ⊢; exact H)
 by_cases c8 : 0 ≤ (ji7)
 rotate_left
 · rw [if_neg c8] at H
   exact absurd H (by simp)
 rw [if_pos c8] at H
 have c8b0 := eq_true c8
 have c8b1 : decide (0 ≤ (ji7)) = true := decide_eq_true c8
 clear c8
 obtain ⟨ji9, hji9⟩ : ∃ j_ : Int, (shl .u32 1 (ji7)) = j_ := ⟨_, rfl⟩
 replace H : (if (ji4) ≤ (l0.length : Int) then (impl_limbs_shiftDown.l0 k l0 a1 ((Go.bits .and .u32 (rd l0 (ji4)) (((ji9) - 1) % 4294967296)) != 0) yc1 (yc1.length : Int) 0) else (none)) = some (r1, r2) := by first | (rw [hji9] at H; exact H) | (simp only [hji9] at H ⊢; exact H)
 have hji9_ : (IntKind.u32.wrap (1 * 2 ^ min (ji7).toNat 32)) = ji9 := hji9
 have hji9z : (ji7) ≤ 32 → (IntKind.u32.wrap (1 * 2 ^ (ji7).toNat)) = ji9 := shl_small hji9
 have hji9u : (IntKind.u32.wrap (2 ^ min (ji7).toNat 32)) = ji9 := by have h_ := hji9_; rw [Int.one_mul] at h_; exact h_
 have hji9v : (ji7) ≤ 32 → (IntKind.u32.wrap (2 ^ (ji7).toNat)) = ji9 := fun hle_ => by have h_ := hji9z hle_; rw [Int.one_mul] at h_; exact h_
 have c10b0 := eq_true (of_decide_eq_true (by first | (with_reducible assumption) | assumption) : 0 ≤ (ji4))
 by_cases c11 : (ji4) ≤ (l0.length : Int)
 rotate_left
 · rw [if_neg c11] at H
   exact absurd H (by simp)
 rw [if_pos c11] at H
 have c11b0 := eq_true c11
 have c11b1 : decide ((ji4) ≤ (l0.length : Int)) = true := decide_eq_true c11
 clear c11
 have H' := AM H
 clear H
 have p287 : 0 ≤ ((ji4) : Int) := of_decide_eq_true (by first | (with_reducible assumption) | assumption)
 have q287 : (ji4) < (l0.length : Int) := of_decide_eq_true (by first | (with_reducible assumption) | assumption)
 obtain ⟨ad287, e287, hx287_0⟩ := Kd.at_int HR0.out (ji4) p287 q287
 cases e287
 replace p287 := eq_true p287; replace q287 := eq_true q287
 obtain ⟨i012, hi012, _, hsz12, _⟩ := info_parts info50
 obtain ⟨hcut12, hA12, hC12⟩ := print_take_of (P := Try.prog) (Value.int .u32) 0 99 50 .i64 Try.underlying99 hi012 hsz12 (some ad287) c0 l0 (ji4) (of_decide_eq_true (by first | (with_reducible assumption) | assumption)) (of_decide_eq_true (by first | (with_reducible assumption) | assumption)) HC0.out
 try rw [← hyc1.out] at hcut12
 try rw [← hyc1.out] at hA12
 try rw [← hyc1.out] at hC12
 have HR288 := AM (Kd.C_of_reads (h1 := fun _ => rfl) (hA12 _ (Kd.reads_of_C HR0.out))); have HC288 := AM hC12; clear hA12 hC12 hi012 hsz12
 go_enter Try.func157, Try.ntmps157
 go_wp2
 repeat (go_quiet (fail); try go_wp2)
 go_loopg [6, 36] k (fun kq v6 v36 w' => ∃ (x6_1 : Bool) (x36_1 : Int), v6 = .bool x6_1 ∧ v36 = .int .i64 x36_1 ∧ Aside0 (impl_limbs_shiftDown.l0 kq l0 a1 x6_1 yc1 (yc1.length : Int) x36_1 = some (r1, r2)) ∧ Aside0 (kq ≤ k) ∧ Aside0 (Below w.heap.size w w'))
 case atStart => exact ⟨(((Go.bits .and .u32 (rd l0 (ji4)) (((ji9) - 1) % 4294967296)) != 0)), (0), (by first | rfl | (simp; done) | (simp only [← hji4, ← hji9] <;> (first | rfl | simp)) | (simp [*]; done)), (by first | rfl | (simp; done) | (simp [*]; done)), H', ⟨Nat.le_refl _⟩, ⟨pH HB⟩⟩
 case round =>
  clear H'
  try clear c1
  try clear p2
  try clear q2
  try clear hx2
  try clear c3
  try clear c3b0
  try clear c5
  try clear c5b0
  try clear c6
  try clear c6b0
  try clear p6
  try clear c8
  try clear c8b0
  try clear c8b1
  try clear c10
  try clear c10b0
  try clear c11
  try clear c11b0
  try clear c11b1
  try clear hx287_0
  try clear p287
  try clear q287
  obtain ⟨x6_1, x36_1, rfl, rfl, HA, HK1, HB⟩ := hrel
  cases gk with
  | zero => exact absurd HA.out (by simp [impl_limbs_shiftDown.l0])
  | succ k1 =>
   have H := HA.out; clear HA
   simp only [impl_limbs_shiftDown.l0] at H
   by_cases c13 : x36_1 < (yc1.length : Int)
   · rw [if_pos c13] at H
     have c13b0 : decide (x36_1 < (yc1.length : Int)) = true := decide_eq_true c13
     clear c13
     by_cases c14 : 0 ≤ x36_1
     rotate_left
     · rw [if_neg c14] at H
       exact absurd H (by simp)
     rw [if_pos c14] at H
     have c14b0 : decide (0 ≤ x36_1) = true := decide_eq_true c14
     clear c14
     by_cases c15 : x36_1 < (yc1.length : Int)
     rotate_left
     · rw [if_neg c15] at H
       exact absurd H (by simp)
     rw [if_pos c15] at H
     have c15b0 : decide (x36_1 < (yc1.length : Int)) = true := decide_eq_true c15
     clear c15
     by_cases c16 : x6_1 = true
     · subst c16
       have H1 : (impl_limbs_shiftDown.l0 k1 l0 a1 true yc1 (yc1.length : Int) (wrap64 (x36_1 + 1))) = some (r1, r2) := by rw [if_pos rfl] at H; exact H
       clear H; have H := H1; clear H1
       have H' := AM H
       clear H
       have p289 : 0 ≤ (x36_1 : Int) := of_decide_eq_true (by first | (with_reducible assumption) | assumption)
       have q289 : x36_1 < (yc1.length : Int) := of_decide_eq_true (by first | (with_reducible assumption) | assumption)
       obtain ⟨ad289, e289, hx289_0⟩ := Kd.at_int HR288.out x36_1 p289 q289
       obtain rfl : ad287 = ad289 := (by injection e289)
       replace hx289_0 := (HB.out.cell (World.block_lt_of_cell? w _ hx289_0)).trans hx289_0; replace p289 := eq_true p289; replace q289 := eq_true q289
       go_wp2
       repeat (go_quiet (fail); try go_wp2)
       go_roundg k1
       case measure => have := HK1.out; omega
       case rel => exact ⟨(true), (wrap64 (x36_1 + 1)), (by first | rfl | (simp; done) | (simp [*]; done)), (by first | rfl | (simp; done) | (simp [*]; done)), H', ⟨by have := HK1.out; omega⟩, ⟨pH HB⟩⟩
     replace c16 := Bool.eq_false_iff.mpr c16
     subst c16
     have H1 : (impl_limbs_shiftDown.l0 k1 l0 a1 ((rd yc1 x36_1) != 0) yc1 (yc1.length : Int) (wrap64 (x36_1 + 1))) = some (r1, r2) := by rw [if_neg (show ¬ (false = true) by decide)] at H; exact H
     clear H; have H := H1; clear H1
     have H' := AM H
     clear H
     have p289 : 0 ≤ (x36_1 : Int) := of_decide_eq_true (by first | (with_reducible assumption) | assumption)
     have q289 : x36_1 < (yc1.length : Int) := of_decide_eq_true (by first | (with_reducible assumption) | assumption)
     obtain ⟨ad289, e289, hx289_0⟩ := Kd.at_int HR288.out x36_1 p289 q289
     obtain rfl : ad287 = ad289 := (by injection e289)
     replace hx289_0 := (HB.out.cell (World.block_lt_of_cell? w _ hx289_0)).trans hx289_0; replace p289 := eq_true p289; replace q289 := eq_true q289
     go_wp2
     repeat (go_quiet (fail); try go_wp2)
     go_roundg k1
     case measure => have := HK1.out; omega
     case rel => exact ⟨(((rd yc1 x36_1) != 0)), (wrap64 (x36_1 + 1)), (by first | rfl | (simp; done) | (simp only [← hji4] <;> (first | rfl | simp)) | (simp [*]; done)), (by first | rfl | (simp; done) | (simp [*]; done)), H', ⟨by have := HK1.out; omega⟩, ⟨pH HB⟩⟩
   rw [if_neg c13] at H
   have c13b0 : decide (x36_1 < (yc1.length : Int)) = false := decide_eq_false c13
   clear c13
   replace H : (if 0 ≤ (ji4) then (if (ji4) ≤ (l0.length : Int) then (if 0 ≤ ((l0.drop ((ji4) : Int).toNat).length : Int) then (if (((l0.drop ((ji4) : Int).toNat).length : Int) : Int).toNat ≤ 70368744177664 then (impl_limbs_shiftDown.l1 k1 (l0.drop ((ji4) : Int).toNat) a1 x6_1 (List.replicate (((l0.drop ((ji4) : Int).toNat).length : Int) : Int).toNat 0) ((l0.drop ((ji4) : Int).toNat).length : Int) 0) else (none)) else (none)) else (none)) else (none)) = some (r1, r2) := by first | (rw [hji4] at H; exact H) | (simp only [hji4] at H ⊢; exact H)
   obtain ⟨yc2, hyc2⟩ : ∃ y_, y_ = (l0.drop ((ji4) : Int).toNat) := ⟨_, rfl⟩
   rw [← hyc2] at H
   replace hyc2 := AM hyc2
   (try rw [hji4] at c3b0)
   have hji4w : (IntKind.i64.wrap (Int.tdiv a1 32)) = ji4 := (i64_w _).trans hji4
   by_cases c18 : 0 ≤ (ji4)
   rotate_left
   · rw [if_neg c18] at H
     exact absurd H (by simp)
   rw [if_pos c18] at H
   have c18b0 := eq_true c18
   have c18b1 : decide (0 ≤ (ji4)) = true := decide_eq_true c18
   clear c18
   by_cases c19 : (ji4) ≤ (l0.length : Int)
   rotate_left
   · rw [if_neg c19] at H
     exact absurd H (by simp)
   rw [if_pos c19] at H
   have c19b0 := eq_true c19
   have c19b1 : decide ((ji4) ≤ (l0.length : Int)) = true := decide_eq_true c19
   clear c19
   by_cases c20 : 0 ≤ (yc2.length : Int)
   rotate_left
   · rw [if_neg c20] at H
     exact absurd H (by simp)
   rw [if_pos c20] at H
   have c20b0 := eq_true c20
   have c20b1 : decide (0 ≤ (yc2.length : Int)) = true := decide_eq_true c20
   clear c20
   by_cases c21 : ((yc2.length : Int) : Int).toNat ≤ 70368744177664
   rotate_left
   · rw [if_neg c21] at H
     exact absurd H (by simp)
   rw [if_pos c21] at H
   have c21b0 := eq_true c21
   have c21b1 : decide (((yc2.length : Int) : Int).toNat ≤ 70368744177664) = true := decide_eq_true c21
   clear c21
   obtain ⟨y291, hy291⟩ : ∃ y_ : List Int, y_ = (List.replicate ((yc2.length : Int) : Int).toNat 0) := ⟨_, rfl⟩
   replace H : (impl_limbs_shiftDown.l1 k1 yc2 a1 x6_1 y291 (yc2.length : Int) 0) = some (r1, r2) := by first | (rw [hy291]; with_reducible exact H) | (have H2_ := (Option.bind_some _ _).symm.trans H; rw [hy291]; with_reducible exact H2_) | (have H2_ := (Option.bind_some _ _).symm.trans H; with_reducible exact H2_) | with_reducible exact H | (rw [hy291]; exact H) | exact H
   have Ny291 := AM hy291; clear hy291
   have H' := AM H
   clear H
   obtain ⟨i022, hi022, _, hsz22, _⟩ := info_parts info50
   obtain ⟨A22, hcut22, hA22, hC22⟩ := print_drop_of (P := Try.prog) (Value.int .u32) 0 99 50 .i64 Try.underlying99 hi022 hsz22 (some ad287) c0 l0 (ji4) (of_decide_eq_true (by first | (with_reducible assumption) | assumption)) (of_decide_eq_true (by first | (with_reducible assumption) | assumption)) HC0.out
   try rw [← hyc2.out] at hcut22
   try rw [← hyc2.out] at hA22
   try rw [← hyc2.out] at hC22
   have HR290 := AM (Kd.C_of_reads (h1 := fun _ => rfl) (hA22 _ (Kd.reads_of_C HR0.out))); have HC290 := AM hC22; clear hA22 hC22 hi022 hsz22
   go_wp2_with (first | ((with_reducible refine gate_dst (N := 52) rfl ?_); refine Kd.R_make (Kd.int .u32) _ 50 rfl (N := 52) rfl 99 _ _ rfl (yc2.length : Int) rfl rfl Try.underlying99 (.int .u32 0) 4 info50 rfl (by decide) (by omega) 0 (ok := fun _ => True) (okp := fun _ => True) rfl (fun _ hk => hk) trivial (of_decide_eq_true (by first | (with_reducible assumption) | assumption)) (Nat.le_trans (Nat.mul_le_mul_right _ (of_decide_eq_true (by first | (with_reducible assumption) | assumption) : (yc2.length : Int).toNat ≤ 70368744177664)) (by omega)) (Below.refl _ _) (Nat.le_refl _) ?_; intro v292 w23 ho24 hb hg_ hnew_; clear hg_ hnew_; (first | rw [← Ny291.out] at ho24 | (simp only [Int.reduceToNat] at ho24; rw [← Ny291.out] at ho24)); have HO293 := AM (Kd.R_lower (Kd.R_newM (M := fun k_ => (w.heap.size ≤ k_)) ho24 (below_size (pH HB)) (fun k_ h_ => h_)) (below_size (pH HB))); replace HB := AM (below_step (pH HB) hb); clear hb ho24))
   repeat (go_quiet (first | ((with_reducible refine gate_dst (N := 52) rfl ?_); refine Kd.R_make (Kd.int .u32) _ 50 rfl (N := 52) rfl 99 _ _ rfl (yc2.length : Int) rfl rfl Try.underlying99 (.int .u32 0) 4 info50 rfl (by decide) (by omega) 0 (ok := fun _ => True) (okp := fun _ => True) rfl (fun _ hk => hk) trivial (of_decide_eq_true (by first | (with_reducible assumption) | assumption)) (Nat.le_trans (Nat.mul_le_mul_right _ (of_decide_eq_true (by first | (with_reducible assumption) | assumption) : (yc2.length : Int).toNat ≤ 70368744177664)) (by omega)) (Below.refl _ _) (Nat.le_refl _) ?_; intro v292 w23 ho24 hb hg_ hnew_; clear hg_ hnew_; (first | rw [← Ny291.out] at ho24 | (simp only [Int.reduceToNat] at ho24; rw [← Ny291.out] at ho24)); have HO293 := AM (Kd.R_lower (Kd.R_newM (M := fun k_ => (w.heap.size ≤ k_)) ho24 (below_size (pH HB)) (fun k_ h_ => h_)) (below_size (pH HB))); replace HB := AM (below_step (pH HB) hb); clear hb ho24)); try go_wp2_with (first | ((with_reducible refine gate_dst (N := 52) rfl ?_); refine Kd.R_make (Kd.int .u32) _ 50 rfl (N := 52) rfl 99 _ _ rfl (yc2.length : Int) rfl rfl Try.underlying99 (.int .u32 0) 4 info50 rfl (by decide) (by omega) 0 (ok := fun _ => True) (okp := fun _ => True) rfl (fun _ hk => hk) trivial (of_decide_eq_true (by first | (with_reducible assumption) | assumption)) (Nat.le_trans (Nat.mul_le_mul_right _ (of_decide_eq_true (by first | (with_reducible assumption) | assumption) : (yc2.length : Int).toNat ≤ 70368744177664)) (by omega)) (Below.refl _ _) (Nat.le_refl _) ?_; intro v292 w23 ho24 hb hg_ hnew_; clear hg_ hnew_; (first | rw [← Ny291.out] at ho24 | (simp only [Int.reduceToNat] at ho24; rw [← Ny291.out] at ho24)); have HO293 := AM (Kd.R_lower (Kd.R_newM (M := fun k_ => (w.heap.size ≤ k_)) ho24 (below_size (pH HB)) (fun k_ h_ => h_)) (below_size (pH HB))); replace HB := AM (below_step (pH HB) hb); clear hb ho24)))
   go_loopg [55] k1 (fun kq v55 w' => ∃ (x9_2 : List Int) (x55_2 : Int), v55 = .int .i64 x55_2 ∧ Aside0 (impl_limbs_shiftDown.l1 kq yc2 a1 x6_1 x9_2 (yc2.length : Int) x55_2 = some (r1, r2)) ∧ Aside0 (kq ≤ k1) ∧ Aside0 (Kd.R (Kd.int .u32) 50 w' w.heap.size (fun k_ => (w.heap.size ≤ k_)) v292 x9_2) ∧ Aside0 (Below w.heap.size w w'))
   case atStart => exact ⟨(y291), (0), (by first | rfl | (simp; done) | (simp [*]; done)), H', ⟨Nat.le_refl _⟩, ⟨by (with_reducible repeat (first | apply Kd.R_alloc | apply Kd.R_drewN | apply Kd.R_drew)); exact Kd.R_mono HO293.out (fun _ hk => hk.1)⟩, ⟨pH HB⟩⟩
   case round =>
    clear H'
    try clear c1
    try clear c2
    try clear p2
    try clear q2
    try clear hx2
    try clear c3
    try clear c3b0
    try clear c5
    try clear c5b0
    try clear c6
    try clear c6b0
    try clear p6
    try clear c8
    try clear c8b0
    try clear c8b1
    try clear c10
    try clear c10b0
    try clear c11
    try clear c11b0
    try clear c11b1
    try clear c13
    try clear c13b0
    try clear c14
    try clear c14b0
    try clear c15
    try clear c15b0
    try clear c16
    try clear c18
    try clear c18b0
    try clear c18b1
    try clear c19
    try clear c19b0
    try clear c19b1
    try clear c20
    try clear c20b0
    try clear c20b1
    try clear c21
    try clear c21b0
    try clear c21b1
    try clear hx287_0
    try clear hx289_0
    try clear p2
    try clear p287
    try clear p289
    try clear p6
    try clear q2
    try clear q287
    try clear q289
    obtain ⟨x9_2, x55_2, rfl, HA, HK2, HO_9, HB⟩ := hrel
    cases gk with
    | zero => exact absurd HA.out (by simp [impl_limbs_shiftDown.l1])
    | succ k2 =>
     have H := HA.out; clear HA
     simp only [impl_limbs_shiftDown.l1] at H
     by_cases c25 : x55_2 < (yc2.length : Int)
     rotate_left
     · rw [if_neg c25] at H
       have c25b0 : decide (x55_2 < (yc2.length : Int)) = false := decide_eq_false c25
       clear c25
       replace H := Option.bind_eq_some_iff.mp H
       obtain ⟨t298, A450, H⟩ := H
       (try dsimp only at H)
       have A45 := AM A450; clear A450
       simp only [Option.some.injEq, Prod.mk.injEq] at H
       obtain ⟨rfl, rfl⟩ := H
       obtain ⟨Ao46, co46, eo46⟩ := Kd.R_slice HO_9.out
       subst eo46
       go_wp2_with (first | (go_at_call 148; (with_reducible refine (impl_limbs_trim.calls k2 (fun k_ => some k_ = (.slice Ao46 x9_2.length co46 : Value).ownBlock) _ _ x9_2 t298 _ ?side1 A45.out).mono ?_); (case side1 => exact Kd.R_V (Kd.R_tight rfl (HO_9.out))); rintro e w47 ⟨v299, rfl, ho0, hb⟩; have HO300 := AM (Kd.V_lower (Kd.V_mono (ok' := fun k_ => (w.heap.size ≤ k_)) ho0 (fun k_ hk_ => Or.elim hk_ (fun hs_ => ((HO_9.out).1 k_ hs_.symm)) (fun hn_ => (Nat.le_trans (below_size (pH HB)) hn_)))) (below_size (pH HB))); replace HO_9 := AM (Kd.R_below (pR HO_9) hb); replace HB := AM (below_step (pH HB) hb); (try clear hb); (try clear hb2); (try clear hk); (try clear hi); (try clear ho0)))
       repeat (go_quiet (first | (go_at_call 148; (with_reducible refine (impl_limbs_trim.calls k2 (fun k_ => some k_ = (.slice Ao46 x9_2.length co46 : Value).ownBlock) _ _ x9_2 t298 _ ?side1 A45.out).mono ?_); (case side1 => exact Kd.R_V (Kd.R_tight rfl (HO_9.out))); rintro e w47 ⟨v299, rfl, ho0, hb⟩; have HO300 := AM (Kd.V_lower (Kd.V_mono (ok' := fun k_ => (w.heap.size ≤ k_)) ho0 (fun k_ hk_ => Or.elim hk_ (fun hs_ => ((HO_9.out).1 k_ hs_.symm)) (fun hn_ => (Nat.le_trans (below_size (pH HB)) hn_)))) (below_size (pH HB))); replace HO_9 := AM (Kd.R_below (pR HO_9) hb); replace HB := AM (below_step (pH HB) hb); (try clear hb); (try clear hb2); (try clear hk); (try clear hi); (try clear ho0))); try go_wp2_with (first | (go_at_call 148; (with_reducible refine (impl_limbs_trim.calls k2 (fun k_ => some k_ = (.slice Ao46 x9_2.length co46 : Value).ownBlock) _ _ x9_2 t298 _ ?side1 A45.out).mono ?_); (case side1 => exact Kd.R_V (Kd.R_tight rfl (HO_9.out))); rintro e w47 ⟨v299, rfl, ho0, hb⟩; have HO300 := AM (Kd.V_lower (Kd.V_mono (ok' := fun k_ => (w.heap.size ≤ k_)) ho0 (fun k_ hk_ => Or.elim hk_ (fun hs_ => ((HO_9.out).1 k_ hs_.symm)) (fun hn_ => (Nat.le_trans (below_size (pH HB)) hn_)))) (below_size (pH HB))); replace HO_9 := AM (Kd.R_below (pR HO_9) hb); replace HB := AM (below_step (pH HB) hb); (try clear hb); (try clear hb2); (try clear hk); (try clear hi); (try clear ho0))))
       go_ret2
       exact ⟨_, by first | rfl | (simp [errW_none, errW_some] <;> rfl) | (simp only [← hji4, ← hji7, ← hji9, ← hji4]; first | rfl | (simp [errW_none, errW_some] <;> rfl)) | (simp [*, errW_none, errW_some] <;> rfl), by (with_reducible repeat (first | apply Kd.V_alloc | apply Kd.V_drewN | apply Kd.V_drew)); exact HO300.out, pH HB⟩
     rw [if_pos c25] at H
     have c25b0 : decide (x55_2 < (yc2.length : Int)) = true := decide_eq_true c25
     clear c25
     by_cases c26 : 0 ≤ x55_2
     rotate_left
     · rw [if_neg c26] at H
       exact absurd H (by simp)
     rw [if_pos c26] at H
     have c26b0 : decide (0 ≤ x55_2) = true := decide_eq_true c26
     clear c26
     by_cases c27 : x55_2 < (yc2.length : Int)
     rotate_left
     · rw [if_neg c27] at H
       exact absurd H (by simp)
     rw [if_pos c27] at H
     have c27b0 : decide (x55_2 < (yc2.length : Int)) = true := decide_eq_true c27
     clear c27
     by_cases c28 : (wrap64 (x55_2 + 1)) < (yc2.length : Int)
     rotate_left
     · rw [if_neg c28] at H
       have c28b0 : decide ((wrap64 (x55_2 + 1)) < (yc2.length : Int)) = false := decide_eq_false c28
       clear c28
       replace H : (if 0 ≤ (ji7) then (if x55_2 < (x9_2.length : Int) then (impl_limbs_shiftDown.l1 k2 yc2 a1 x6_1 (x9_2.set (x55_2 : Int).toNat ((shr .u64 (IntKind.u64.wrap (rd yc2 x55_2)) (ji7)) % 4294967296)) (yc2.length : Int) (wrap64 (x55_2 + 1))) else (none)) else (none)) = some (r1, r2) := by first | (rw [hji7] at H; exact H) | (simp only [hji7] at H ⊢; exact H)
       by_cases c39 : 0 ≤ (ji7)
       rotate_left
       · rw [if_neg c39] at H
         exact absurd H (by simp)
       rw [if_pos c39] at H
       have c39b0 := eq_true c39
       have c39b1 : decide (0 ≤ (ji7)) = true := decide_eq_true c39
       clear c39
       obtain ⟨ji40, hji40⟩ : ∃ j_ : Int, (shr .u64 (IntKind.u64.wrap (rd yc2 x55_2)) (ji7)) = j_ := ⟨_, rfl⟩
       replace H : (if x55_2 < (x9_2.length : Int) then (impl_limbs_shiftDown.l1 k2 yc2 a1 x6_1 (x9_2.set (x55_2 : Int).toNat ((ji40) % 4294967296)) (yc2.length : Int) (wrap64 (x55_2 + 1))) else (none)) = some (r1, r2) := by first | (rw [hji40] at H; exact H) | (simp only [hji40] at H ⊢; exact H)
       have hji40_ : ((IntKind.u64.wrap (rd yc2 x55_2)) / 2 ^ min (ji7).toNat 64) = ji40 := hji40
       have hji40z : (ji7) ≤ 64 → ((IntKind.u64.wrap (rd yc2 x55_2)) / 2 ^ (ji7).toNat) = ji40 := shr_small hji40
       by_cases c41 : x55_2 < (x9_2.length : Int)
       rotate_left
       · rw [if_neg c41] at H
         exact absurd H (by simp)
       rw [if_pos c41] at H
       have c41b0 : decide (x55_2 < (x9_2.length : Int)) = true := decide_eq_true c41
       clear c41
       obtain ⟨y297, hy297⟩ : ∃ y_ : List Int, y_ = (x9_2.set (x55_2 : Int).toNat ((ji40) % 4294967296)) := ⟨_, rfl⟩
       replace H : (impl_limbs_shiftDown.l1 k2 yc2 a1 x6_1 y297 (yc2.length : Int) (wrap64 (x55_2 + 1))) = some (r1, r2) := by first | (rw [hy297]; with_reducible exact H) | (have H2_ := (Option.bind_some _ _).symm.trans H; rw [hy297]; with_reducible exact H2_) | (have H2_ := (Option.bind_some _ _).symm.trans H; with_reducible exact H2_) | with_reducible exact H | (rw [hy297]; exact H) | exact H
       have Ny297 := AM hy297; clear hy297
       have H' := AM H
       clear H
       have p294 : 0 ≤ (x55_2 : Int) := of_decide_eq_true (by first | (with_reducible assumption) | assumption)
       have q294 : x55_2 < (yc2.length : Int) := of_decide_eq_true (by first | (with_reducible assumption) | assumption)
       obtain ⟨ad294, e294, hx294_0⟩ := Kd.at_int HR290.out x55_2 p294 q294
       cases e294
       replace hx294_0 := (HB.out.cell (World.block_lt_of_cell? w _ hx294_0)).trans hx294_0; replace p294 := eq_true p294; replace q294 := eq_true q294
       have p42 : 0 ≤ (x55_2 : Int) := of_decide_eq_true (by first | (with_reducible assumption) | assumption)
       have q42 : (x55_2 : Int) < ((x9_2.length : Int) : Int) := of_decide_eq_true (by first | (with_reducible assumption) | assumption)
       obtain ⟨go42, co42, eo42, gb42, gl42, cl42, HG42⟩ := Kd.R_form HO_9.out (by omega)
       (first | cases eo42 | (injection eo42 with ea_ en_ ec_; (first | subst ea_ | (injection ea_ with ea_; subst ea_)); subst ec_; clear en_))
       have GB42 := AM gb42; have GG42 := AM HG42; clear gb42 gl42 HG42
       obtain ⟨hx42_0, hf42_0⟩ := Kd.R_celln 0 HO_9.out (x55_2 : Int) p42 q42
       replace p42 := eq_true p42; replace q42 := eq_true q42; have HP43 := Kd.R_putg HO_9.out (x55_2 : Int) ((ji40) % 4294967296)
       go_wp2_with (first | ((with_reducible refine gate_store (t := 50) (p := 84) rfl ?_); (try (rw [drewN_self wr]; generalize hq_ : World.drewN wr _ = wr; replace HO_9 := AM (Kd.R_at hq_ HO_9.out); replace HB := AM (below_at hq_ HB.out); clear hq_; (try (obtain ⟨hx42_0, hf42_0⟩ := Kd.R_celln 0 HO_9.out (x55_2 : Int) (of_eq_true p42) (of_eq_true q42))); (try (have HP43 := Kd.R_putg HO_9.out (x55_2 : Int) ((ji40) % 4294967296))))); refine store_event (t := 50) (p := 84) (v := ?vo_w44) (w1 := (wr.setCell ⟨go42, (x55_2 : Int).toNat, none⟩ (.int .u32 ((ji40) % 4294967296)))) ?hg ?ho ?hn ?hr ?_; (case ho => rfl); (case hg => rfl); (case hn => rfl); (case hr => first | (go_simp; done) | (go_simp; rfl)); intro w44 hw; have hg : wr.grownBy w44 (some go42) := (by rw [hw]; exact HP43.2); have hp_ : Kd.R (Kd.int .u32) 50 w44 w.heap.size (fun k_ => (w.heap.size ≤ k_)) (.slice (some ⟨go42, 0, none⟩) x9_2.length co42) y297 := (by rw [hw, Ny297.out]; exact HP43.1); clear HP43; replace HO_9 := AM (hp_); replace HB := AM ((by rw [hw]; exact below_set (HB.out) GB42.out : Below w.heap.size w w44)); clear hg hw hp_))
       repeat (go_quiet (first | ((with_reducible refine gate_store (t := 50) (p := 84) rfl ?_); (try (rw [drewN_self wr]; generalize hq_ : World.drewN wr _ = wr; replace HO_9 := AM (Kd.R_at hq_ HO_9.out); replace HB := AM (below_at hq_ HB.out); clear hq_; (try (obtain ⟨hx42_0, hf42_0⟩ := Kd.R_celln 0 HO_9.out (x55_2 : Int) (of_eq_true p42) (of_eq_true q42))); (try (have HP43 := Kd.R_putg HO_9.out (x55_2 : Int) ((ji40) % 4294967296))))); refine store_event (t := 50) (p := 84) (v := ?vo_w44) (w1 := (wr.setCell ⟨go42, (x55_2 : Int).toNat, none⟩ (.int .u32 ((ji40) % 4294967296)))) ?hg ?ho ?hn ?hr ?_; (case ho => rfl); (case hg => rfl); (case hn => rfl); (case hr => first | (go_simp; done) | (go_simp; rfl)); intro w44 hw; have hg : wr.grownBy w44 (some go42) := (by rw [hw]; exact HP43.2); have hp_ : Kd.R (Kd.int .u32) 50 w44 w.heap.size (fun k_ => (w.heap.size ≤ k_)) (.slice (some ⟨go42, 0, none⟩) x9_2.length co42) y297 := (by rw [hw, Ny297.out]; exact HP43.1); clear HP43; replace HO_9 := AM (hp_); replace HB := AM ((by rw [hw]; exact below_set (HB.out) GB42.out : Below w.heap.size w w44)); clear hg hw hp_)); try go_wp2_with (first | ((with_reducible refine gate_store (t := 50) (p := 84) rfl ?_); (try (rw [drewN_self wr]; generalize hq_ : World.drewN wr _ = wr; replace HO_9 := AM (Kd.R_at hq_ HO_9.out); replace HB := AM (below_at hq_ HB.out); clear hq_; (try (obtain ⟨hx42_0, hf42_0⟩ := Kd.R_celln 0 HO_9.out (x55_2 : Int) (of_eq_true p42) (of_eq_true q42))); (try (have HP43 := Kd.R_putg HO_9.out (x55_2 : Int) ((ji40) % 4294967296))))); refine store_event (t := 50) (p := 84) (v := ?vo_w44) (w1 := (wr.setCell ⟨go42, (x55_2 : Int).toNat, none⟩ (.int .u32 ((ji40) % 4294967296)))) ?hg ?ho ?hn ?hr ?_; (case ho => rfl); (case hg => rfl); (case hn => rfl); (case hr => first | (go_simp; done) | (go_simp; rfl)); intro w44 hw; have hg : wr.grownBy w44 (some go42) := (by rw [hw]; exact HP43.2); have hp_ : Kd.R (Kd.int .u32) 50 w44 w.heap.size (fun k_ => (w.heap.size ≤ k_)) (.slice (some ⟨go42, 0, none⟩) x9_2.length co42) y297 := (by rw [hw, Ny297.out]; exact HP43.1); clear HP43; replace HO_9 := AM (hp_); replace HB := AM ((by rw [hw]; exact below_set (HB.out) GB42.out : Below w.heap.size w w44)); clear hg hw hp_)))
       go_roundg k2
       case measure => have := HK1.out; have := HK2.out; omega
       case rel => exact ⟨(y297), (wrap64 (x55_2 + 1)), (by first | rfl | (simp; done) | (simp [*]; done)), H', ⟨by have := HK1.out; have := HK2.out; omega⟩, ⟨by (with_reducible repeat (first | apply Kd.R_alloc | apply Kd.R_drewN | apply Kd.R_drew)); exact HO_9.out⟩, ⟨pH HB⟩⟩
     rw [if_pos c28] at H
     have c28b0 : decide ((wrap64 (x55_2 + 1)) < (yc2.length : Int)) = true := decide_eq_true c28
     clear c28
     obtain ⟨ji29, hji29⟩ : ∃ j_ : Int, (wrap64 (x55_2 + 1)) = j_ := ⟨_, rfl⟩
     replace H : (if 0 ≤ (ji29) then (if 0 ≤ (Int.tmod a1 32) then (if x55_2 < (x9_2.length : Int) then (impl_limbs_shiftDown.l1 k2 yc2 a1 x6_1 (x9_2.set (x55_2 : Int).toNat ((shr .u64 (Go.bits .or .u64 (IntKind.u64.wrap (rd yc2 x55_2)) (IntKind.u64.wrap ((IntKind.u64.wrap (rd yc2 (ji29))) * 4294967296))) (Int.tmod a1 32)) % 4294967296)) (yc2.length : Int) ji29) else (none)) else (none)) else (none)) = some (r1, r2) := by first | (rw [hji29] at H; exact H) | (simp only [hji29] at H ⊢; exact H)
     (try rw [hji29] at c28b0)
     have hji29w : (IntKind.i64.wrap (x55_2 + 1)) = ji29 := (i64_w _).trans hji29
     by_cases c30 : 0 ≤ (ji29)
     rotate_left
     · rw [if_neg c30] at H
       exact absurd H (by simp)
     rw [if_pos c30] at H
     have c30b0 : decide (0 ≤ (ji29)) = true := decide_eq_true c30
     clear c30
     replace H : (if 0 ≤ (ji7) then (if x55_2 < (x9_2.length : Int) then (impl_limbs_shiftDown.l1 k2 yc2 a1 x6_1 (x9_2.set (x55_2 : Int).toNat ((shr .u64 (Go.bits .or .u64 (IntKind.u64.wrap (rd yc2 x55_2)) (IntKind.u64.wrap ((IntKind.u64.wrap (rd yc2 (ji29))) * 4294967296))) (ji7)) % 4294967296)) (yc2.length : Int) ji29) else (none)) else (none)) = some (r1, r2) := by first | (rw [hji7] at H; exact H) | (simp only [hji7] at H ⊢; exact H)
     by_cases c32 : 0 ≤ (ji7)
     rotate_left
     · rw [if_neg c32] at H
       exact absurd H (by simp)
     rw [if_pos c32] at H
     have c32b0 := eq_true c32
     have c32b1 : decide (0 ≤ (ji7)) = true := decide_eq_true c32
     clear c32
     obtain ⟨ji33, hji33⟩ : ∃ j_ : Int, (shr .u64 (Go.bits .or .u64 (IntKind.u64.wrap (rd yc2 x55_2)) (IntKind.u64.wrap ((IntKind.u64.wrap (rd yc2 (ji29))) * 4294967296))) (ji7)) = j_ := ⟨_, rfl⟩
     replace H : (if x55_2 < (x9_2.length : Int) then (impl_limbs_shiftDown.l1 k2 yc2 a1 x6_1 (x9_2.set (x55_2 : Int).toNat ((ji33) % 4294967296)) (yc2.length : Int) ji29) else (none)) = some (r1, r2) := by first | (rw [hji33] at H; exact H) | (simp only [hji33] at H ⊢; exact H)
     have hji33_ : ((Go.bits .or .u64 (IntKind.u64.wrap (rd yc2 x55_2)) (IntKind.u64.wrap ((IntKind.u64.wrap (rd yc2 (ji29))) * 4294967296))) / 2 ^ min (ji7).toNat 64) = ji33 := hji33
     have hji33z : (ji7) ≤ 64 → ((Go.bits .or .u64 (IntKind.u64.wrap (rd yc2 x55_2)) (IntKind.u64.wrap ((IntKind.u64.wrap (rd yc2 (ji29))) * 4294967296))) / 2 ^ (ji7).toNat) = ji33 := shr_small hji33
     by_cases c34 : x55_2 < (x9_2.length : Int)
     rotate_left
     · rw [if_neg c34] at H
       exact absurd H (by simp)
     rw [if_pos c34] at H
     have c34b0 : decide (x55_2 < (x9_2.length : Int)) = true := decide_eq_true c34
     clear c34
     obtain ⟨y296, hy296⟩ : ∃ y_ : List Int, y_ = (x9_2.set (x55_2 : Int).toNat ((ji33) % 4294967296)) := ⟨_, rfl⟩
     replace H : (impl_limbs_shiftDown.l1 k2 yc2 a1 x6_1 y296 (yc2.length : Int) ji29) = some (r1, r2) := by first | (rw [hy296]; with_reducible exact H) | (have H2_ := (Option.bind_some _ _).symm.trans H; rw [hy296]; with_reducible exact H2_) | (have H2_ := (Option.bind_some _ _).symm.trans H; with_reducible exact H2_) | with_reducible exact H | (rw [hy296]; exact H) | exact H
     have Ny296 := AM hy296; clear hy296
     have H' := AM H
     clear H
     have p294 : 0 ≤ (x55_2 : Int) := of_decide_eq_true (by first | (with_reducible assumption) | assumption)
     have q294 : x55_2 < (yc2.length : Int) := of_decide_eq_true (by first | (with_reducible assumption) | assumption)
     obtain ⟨ad294, e294, hx294_0⟩ := Kd.at_int HR290.out x55_2 p294 q294
     cases e294
     replace hx294_0 := (HB.out.cell (World.block_lt_of_cell? w _ hx294_0)).trans hx294_0; replace p294 := eq_true p294; replace q294 := eq_true q294
     have p295 : 0 ≤ ((ji29) : Int) := of_decide_eq_true (by first | (with_reducible assumption) | assumption)
     have q295 : (ji29) < (yc2.length : Int) := of_decide_eq_true (by first | (with_reducible assumption) | assumption)
     obtain ⟨ad295, e295, hx295_0⟩ := Kd.at_int HR290.out (ji29) p295 q295
     obtain rfl : ad294 = ad295 := (by injection e295)
     replace hx295_0 := (HB.out.cell (World.block_lt_of_cell? w _ hx295_0)).trans hx295_0; replace p295 := eq_true p295; replace q295 := eq_true q295
     have p35 : 0 ≤ (x55_2 : Int) := of_decide_eq_true (by first | (with_reducible assumption) | assumption)
     have q35 : (x55_2 : Int) < ((x9_2.length : Int) : Int) := of_decide_eq_true (by first | (with_reducible assumption) | assumption)
     obtain ⟨go35, co35, eo35, gb35, gl35, cl35, HG35⟩ := Kd.R_form HO_9.out (by omega)
     (first | cases eo35 | (injection eo35 with ea_ en_ ec_; (first | subst ea_ | (injection ea_ with ea_; subst ea_)); subst ec_; clear en_))
     have GB35 := AM gb35; have GG35 := AM HG35; clear gb35 gl35 HG35
     obtain ⟨hx35_0, hf35_0⟩ := Kd.R_celln 0 HO_9.out (x55_2 : Int) p35 q35
     replace p35 := eq_true p35; replace q35 := eq_true q35; have HP36 := Kd.R_putg HO_9.out (x55_2 : Int) ((ji33) % 4294967296)
     go_wp2_with (first | ((with_reducible refine gate_store (t := 50) (p := 84) rfl ?_); (try (rw [drewN_self wr]; generalize hq_ : World.drewN wr _ = wr; replace HO_9 := AM (Kd.R_at hq_ HO_9.out); replace HB := AM (below_at hq_ HB.out); clear hq_; (try (obtain ⟨hx35_0, hf35_0⟩ := Kd.R_celln 0 HO_9.out (x55_2 : Int) (of_eq_true p35) (of_eq_true q35))); (try (have HP36 := Kd.R_putg HO_9.out (x55_2 : Int) ((ji33) % 4294967296))))); refine store_event (t := 50) (p := 84) (v := ?vo_w37) (w1 := (wr.setCell ⟨go35, (x55_2 : Int).toNat, none⟩ (.int .u32 ((ji33) % 4294967296)))) ?hg ?ho ?hn ?hr ?_; (case ho => rfl); (case hg => rfl); (case hn => rfl); (case hr => first | (go_simp; done) | (go_simp; rfl)); intro w37 hw; have hg : wr.grownBy w37 (some go35) := (by rw [hw]; exact HP36.2); have hp_ : Kd.R (Kd.int .u32) 50 w37 w.heap.size (fun k_ => (w.heap.size ≤ k_)) (.slice (some ⟨go35, 0, none⟩) x9_2.length co35) y296 := (by rw [hw, Ny296.out]; exact HP36.1); clear HP36; replace HO_9 := AM (hp_); replace HB := AM ((by rw [hw]; exact below_set (HB.out) GB35.out : Below w.heap.size w w37)); clear hg hw hp_))
     repeat (go_quiet (first | ((with_reducible refine gate_store (t := 50) (p := 84) rfl ?_); (try (rw [drewN_self wr]; generalize hq_ : World.drewN wr _ = wr; replace HO_9 := AM (Kd.R_at hq_ HO_9.out); replace HB := AM (below_at hq_ HB.out); clear hq_; (try (obtain ⟨hx35_0, hf35_0⟩ := Kd.R_celln 0 HO_9.out (x55_2 : Int) (of_eq_true p35) (of_eq_true q35))); (try (have HP36 := Kd.R_putg HO_9.out (x55_2 : Int) ((ji33) % 4294967296))))); refine store_event (t := 50) (p := 84) (v := ?vo_w37) (w1 := (wr.setCell ⟨go35, (x55_2 : Int).toNat, none⟩ (.int .u32 ((ji33) % 4294967296)))) ?hg ?ho ?hn ?hr ?_; (case ho => rfl); (case hg => rfl); (case hn => rfl); (case hr => first | (go_simp; done) | (go_simp; rfl)); intro w37 hw; have hg : wr.grownBy w37 (some go35) := (by rw [hw]; exact HP36.2); have hp_ : Kd.R (Kd.int .u32) 50 w37 w.heap.size (fun k_ => (w.heap.size ≤ k_)) (.slice (some ⟨go35, 0, none⟩) x9_2.length co35) y296 := (by rw [hw, Ny296.out]; exact HP36.1); clear HP36; replace HO_9 := AM (hp_); replace HB := AM ((by rw [hw]; exact below_set (HB.out) GB35.out : Below w.heap.size w w37)); clear hg hw hp_)); try go_wp2_with (first | ((with_reducible refine gate_store (t := 50) (p := 84) rfl ?_); (try (rw [drewN_self wr]; generalize hq_ : World.drewN wr _ = wr; replace HO_9 := AM (Kd.R_at hq_ HO_9.out); replace HB := AM (below_at hq_ HB.out); clear hq_; (try (obtain ⟨hx35_0, hf35_0⟩ := Kd.R_celln 0 HO_9.out (x55_2 : Int) (of_eq_true p35) (of_eq_true q35))); (try (have HP36 := Kd.R_putg HO_9.out (x55_2 : Int) ((ji33) % 4294967296))))); refine store_event (t := 50) (p := 84) (v := ?vo_w37) (w1 := (wr.setCell ⟨go35, (x55_2 : Int).toNat, none⟩ (.int .u32 ((ji33) % 4294967296)))) ?hg ?ho ?hn ?hr ?_; (case ho => rfl); (case hg => rfl); (case hn => rfl); (case hr => first | (go_simp; done) | (go_simp; rfl)); intro w37 hw; have hg : wr.grownBy w37 (some go35) := (by rw [hw]; exact HP36.2); have hp_ : Kd.R (Kd.int .u32) 50 w37 w.heap.size (fun k_ => (w.heap.size ≤ k_)) (.slice (some ⟨go35, 0, none⟩) x9_2.length co35) y296 := (by rw [hw, Ny296.out]; exact HP36.1); clear HP36; replace HO_9 := AM (hp_); replace HB := AM ((by rw [hw]; exact below_set (HB.out) GB35.out : Below w.heap.size w w37)); clear hg hw hp_)))
     go_roundg k2
     case measure => have := HK1.out; have := HK2.out; omega
     case rel => exact ⟨(y296), (ji29), (by first | rfl | (simp; done) | (simp only [← hji29] <;> (first | rfl | simp)) | (simp [*]; done)), H', ⟨by have := HK1.out; have := HK2.out; omega⟩, ⟨by (with_reducible repeat (first | apply Kd.R_alloc | apply Kd.R_drewN | apply Kd.R_drew)); exact HO_9.out⟩, ⟨pH HB⟩⟩
/-! ### impl_dyadic_normal: function 140 -/
def impl_dyadic_normal.f (k : Nat) (a0_0 : Bool) (l0_1 : List Int) (a0_2 : Int) : Option (Bool × List Int × Int) := if (l0_1.length : Int) = 0 then (some (false, ([] : List Int), 0)) else ((impl_limbs_twos.f k l0_1).bind fun t303 => ((impl_limbs_shiftDown.f k l0_1 t303).bind fun bt304 => (some (a0_0, bt304.1, wrap64 (a0_2 + t303)))))
theorem impl_dyadic_normal.mono : ∀ a0 a1 a2 k, LeO (impl_dyadic_normal.f k a0 a1 a2) (impl_dyadic_normal.f (k + 1) a0 a1 a2) := by
 intro a0 a1 a2 k
 unfold impl_dyadic_normal.f
 repeat' with_reducible first | exact impl_limbs_shiftDown.mono _ _ _ | exact impl_limbs_twos.mono _ _ | exact LeO.refl _ | exact LeO.none _ | refine LeO.ite ?_ ?_ | refine LeO.bind ?_ (fun _ => ?_)
set_option maxHeartbeats 8000000 in
set_option maxRecDepth 100000 in
theorem impl_dyadic_normal.calls (k : Nat) (a0_0 : Bool) (A0_1 : Option Addr) (c0_1 : Nat) (l0_1 : List Int) (a0_2 : Int) (r1 : Bool) (r2 : List Int) (r3 : Int) (w : World) (hr0_1 : Kd.C (Kd.int .u32) w A0_1 l0_1.length l0_1) (hc0_1 : l0_1.length ≤ c0_1) (h : impl_dyadic_normal.f k a0_0 l0_1 a0_2 = some (r1, r2, r3)) :
 Calls Try.prog 140 #[.agg #[.bool a0_0, .slice A0_1 l0_1.length c0_1, .int .i64 a0_2]] w fun e w' => ∃ v1_ : Value, e = .returned (.agg #[.bool r1, v1_, .int .i64 r3]) ∧ Kd.V (Kd.int .u32) 50 w' w.heap.size (fun k_ => (w.heap.size ≤ k_)) v1_ r2 ∧ Below w.heap.size w w' := by
 have hu144 := Try.underlying144; have hu101 := Try.underlying101; have HR0_1 := AM hr0_1; have HC0_1 := AM hc0_1; clear hr0_1 hc0_1; have HB := AM (Below.refl w.heap.size w)
 have H : (if (l0_1.length : Int) = 0 then (some (false, ([] : List Int), 0)) else ((impl_limbs_twos.f k l0_1).bind fun t303 => ((impl_limbs_shiftDown.f k l0_1 t303).bind fun bt304 => (some (a0_0, bt304.1, wrap64 (a0_2 + t303)))))) = some (r1, r2, r3) := h
 clear h
 by_cases c2 : (l0_1.length : Int) = 0
 · rw [if_pos c2] at H
   have c2b0 : ((l0_1.length : Int) == 0) = true := beq_iff_eq.mpr c2
   have c2b1 : ((l0_1.length : Int) != 0) = false := bne_eq_false_iff_eq.mpr c2
   clear c2
   simp only [Option.some.injEq, Prod.mk.injEq] at H
   obtain ⟨rfl, rfl, rfl⟩ := H
   go_enter Try.func140, Try.ntmps140
   go_wp2_with (first | ((with_reducible refine gate_dst (N := 1) rfl ?_); refine box_event ?hg (N := 1) ?hd (cs := #[.bool a0_0, .slice A0_1 l0_1.length c0_1, .int .i64 a0_2]) (t := 144) ?hr ?_; (case hd => rfl); (case hg => rfl); (case hr => first | (go_simp; done) | (go_simp; rfl)); intro gb301 hg w3 hbox hb; have BK301 := AM (hbox); have GW301 := gH HB hg; have GE301 := gH HB hg; replace HB := AM (below_step (pH HB) hb); clear hb hbox hg) | ((with_reducible refine gate_dst (N := 2) rfl ?_); refine box_event ?hg (N := 2) ?hd (cs := #[.bool false, .slice none 0 0, .int .i64 0]) (t := 144) ?hr ?_; (case hd => rfl); (case hg => rfl); (case hr => first | (go_simp; done) | (go_simp; rfl)); intro gb302 hg w4 hbox hb; have BK302 := AM (hbox); have GW302 := gH HB hg; have GE302 := gH HB hg; replace HB := AM (below_step (pH HB) hb); have NB301_302 := nL BK301 hg; have NB302_301 := nG BK301 hg; replace BK301 := bB BK301 hb; clear hb hbox hg; have hnb5 := NB301_302.out; have hnc5 := NB302_301.out; have ⟨hcz6_0, hcz6_1, hcz6_2, hfz6_0, hfz6_1, hfz6_2⟩ := z3 BK301; have ⟨hcz7_0, hcz7_1, hcz7_2, hfz7_0, hfz7_1, hfz7_2⟩ := z3 BK302))
   refine bodyPost_ret (results_cell_row rfl _ _ gb302 144 #[.bool false, .slice none 0 0, .int .i64 0] (0, 0) _ rfl (by refine sB ?_; refine blk_put (cs := #[.bool false, .slice none 0 0, .int .i64 0]) ?_ 2 _ rfl; refine sB ?_; refine blk_put (cs := #[.bool false, .slice none 0 0, .int .i64 0]) ?_ 1 _ rfl; refine sB ?_; refine blk_put (cs := #[.bool false, .slice none 0 0, .int .i64 0]) ?_ 0 _ rfl; refine sB ?_; exact BK302.out) Try.underlying144 rfl (by kernel_rfl)) rfl ?_
   exact ⟨.slice none 0 0, by first | rfl | (simp [errW_none, errW_some] <;> rfl) | (simp [*, errW_none, errW_some] <;> rfl), (by first | exact Kd.V_nil _ _ _ _ _ | exact Kd.R_V (Kd.R_nil _ _ _ 0 _)), pH HB⟩
 rw [if_neg c2] at H
 have c2b0 : ((l0_1.length : Int) == 0) = false := beq_eq_false_iff_ne.mpr c2
 have c2b1 : ((l0_1.length : Int) != 0) = true := bne_iff_ne.mpr c2
 have c2b2 : ¬ (l0_1 = []) := fun h_ => c2 (by rw [h_]; rfl)
 replace H := Option.bind_eq_some_iff.mp H
 obtain ⟨t303, A80, H⟩ := H
 (try dsimp only at H)
 have A8 := AM A80; clear A80
 replace H := Option.bind_eq_some_iff.mp H
 obtain ⟨⟨t304, t307⟩, A90, H⟩ := H
 (try dsimp only at H)
 have A9 := AM A90; clear A90
 simp only [Option.some.injEq, Prod.mk.injEq] at H
 obtain ⟨rfl, rfl, rfl⟩ := H
 go_enter Try.func140, Try.ntmps140
 go_wp2_with (first | ((with_reducible refine gate_dst (N := 1) rfl ?_); refine box_event ?hg (N := 1) ?hd (cs := #[.bool a0_0, .slice A0_1 l0_1.length c0_1, .int .i64 a0_2]) (t := 144) ?hr ?_; (case hd => rfl); (case hg => rfl); (case hr => first | (go_simp; done) | (go_simp; rfl)); intro gb301 hg w10 hbox hb; have BK301 := AM (hbox); have GW301 := gH HB hg; have GE301 := gH HB hg; replace HB := AM (below_step (pH HB) hb); clear hb hbox hg) | ((with_reducible refine gate_dst (N := 2) rfl ?_); refine box_event ?hg (N := 2) ?hd (cs := #[.bool false, .slice none 0 0, .int .i64 0]) (t := 144) ?hr ?_; (case hd => rfl); (case hg => rfl); (case hr => first | (go_simp; done) | (go_simp; rfl)); intro gb302 hg w11 hbox hb; have BK302 := AM (hbox); have GW302 := gH HB hg; have GE302 := gH HB hg; replace HB := AM (below_step (pH HB) hb); have NB301_302 := nL BK301 hg; have NB302_301 := nG BK301 hg; replace BK301 := bB BK301 hb; clear hb hbox hg; have hnb12 := NB301_302.out; have hnc12 := NB302_301.out; have ⟨hcz13_0, hcz13_1, hcz13_2, hfz13_0, hfz13_1, hfz13_2⟩ := z3 BK301) | ((with_reducible refine gate_callee (f := 156) rfl ?_); refine goesL_ (some 15) rfl rfl Try.func156 (by kernel_rfl) rfl #[.slice A0_1 l0_1.length c0_1] rfl (by (try simp only [List.map_toArray, List.map_cons, List.map_nil]); first | done | rfl | (simp only [List.length_drop, List.length_take]; rfl)) ?_; (with_reducible refine (impl_limbs_twos.calls k _ _ l0_1 t303 _ ?side1 ?side2 A8.out).mono ?_); (case side1 => exact cB HR0_1 HB); (case side2 => exact HC0_1.out); rintro e w' ⟨rfl, ⟨nd, rfl⟩⟩; refine ⟨_, rfl, ?_⟩; (try (rw [drewN_self w11]; generalize hq_ : World.drewN w11 _ = w11; have n0_ : Aside0 (w11.heap[gb301]? = some (.cells #[.bool a0_0, .slice A0_1 l0_1.length c0_1, .int .i64 a0_2] 144 (0, 0))) := ⟨by rw [← hq_]; exact (pB BK301)⟩; have n1_ : Aside0 (w11.heap[gb302]? = some (.cells #[.bool false, .slice none 0 0, .int .i64 0] 144 (0, 0))) := ⟨by rw [← hq_]; exact (pB BK302)⟩; have n2_ : Aside0 (Below w.heap.size w w11) := ⟨by rw [← hq_]; exact (pH HB)⟩; clear BK301 BK302 HB hq_; have BK301 := n0_; have BK302 := n1_; have HB := n2_; clear n0_ n1_ n2_)); have ⟨hcy1_301_0, hcy1_301_1, hcy1_301_2, hfy1_301_0, hfy1_301_1, hfy1_301_2⟩ := z3 BK301; have ⟨hcy1_302_0, hcy1_302_1, hcy1_302_2, hfy1_302_0, hfy1_302_1, hfy1_302_2⟩ := z3 BK302) | ((with_reducible refine gate_callee (f := 157) rfl ?_); refine goesL_ (some 21) rfl rfl Try.func157 (by kernel_rfl) rfl #[.slice A0_1 l0_1.length c0_1, .int .i64 t303] rfl (by (try simp only [List.map_toArray, List.map_cons, List.map_nil]); first | done | rfl | (simp only [List.length_drop, List.length_take]; rfl)) ?_; (with_reducible refine (impl_limbs_shiftDown.calls k _ _ l0_1 t303 t304 t307 _ ?side1 ?side2 A9.out).mono ?_); (case side1 => exact cB HR0_1 HB); (case side2 => exact HC0_1.out); rintro e w14 ⟨v305, rfl, ho0, hb⟩; refine ⟨_, rfl, ?_⟩; have HO306 := AM (Kd.V_lower (Kd.V_mono (ok' := fun k_ => (w.heap.size ≤ k_) ∧ k_ ≠ gb301 ∧ k_ ≠ gb302) ho0 (fun k_ hk_ => ⟨(Nat.le_trans (below_size (pH HB)) hk_), (Kd.freshB (g := gb301) (o := .cells #[.bool a0_0, .slice A0_1 l0_1.length c0_1, .int .i64 a0_2] 144 (0, 0)) (pB BK301) k_ hk_), (Kd.freshB (g := gb302) (o := .cells #[.bool false, .slice none 0 0, .int .i64 0] 144 (0, 0)) (pB BK302) k_ hk_)⟩)) (below_size (pH HB))); replace BK301 := bB BK301 hb; replace BK302 := bB BK302 hb; replace HB := AM (below_step (pH HB) hb); (try clear hb); (try clear hb2); (try clear hk); (try clear hi); (try clear ho0); have ⟨hcz15_0, hcz15_1, hcz15_2, hfz15_0, hfz15_1, hfz15_2⟩ := z3 BK301; obtain ⟨Ao16, co16, eo16⟩ := Kd.V_slice HO306.out; subst eo16; have ⟨hcz17_0, hcz17_1, hcz17_2, hfz17_0, hfz17_1, hfz17_2⟩ := z3 BK302))
 refine bodyPost_ret (results_cell_row rfl _ _ gb302 144 #[.bool a0_0, .slice Ao16 t304.length co16, .int .i64 (wrap64 (a0_2 + t303))] (0, 0) _ rfl (by refine sB ?_; refine blk_put (cs := #[.bool a0_0, .slice Ao16 t304.length co16, .int .i64 0]) ?_ 2 _ rfl; refine sB ?_; refine blk_put (cs := #[.bool a0_0, .slice none 0 0, .int .i64 0]) ?_ 1 _ rfl; refine sB ?_; refine blk_put (cs := #[.bool false, .slice none 0 0, .int .i64 0]) ?_ 0 _ rfl; refine sB ?_; exact BK302.out) Try.underlying144 rfl (by kernel_rfl)) rfl ?_
 exact ⟨_, by first | rfl | (simp [errW_none, errW_some] <;> rfl) | (simp [*, errW_none, errW_some] <;> rfl), by (with_reducible repeat (first | apply Kd.V_alloc | apply Kd.V_drewN | apply Kd.V_drew)); exact Kd.V_mono (Kd.V_far (p := ⟨gb302, 2, none⟩) (Kd.V_far (p := ⟨gb302, 1, none⟩) (Kd.V_far (p := ⟨gb302, 0, none⟩) (Kd.V_mono HO306.out (fun k_ hk => (⟨hk, hk.2.2⟩ : _ ∧ k_ ≠ gb302))) (fun _ hk => hk.2) (.bool a0_0)) (fun _ hk => hk.2) (.slice Ao16 t304.length co16)) (fun _ hk => hk.2) (.int .i64 (wrap64 (a0_2 + t303)))) (fun _ hk => hk.1.1), pH HB⟩

/-! ### impl_dyadicOf: function 105 -/
def impl_dyadicOf.f (k : Nat) (a0_0 : Bool) (l0_1 : List Int) (a0_2 : Int) : Option (Bool × List Int × Int) := (impl_numberOf.f a0_0 l0_1).bind fun bt310 => ((impl_dyadic_normal.f k bt310.1 bt310.2 a0_2).bind fun bt314 => (some (bt314.1, bt314.2.1, bt314.2.2)))
theorem impl_dyadicOf.mono : ∀ a0 a1 a2 k, LeO (impl_dyadicOf.f k a0 a1 a2) (impl_dyadicOf.f (k + 1) a0 a1 a2) := by
 intro a0 a1 a2 k
 unfold impl_dyadicOf.f
 repeat' with_reducible first | exact impl_dyadic_normal.mono _ _ _ _ | exact LeO.refl _ | exact LeO.none _ | refine LeO.ite ?_ ?_ | refine LeO.bind ?_ (fun _ => ?_)
def impl_dyadicOf.T1 : Bool × List (List Nat × List Nat) := (true, [([], []), ([0], [0]), ([1], [1]), ([], []), ([3], [3]), ([2, 4], [2, 4]), ([5, 2], [5]), ([6, 6, 0, 1, 2, 3, 4, 5, 6], [6])])
def impl_dyadicOf.B1 : List Nat := [0, 1, 3, 0, 8, 31, 63, 127]
theorem impl_dyadicOf.tab1 : rtab .any (opsOf Try.f105 1) = impl_dyadicOf.T1 := by kernel_rfl
theorem impl_dyadicOf.bits1 : waitsOk impl_dyadicOf.T1.2 impl_dyadicOf.B1 = true := by kernel_rfl
set_option maxHeartbeats 8000000 in
set_option maxRecDepth 100000 in
theorem impl_dyadicOf.calls (k : Nat) (a0_0 : Bool) (P0_1_ : Nat → Prop) (A0_1 : Option Addr) (c0_1 : Nat) (l0_1 : List Int) (a0_2 : Int) (r1 : Bool) (r2 : List Int) (r3 : Int) (w : World) (hs0_1 : Kd.V (Kd.int .u32) 50 w w.heap.size (fun k_ => P0_1_ k_) (.slice A0_1 l0_1.length c0_1) l0_1) (h : impl_dyadicOf.f k a0_0 l0_1 a0_2 = some (r1, r2, r3)) :
 Calls Try.prog 105 #[.agg #[.bool a0_0, .slice A0_1 l0_1.length c0_1, .int .i64 a0_2]] w fun e w' => ∃ v1_ : Value, e = .returned (.agg #[.bool r1, v1_, .int .i64 r3]) ∧ Kd.V (Kd.int .u32) 50 w' w.heap.size (fun k_ => (P0_1_ k_ ∨ w.heap.size ≤ k_)) v1_ r2 ∧ Below w.heap.size w w' := by
 have hu77 := Try.underlying77; have hu144 := Try.underlying144; have hu28 := Try.underlying28; have HO0_1 := AM (show Kd.V (Kd.int .u32) 50 w w.heap.size (fun k_ => (P0_1_ k_ ∨ w.heap.size ≤ k_)) (.slice A0_1 l0_1.length c0_1) l0_1 from Kd.V_mono hs0_1 (fun k_ hk => .inl hk)); have HB := AM (Below.refl w.heap.size w)
 have H : ((impl_numberOf.f a0_0 l0_1).bind fun bt310 => ((impl_dyadic_normal.f k bt310.1 bt310.2 a0_2).bind fun bt314 => (some (bt314.1, bt314.2.1, bt314.2.2)))) = some (r1, r2, r3) := h
 clear h
 replace H := Option.bind_eq_some_iff.mp H
 obtain ⟨⟨t310, t311⟩, A20, H⟩ := H
 (try dsimp only at H)
 have A2 := AM A20; clear A20
 replace H := Option.bind_eq_some_iff.mp H
 obtain ⟨⟨t314, t315, t318⟩, A30, H⟩ := H
 (try dsimp only at H)
 have A3 := AM A30; clear A30
 simp only [Option.some.injEq, Prod.mk.injEq] at H
 obtain ⟨rfl, rfl, rfl⟩ := H
 go_enter Try.func105, Try.ntmps105
 try go_wp2_with (first | ((with_reducible refine gate_dst (N := 1) rfl ?_); refine box_event ?hg (N := 1) ?hd (cs := #[.bool a0_0, .slice A0_1 l0_1.length c0_1, .int .i64 a0_2]) (t := 77) ?hr ?_; (case hd => rfl); (case hg => rfl); (case hr => first | (go_simp; done) | (go_simp; rfl)); intro gb308 hg w4 hbox hb; replace HO0_1 := AM (Kd.V_below (Kd.V_elderB (by (with_reducible repeat (first | apply Kd.V_alloc | apply Kd.V_drewN | apply Kd.V_drew)); exact HO0_1.out) gb308 (Nat.le_of_eq hg.symm)) hb); have BK308 := AM (hbox); have GW308 := gH HB hg; have GE308 := gH HB hg; replace HB := AM (below_step (pH HB) hb); clear hb hbox hg) | ((with_reducible refine gate_dst (N := 2) rfl ?_); refine box_event ?hg (N := 2) ?hd (cs := #[.bool false, .slice none 0 0, .int .i64 0]) (t := 144) ?hr ?_; (case hd => rfl); (case hg => rfl); (case hr => first | (go_simp; done) | (go_simp; rfl)); intro gb309 hg w5 hbox hb; replace HO0_1 := AM (Kd.V_below (Kd.V_elderB (by (with_reducible repeat (first | apply Kd.V_alloc | apply Kd.V_drewN | apply Kd.V_drew)); exact HO0_1.out) gb309 (Nat.le_of_eq hg.symm)) hb); have BK309 := AM (hbox); have GW309 := gH HB hg; have GE309 := gH HB hg; replace HB := AM (below_step (pH HB) hb); have NB308_309 := nL BK308 hg; have NB309_308 := nG BK308 hg; replace BK308 := bB BK308 hb; clear hb hbox hg))
 replace HO0_1 := AM (Kd.V_drew HO0_1.out); replace BK308 := AM (blk_drew BK308.out); replace BK309 := AM (blk_drew BK309.out); replace HB := AM (below_drew1 HB.out)
 refine start_ (n := 8) (S := fun w' => w'.cell? ⟨gb308, 0, none⟩ = some (.bool a0_0) ∧ w'.cell? ⟨gb308, 1, none⟩ = some (.slice A0_1 l0_1.length c0_1) ∧ w'.cell? ⟨gb308, 2, none⟩ = some (.int .i64 a0_2)) (ds := []) #[false, false, false, false, false, false, false, false] (by kernel_rfl) rfl rfl ⟨(blk_cell BK308.out 0).trans rfl, (blk_cell BK308.out 1).trans rfl, (blk_cell BK308.out 2).trans rfl⟩ (fun hHeld => ?_); refine with_tabW impl_dyadicOf.tab1 impl_dyadicOf.bits1 (fun HT_ HW_ => ?_)
 generalize w5.drew = w6 at HO0_1 BK308 BK309 HB hHeld ⊢
 refine pure_ (i := 0) (N := some 3) (v := ?_) (a' := ?_) #[true, false, false, false, false, false, false, false] rfl rfl (any_of HT_.out (by kernel_rfl)) (fun _ _ _ h => h) (Or.inl ⟨by rfl, ?_⟩) ?_ ?_
 rotate_left
 · intro w'
   go_simp
   with_reducible rfl
 rotate_left
 · simp only [Act.put, sa, sb, sc, i64_w, i32_w]
   rfl
 refine pure_ (i := 3) (N := some 6) (v := ?_) (a' := ?_) #[true, false, false, true, false, false, false, false] rfl rfl (any_of HT_.out (by kernel_rfl)) (fun _ _ _ h => h) (Or.inl ⟨by rfl, ?_⟩) ?_ ?_
 rotate_left
 · intro w'
   go_simp
   with_reducible rfl
 rotate_left
 · simp only [Act.put, sa, sb, sc, i64_w, i32_w]
   rfl
 refine take_ (i := 1) (N := some 4) (v := ?_) (a' := ?_) #[true, true, false, true, false, false, false, false] rfl rfl (take_ofW HT_.out HW_.out (by kernel_rfl)) (fun _ _ _ h => h) (Or.inl ⟨by rfl, ?_⟩) hHeld ?_ ?_
 rotate_left
 · rintro w' ⟨s0, s1, s2⟩
   go_simp
   with_reducible rfl
 rotate_left
 · simp only [Act.put, sa, sb, sc, i64_w, i32_w]
   rfl
 refine take_ (i := 4) (N := some 7) (v := ?_) (a' := ?_) #[true, true, false, true, true, false, false, false] rfl rfl (take_ofW HT_.out HW_.out (by kernel_rfl)) (fun _ _ _ h => h) (Or.inl ⟨by rfl, ?_⟩) hHeld ?_ ?_
 rotate_left
 · rintro w' ⟨s0, s1, s2⟩
   go_simp
   with_reducible rfl
 rotate_left
 · simp only [Act.put, sa, sb, sc, i64_w, i32_w]
   rfl
 refine one_ (i := 2) (N := some 5) #[true, true, true, true, true, false, false, false] rfl rfl (one_of HT_.out (by kernel_rfl)) (by decide) (fun K hK => ?_)
 refine goes_ Try.func116 (by kernel_rfl) rfl #[.agg #[.bool a0_0, .slice A0_1 l0_1.length c0_1]] (by rfl) rfl rfl (by (try simp only [List.map_toArray, List.map_cons, List.map_nil]); first | done | rfl | (simp only [List.length_drop, List.length_take]; rfl)) ?_
 with_reducible refine (impl_numberOf.calls a0_0 (fun k_ => (((P0_1_ k_ ∨ w.heap.size ≤ k_) ∧ k_ ≠ gb308) ∧ k_ ≠ gb309)) _ _ l0_1 t310 t311 _ ?side1 A2.out).mono ?_
 (case side1 => exact HO0_1.out)
 rintro e w7 ⟨v312, rfl, ho0, hb⟩
 refine ⟨_, rfl, ?_⟩
 replace HO0_1 := AM (Kd.V_below (by (with_reducible repeat (first | apply Kd.V_alloc | apply Kd.V_drewN | apply Kd.V_drew)); exact HO0_1.out) hb); have HO313 := AM (Kd.V_lower (Kd.V_mono (ok' := fun k_ => (P0_1_ k_ ∨ w.heap.size ≤ k_) ∧ k_ ≠ gb308 ∧ k_ ≠ gb309) ho0 (fun k_ hk_ => ⟨Or.elim hk_ (fun hs_ => hs_.1.1) (fun hn_ => (.inr (Nat.le_trans (below_size (pH HB)) hn_))), Or.elim hk_ (fun hs_ => hs_.1.2) (fun hn_ => (Kd.freshB (g := gb308) (o := .cells #[.bool a0_0, .slice A0_1 l0_1.length c0_1, .int .i64 a0_2] 77 (0, 0)) (pB BK308) k_ hn_)), Or.elim hk_ (fun hs_ => hs_.2) (fun hn_ => (Kd.freshB (g := gb309) (o := .cells #[.bool false, .slice none 0 0, .int .i64 0] 144 (0, 0)) (pB BK309) k_ hn_))⟩)) (below_size (pH HB))); replace BK308 := bB BK308 hb; replace BK309 := bB BK309 hb; replace HB := AM (below_step (pH HB) hb)
 (try clear hb)
 (try clear hb2)
 (try clear hk)
 (try clear hi)
 (try clear ho0)
 obtain ⟨Ao8, co8, eo8⟩ := Kd.V_slice HO313.out
 (first | subst eo8 | (injection eo8 with f1_ f2_ f3_; have f4_ := f1_.symm; have f5_ := f3_.symm; clear f1_ f2_ f3_; subst f4_; subst f5_))
 refine hK.out _ _ ⟨(blk_cell BK308.out 0).trans rfl, (blk_cell BK308.out 1).trans rfl, (blk_cell BK308.out 2).trans rfl⟩ (fun hHeld => ?_)
 clear hK K
 refine norm_ (a' := ?_) ?_ ?_
 rotate_left
 · show Act.put _ (some 5) _ = _
   simp only [Act.put, sa, sb, sc, i64_w, i32_w]
   rfl
 refine pure_ (i := 5) (N := some 8) (v := ?_) (a' := ?_) #[true, true, true, true, true, true, false, false] rfl rfl (any_of HT_.out (by kernel_rfl)) (fun _ _ _ h => h) (Or.inl ⟨by rfl, ?_⟩) ?_ ?_
 rotate_left
 · intro w'
   go_simp
   with_reducible rfl
 rotate_left
 · simp only [Act.put, sa, sb, sc, i64_w, i32_w]
   rfl
 refine one_ (i := 6) (N := some 9) #[true, true, true, true, true, true, true, false] rfl rfl (one_of HT_.out (by kernel_rfl)) (by decide) (fun K hK => ?_)
 refine goes_ Try.func140 (by kernel_rfl) rfl #[.agg #[.bool t310, .slice Ao8 t311.length co8, .int .i64 a0_2]] (by rfl) rfl rfl (by (try simp only [List.map_toArray, List.map_cons, List.map_nil]); first | done | rfl | (simp only [List.length_drop, List.length_take]; rfl)) ?_
 with_reducible refine (impl_dyadic_normal.calls k t310 _ _ t311 a0_2 t314 t315 t318 _ ?side1 ?side2 A3.out).mono ?_
 (case side1 => repeat (first | exact (Kd.V_reads' HO313.out).2.2 | (with_reducible refine Kd.C_alloc ?_ _) | (with_reducible refine Kd.C_drewN ?_ _) | (with_reducible refine Kd.C_drew ?_)))
 (case side2 => exact (Kd.V_reads' HO313.out).2.1)
 rintro e w9 ⟨v316, rfl, ho0, hb⟩
 refine ⟨_, rfl, ?_⟩
 replace HO0_1 := AM (Kd.V_below (by (with_reducible repeat (first | apply Kd.V_alloc | apply Kd.V_drewN | apply Kd.V_drew)); exact HO0_1.out) hb); replace HO313 := AM (Kd.V_below (by (with_reducible repeat (first | apply Kd.V_alloc | apply Kd.V_drewN | apply Kd.V_drew)); exact HO313.out) hb); have HO317 := AM (Kd.V_lower (Kd.V_mono (ok' := fun k_ => (P0_1_ k_ ∨ w.heap.size ≤ k_) ∧ k_ ≠ gb308 ∧ k_ ≠ gb309) ho0 (fun k_ hk_ => ⟨(.inr (Nat.le_trans (below_size (pH HB)) hk_)), (Kd.freshB (g := gb308) (o := .cells #[.bool a0_0, .slice A0_1 l0_1.length c0_1, .int .i64 a0_2] 77 (0, 0)) (pB BK308) k_ hk_), (Kd.freshB (g := gb309) (o := .cells #[.bool false, .slice none 0 0, .int .i64 0] 144 (0, 0)) (pB BK309) k_ hk_)⟩)) (below_size (pH HB))); replace BK308 := bB BK308 hb; replace BK309 := bB BK309 hb; replace HB := AM (below_step (pH HB) hb)
 (try clear hb)
 (try clear hb2)
 (try clear hk)
 (try clear hi)
 (try clear ho0)
 obtain ⟨Ao11, co11, eo11⟩ := Kd.V_slice HO317.out
 (first | subst eo11 | (injection eo11 with f1_ f2_ f3_; have f4_ := f1_.symm; have f5_ := f3_.symm; clear f1_ f2_ f3_; subst f4_; subst f5_))
 refine hK.out _ _ ⟨(blk_cell BK308.out 0).trans rfl, (blk_cell BK308.out 1).trans rfl, (blk_cell BK308.out 2).trans rfl⟩ (fun hHeld => ?_)
 clear hK K
 refine norm_ (a' := ?_) ?_ ?_
 rotate_left
 · show Act.put _ (some 9) _ = _
   simp only [Act.put, sa, sb, sc, i64_w, i32_w]
   rfl
 refine one_ (i := 7) (N := none) #[true, true, true, true, true, true, true, true] rfl rfl (one_of HT_.out (by kernel_rfl)) (by decide) (fun K hK => ?_)
 have hs10 : w9.cell? ⟨gb309, 0, none⟩ = some (.bool false) := (blk_cell BK309.out 0).trans rfl
 have hfs10 := blk_frozen BK309.out 0; have hns10_0 := NB308_309.out; have hms10_0 := NB309_308.out
 have hs12 : w9.cell? ⟨gb309, 1, none⟩ = some (.slice none 0 0) := (blk_cell BK309.out 1).trans rfl
 have hfs12 := blk_frozen BK309.out 1; have hns12_0 := NB308_309.out; have hms12_0 := NB309_308.out
 have hs13 : w9.cell? ⟨gb309, 2, none⟩ = some (.int .i64 0) := (blk_cell BK309.out 2).trans rfl
 have hfs13 := blk_frozen BK309.out 2; have hns13_0 := NB308_309.out; have hms13_0 := NB309_308.out
 refine skip_ (w1 := ?_) (by rfl) rfl ?_ ?_
 rotate_left
 · go_simp
   rfl
 refine hK.out _ _ ⟨((cell_far (p := ⟨gb309, _, none⟩) NB308_309.out _).trans (((cell_far (p := ⟨gb309, _, none⟩) NB308_309.out _).trans (((cell_far (p := ⟨gb309, _, none⟩) NB308_309.out _).trans (hHeld.1)))))), ((cell_far (p := ⟨gb309, _, none⟩) NB308_309.out _).trans (((cell_far (p := ⟨gb309, _, none⟩) NB308_309.out _).trans (((cell_far (p := ⟨gb309, _, none⟩) NB308_309.out _).trans (hHeld.2.1)))))), ((cell_far (p := ⟨gb309, _, none⟩) NB308_309.out _).trans (((cell_far (p := ⟨gb309, _, none⟩) NB308_309.out _).trans (((cell_far (p := ⟨gb309, _, none⟩) NB308_309.out _).trans (hHeld.2.2))))))⟩ (fun hHeld => ?_)
 clear hK K
 refine done_ (done_of HT_.out (by kernel_rfl)) ?_
 try go_wp2
 refine bodyPost_ret (results_cell_row rfl _ _ gb309 144 #[.bool t314, .slice Ao11 t315.length co11, .int .i64 t318] (0, 0) _ rfl (by refine sB ?_; refine blk_put (cs := #[.bool t314, .slice Ao11 t315.length co11, .int .i64 0]) ?_ 2 _ rfl; refine sB ?_; refine blk_put (cs := #[.bool t314, .slice none 0 0, .int .i64 0]) ?_ 1 _ rfl; refine sB ?_; refine blk_put (cs := #[.bool false, .slice none 0 0, .int .i64 0]) ?_ 0 _ rfl; refine sB ?_; exact BK309.out) Try.underlying144 rfl (by kernel_rfl)) rfl ?_
 exact ⟨_, by first | rfl | (simp [errW_none, errW_some] <;> rfl) | (simp [*, errW_none, errW_some] <;> rfl), by (with_reducible repeat (first | apply Kd.V_alloc | apply Kd.V_drewN | apply Kd.V_drew)); exact Kd.V_mono (Kd.V_far (p := ⟨gb309, 2, none⟩) (Kd.V_far (p := ⟨gb309, 1, none⟩) (Kd.V_far (p := ⟨gb309, 0, none⟩) (Kd.V_mono HO317.out (fun k_ hk => (⟨hk, hk.2.2⟩ : _ ∧ k_ ≠ gb309))) (fun _ hk => hk.2) (.bool t314)) (fun _ hk => hk.2) (.slice Ao11 t315.length co11)) (fun _ hk => hk.2) (.int .i64 t318)) (fun _ hk => hk.1.1), pH HB⟩

end Go.Proofs.Ytcpdeenhjodmfaa.QDyMul
