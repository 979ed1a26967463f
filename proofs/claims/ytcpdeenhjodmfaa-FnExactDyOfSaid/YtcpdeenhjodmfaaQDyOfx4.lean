-- Written by wip/tools/mkprint.py (my program) out of the translation, for this claim. Not trusted: Lean checks it.
import Derived.Test.YtcpdeenhjodmfaaQDyOfx0
import Derived.Test.YtcpdeenhjodmfaaQDyOfx3
namespace Go.Proofs.Ytcpdeenhjodmfaa.QDyOf
open Go.RowKit Go.Proofs.YtcpdeenhjodmfaaW.PrintWords Go.Proofs.YtcpdeenhjodmfaaW.PrintLast Go.Proofs.YtcpdeenhjodmfaaW.PrintMore
attribute [local go_sem] max2_int min2_int max_two min_two max_three min_three max_four min_four   -- for this text's walks alone
set_option linter.unusedVariables false
set_option linter.unusedSimpArgs false

/-! ### impl_limbs_shiftDown: function 157 -/
mutual
def impl_limbs_shiftDown.l0 : Nat → List Int → Int → Bool → List Int → Int → Int → Option (List Int × Bool)
 | 0, _, _, _, _, _, _ => none
 | k + 1, x0, x1, x6, x34, x35, x36 => if x36 < x35 then (if 0 ≤ x36 then (if x36 < (x34.length : Int) then (if x6 = true then (impl_limbs_shiftDown.l0 k x0 x1 true x34 x35 (wrap64 (x36 + 1))) else (impl_limbs_shiftDown.l0 k x0 x1 ((rd x34 x36) != 0) x34 x35 (wrap64 (x36 + 1)))) else (none)) else (none)) else (if 0 ≤ (wrap64 (Int.tdiv x1 32)) then (if (wrap64 (Int.tdiv x1 32)) ≤ (x0.length : Int) then (if 0 ≤ ((x0.drop ((wrap64 (Int.tdiv x1 32)) : Int).toNat).length : Int) then (if (((x0.drop ((wrap64 (Int.tdiv x1 32)) : Int).toNat).length : Int) : Int).toNat ≤ 70368744177664 then (impl_limbs_shiftDown.l1 k (x0.drop ((wrap64 (Int.tdiv x1 32)) : Int).toNat) x1 x6 (List.replicate (((x0.drop ((wrap64 (Int.tdiv x1 32)) : Int).toNat).length : Int) : Int).toNat 0) ((x0.drop ((wrap64 (Int.tdiv x1 32)) : Int).toNat).length : Int) 0) else (none)) else (none)) else (none)) else (none))
def impl_limbs_shiftDown.l1 : Nat → List Int → Int → Bool → List Int → Int → Int → Option (List Int × Bool)
 | 0, _, _, _, _, _, _ => none
 | k + 1, x0, x1, x6, x9, x54, x55 => if x55 < x54 then (if 0 ≤ x55 then (if x55 < (x0.length : Int) then (if (wrap64 (x55 + 1)) < (x0.length : Int) then (if 0 ≤ (wrap64 (x55 + 1)) then (if 0 ≤ (Int.tmod x1 32) then (if x55 < (x9.length : Int) then (impl_limbs_shiftDown.l1 k x0 x1 x6 (x9.set (x55 : Int).toNat ((shr .u64 (Go.bits .or .u64 (IntKind.u64.wrap (rd x0 x55)) (IntKind.u64.wrap ((IntKind.u64.wrap (rd x0 (wrap64 (x55 + 1)))) * 4294967296))) (Int.tmod x1 32)) % 4294967296)) x54 (wrap64 (x55 + 1))) else (none)) else (none)) else (none)) else (if 0 ≤ (Int.tmod x1 32) then (if x55 < (x9.length : Int) then (impl_limbs_shiftDown.l1 k x0 x1 x6 (x9.set (x55 : Int).toNat ((shr .u64 (IntKind.u64.wrap (rd x0 x55)) (Int.tmod x1 32)) % 4294967296)) x54 (wrap64 (x55 + 1))) else (none)) else (none))) else (none)) else (none)) else ((impl_limbs_trim.f k x9).bind fun t247 => (some (t247, x6)))
end
def impl_limbs_shiftDown.f (k : Nat) (l0 : List Int) (a1 : Int) : Option (List Int × Bool) := if (wrap64 (Int.tdiv a1 32)) ≥ (l0.length : Int) then (some (([] : List Int), decide (0 < l0.length))) else (if 0 ≤ (wrap64 (Int.tdiv a1 32)) then (if (wrap64 (Int.tdiv a1 32)) < (l0.length : Int) then (if 0 ≤ (Int.tmod a1 32) then (if (wrap64 (Int.tdiv a1 32)) ≤ (l0.length : Int) then (impl_limbs_shiftDown.l0 k l0 a1 ((Go.bits .and .u32 (rd l0 (wrap64 (Int.tdiv a1 32))) (((shl .u32 1 (Int.tmod a1 32)) - 1) % 4294967296)) != 0) (l0.take ((wrap64 (Int.tdiv a1 32)) : Int).toNat) ((l0.take ((wrap64 (Int.tdiv a1 32)) : Int).toNat).length : Int) 0) else (none)) else (none)) else (none)) else (none))
theorem impl_limbs_shiftDown.mono_l : ∀ k, (∀ y0 y1 y2 y3 y4 y5, LeO (impl_limbs_shiftDown.l0 k y0 y1 y2 y3 y4 y5) (impl_limbs_shiftDown.l0 (k + 1) y0 y1 y2 y3 y4 y5)) ∧ (∀ y0 y1 y2 y3 y4 y5, LeO (impl_limbs_shiftDown.l1 k y0 y1 y2 y3 y4 y5) (impl_limbs_shiftDown.l1 (k + 1) y0 y1 y2 y3 y4 y5))
 | 0 => ⟨fun _ _ _ _ _ _ r h => by simp [impl_limbs_shiftDown.l0] at h, fun _ _ _ _ _ _ r h => by simp [impl_limbs_shiftDown.l1] at h⟩
 | k + 1 => by
  obtain ⟨ih0, ih1⟩ := impl_limbs_shiftDown.mono_l k
  refine ⟨?_, ?_⟩
  · intro y0 y1 y2 y3 y4 y5
    unfold impl_limbs_shiftDown.l0
    repeat' with_reducible first | exact ih0 _ _ _ _ _ _ | exact ih1 _ _ _ _ _ _ | exact impl_limbs_trim.mono _ _ | exact LeO.refl _ | exact LeO.none _ | refine LeO.ite ?_ ?_ | refine LeO.bind ?_ (fun _ => ?_)
  intro y0 y1 y2 y3 y4 y5
  unfold impl_limbs_shiftDown.l1
  repeat' with_reducible first | exact ih0 _ _ _ _ _ _ | exact ih1 _ _ _ _ _ _ | exact impl_limbs_trim.mono _ _ | exact LeO.refl _ | exact LeO.none _ | refine LeO.ite ?_ ?_ | refine LeO.bind ?_ (fun _ => ?_)
theorem impl_limbs_shiftDown.mono : ∀ a0 a1 k, LeO (impl_limbs_shiftDown.f k a0 a1) (impl_limbs_shiftDown.f (k + 1) a0 a1) := by
 intro a0 a1 k
 obtain ⟨ih0, ih1⟩ := impl_limbs_shiftDown.mono_l k
 unfold impl_limbs_shiftDown.f
 repeat' with_reducible first | exact ih0 _ _ _ _ _ _ | exact ih1 _ _ _ _ _ _ | exact impl_limbs_trim.mono _ _ | exact LeO.refl _ | exact LeO.none _ | refine LeO.ite ?_ ?_ | refine LeO.bind ?_ (fun _ => ?_)
set_option maxHeartbeats 8000000 in
set_option maxRecDepth 100000 in
theorem impl_limbs_shiftDown.calls (k : Nat) (A0 : Option Addr) (c0 : Nat) (l0 : List Int) (a1 : Int) (r1 : List Int) (r2 : Bool) (w : World) (hr0 : Kd.C (Kd.int .u32) w A0 l0.length l0) (hc0 : l0.length ≤ c0) (h : impl_limbs_shiftDown.f k l0 a1 = some (r1, r2)) :
 Calls Try.prog 157 #[.slice A0 l0.length c0, .int .i64 a1] w fun e w' => ∃ v0_ : Value, e = .returned (.tuple #[v0_, .bool r2]) ∧ Kd.V (Kd.int .u32) 50 w' w.heap.size (fun k_ => (w.heap.size ≤ k_)) v0_ r1 ∧ Below w.heap.size w w' := by
 have HR0 := AM hr0; have HC0 := AM hc0; clear hr0 hc0; have HB := AM (Below.refl w.heap.size w)
 have H : (if (wrap64 (Int.tdiv a1 32)) ≥ (l0.length : Int) then (some (([] : List Int), decide (0 < l0.length))) else (if 0 ≤ (wrap64 (Int.tdiv a1 32)) then (if (wrap64 (Int.tdiv a1 32)) < (l0.length : Int) then (if 0 ≤ (Int.tmod a1 32) then (if (wrap64 (Int.tdiv a1 32)) ≤ (l0.length : Int) then (impl_limbs_shiftDown.l0 k l0 a1 ((Go.bits .and .u32 (rd l0 (wrap64 (Int.tdiv a1 32))) (((shl .u32 1 (Int.tmod a1 32)) - 1) % 4294967296)) != 0) (l0.take ((wrap64 (Int.tdiv a1 32)) : Int).toNat) ((l0.take ((wrap64 (Int.tdiv a1 32)) : Int).toNat).length : Int) 0) else (none)) else (none)) else (none)) else (none))) = some (r1, r2) := h
 clear h
 by_cases c3 : (wrap64 (Int.tdiv a1 32)) ≥ (l0.length : Int)
 · rw [if_pos c3] at H
   have c3b0 : decide ((l0.length : Int) ≤ (wrap64 (Int.tdiv a1 32))) = true := decide_eq_true c3
   clear c3
   simp only [Option.some.injEq, Prod.mk.injEq] at H
   obtain ⟨rfl, rfl⟩ := H
   go_enter Try.func157, Try.ntmps157
   go_wp2
   repeat (go_quiet (fail); try go_wp2)
   go_ret2
   exact ⟨.slice none 0 0, by first | rfl | (simp [errW_none, errW_some] <;> rfl) | (simp [*, errW_none, errW_some] <;> rfl), (by first | exact Kd.V_nil _ _ _ _ _ | exact Kd.R_V (Kd.R_nil _ _ _ 0 _)), pH HB⟩
 rw [if_neg c3] at H
 have c3b0 : decide ((l0.length : Int) ≤ (wrap64 (Int.tdiv a1 32))) = false := decide_eq_false c3
 clear c3
 obtain ⟨ji4, hji4⟩ : ∃ j_ : Int, (wrap64 (Int.tdiv a1 32)) = j_ := ⟨_, rfl⟩
 replace H : (if 0 ≤ (ji4) then (if (ji4) < (l0.length : Int) then (if 0 ≤ (Int.tmod a1 32) then (if (ji4) ≤ (l0.length : Int) then (impl_limbs_shiftDown.l0 k l0 a1 ((Go.bits .and .u32 (rd l0 (ji4)) (((shl .u32 1 (Int.tmod a1 32)) - 1) % 4294967296)) != 0) (l0.take ((ji4) : Int).toNat) ((l0.take ((ji4) : Int).toNat).length : Int) 0) else (none)) else (none)) else (none)) else (none)) = some (r1, r2) := by first | (rw [hji4] at H; exact H) | (simp only [hji4] at H ⊢; exact H)
 obtain ⟨yc1, hyc1⟩ : ∃ y_, y_ = (l0.take ((ji4) : Int).toNat) := ⟨_, rfl⟩
 rw [← hyc1] at H
 replace hyc1 := AM hyc1
 (try rw [hji4] at c3b0)
 have hji4w : (IntKind.i64.wrap (Int.tdiv a1 32)) = ji4 := (i64_w _).trans hji4
 by_cases c5 : 0 ≤ (ji4)
 rotate_left
 · rw [if_neg c5] at H
   exact absurd H (by simp)

 rw [if_pos c5] at H
 have c5b0 : decide (0 ≤ (ji4)) = true := decide_eq_true c5
 clear c5
 by_cases c6 : (ji4) < (l0.length : Int)
 rotate_left
 · rw [if_neg c6] at H
   exact absurd H (by simp)
 rw [if_pos c6] at H
 have c6b0 : decide ((ji4) < (l0.length : Int)) = true := decide_eq_true c6
 clear c6
 obtain ⟨ji7, hji7⟩ : ∃ j_ : Int, (Int.tmod a1 32) = j_ := ⟨_, rfl⟩
 replace H : (if 0 ≤ (ji7) then (if (ji4) ≤ (l0.length : Int) then (impl_limbs_shiftDown.l0 k l0 a1 ((Go.bits .and .u32 (rd l0 (ji4)) (((shl .u32 1 (ji7)) - 1) % 4294967296)) != 0) yc1 (yc1.length : Int) 0) else (none)) else (none)) = some (r1, r2) := by first | (rw [hji7] at H; exact H) | (simp only [hji7] at H ⊢; exact H)
 by_cases c8 : 0 ≤ (ji7)
 rotate_left
 · rw [if_neg c8] at H
   exact absurd H (by simp)
 rw [if_pos c8] at H
 have c8b0 := eq_true c8
 have c8b1 : decide (0 ≤ (ji7)) = true := decide_eq_true c8
 clear c8
 obtain ⟨ji9, hji9⟩ : ∃ j_ : Int, (shl .u32 1 (ji7)) = j_ := ⟨_, rfl⟩
 replace H : (if (ji4) ≤ (l0.length : Int) then (impl_limbs_shiftDown.l0 k l0 a1 ((Go.bits .and .u32 (rd l0 (ji4)) (((ji9) - 1) % 4294967296)) != 0) yc1 (yc1.length : Int) 0) else (none)) = some (r1, r2) := by first | (rw [hji9] at H; exact H) | (simp only [hji9] at H ⊢; exact H)
 have hji9_ : (IntKind.u32.wrap (1 * 2 ^ min (ji7).toNat 32)) = ji9 := hji9
 have hji9z : (ji7) ≤ 32 → (IntKind.u32.wrap (1 * 2 ^ (ji7).toNat)) = ji9 := shl_small hji9
 have hji9u : (IntKind.u32.wrap (2 ^ min (ji7).toNat 32)) = ji9 := by have h_ := hji9_; rw [Int.one_mul] at h_; exact h_
 have hji9v : (ji7) ≤ 32 → (IntKind.u32.wrap (2 ^ (ji7).toNat)) = ji9 := fun hle_ => by have h_ := hji9z hle_; rw [Int.one_mul] at h_; exact h_
 have c10b0 := eq_true (of_decide_eq_true (by first | (with_reducible assumption) | assumption) : 0 ≤ (ji4))
 by_cases c11 : (ji4) ≤ (l0.length : Int)
 rotate_left
 · rw [if_neg c11] at H
   exact absurd H (by simp)
 rw [if_pos c11] at H
 have c11b0 := eq_true c11
 have c11b1 : decide ((ji4) ≤ (l0.length : Int)) = true := decide_eq_true c11
 clear c11
 have H' := AM H
 clear H
 have p236 : 0 ≤ ((ji4) : Int) := of_decide_eq_true (by first | (with_reducible assumption) | assumption)
 have q236 : (ji4) < (l0.length : Int) := of_decide_eq_true (by first | (with_reducible assumption) | assumption)
 obtain ⟨ad236, e236, hx236_0⟩ := Kd.at_int HR0.out (ji4) p236 q236
 cases e236
 replace p236 := eq_true p236; replace q236 := eq_true q236
 obtain ⟨i012, hi012, _, hsz12, _⟩ := info_parts info50
 obtain ⟨hcut12, hA12, hC12⟩ := print_take_of (P := Try.prog) (Value.int .u32) 0 99 50 .i64 Try.underlying99 hi012 hsz12 (some ad236) c0 l0 (ji4) (of_decide_eq_true (by first | (with_reducible assumption) | assumption)) (of_decide_eq_true (by first | (with_reducible assumption) | assumption)) HC0.out
 try rw [← hyc1.out] at hcut12
 try rw [← hyc1.out] at hA12
 try rw [← hyc1.out] at hC12
 have HR237 := AM (Kd.C_of_reads (h1 := fun _ => rfl) (hA12 _ (Kd.reads_of_C HR0.out))); have HC237 := AM hC12; clear hA12 hC12 hi012 hsz12
 go_enter Try.func157, Try.ntmps157
 go_wp2
 repeat (go_quiet (fail); try go_wp2)
 go_loopg [6, 36] k (fun kq v6 v36 w' => ∃ (x6_1 : Bool) (x36_1 : Int), v6 = .bool x6_1 ∧ v36 = .int .i64 x36_1 ∧ Aside0 (impl_limbs_shiftDown.l0 kq l0 a1 x6_1 yc1 (yc1.length : Int) x36_1 = some (r1, r2)) ∧ Aside0 (kq ≤ k) ∧ Aside0 (Below w.heap.size w w'))
 case atStart => exact ⟨(((Go.bits .and .u32 (rd l0 (ji4)) (((ji9) - 1) % 4294967296)) != 0)), (0), (by first | rfl | (simp; done) | (simp only [← hji4, ← hji9] <;> (first | rfl | simp)) | (simp [*]; done)), (by first | rfl | (simp; done) | (simp [*]; done)), H', ⟨Nat.le_refl _⟩, ⟨pH HB⟩⟩
 case round =>
  clear H'
  try clear c1
  try clear p2
  try clear q2
  try clear hx2
  try clear c3
  try clear c3b0
  try clear c5
  try clear c5b0
  try clear c6
  try clear c6b0
  try clear p6
  try clear c8
  try clear c8b0
  try clear c8b1
  try clear c10
  try clear c10b0
  try clear c11
  try clear c11b0
  try clear c11b1
  try clear hx236_0
  try clear p236
  try clear q236
  obtain ⟨x6_1, x36_1, rfl, rfl, HA, HK1, HB⟩ := hrel
  cases gk with
  | zero => exact absurd HA.out (by simp [impl_limbs_shiftDown.l0])
  | succ k1 =>
   have H := HA.out; clear HA
   simp only [impl_limbs_shiftDown.l0] at H
   by_cases c13 : x36_1 < (yc1.length : Int)
   · rw [if_pos c13] at H
     have c13b0 : decide (x36_1 < (yc1.length : Int)) = true := decide_eq_true c13
     clear c13
     by_cases c14 : 0 ≤ x36_1
     rotate_left
     · rw [if_neg c14] at H
       exact absurd H (by simp)
     rw [if_pos c14] at H
     have c14b0 : decide (0 ≤ x36_1) = true := decide_eq_true c14
     clear c14
     by_cases c15 : x36_1 < (yc1.length : Int)
     rotate_left
     · rw [if_neg c15] at H
       exact absurd H (by simp)
     rw [if_pos c15] at H
     have c15b0 : decide (x36_1 < (yc1.length : Int)) = true := decide_eq_true c15
     clear c15
     by_cases c16 : x6_1 = true
     · subst c16
       have H1 : (impl_limbs_shiftDown.l0 k1 l0 a1 true yc1 (yc1.length : Int) (wrap64 (x36_1 + 1))) = some (r1, r2) := by rw [if_pos rfl] at H; exact H
       clear H; have H := H1; clear H1
       have H' := AM H
       clear H
       have p238 : 0 ≤ (x36_1 : Int) := of_decide_eq_true (by first | (with_reducible assumption) | assumption)
       have q238 : x36_1 < (yc1.length : Int) := of_decide_eq_true (by first | (with_reducible assumption) | assumption)
       obtain ⟨ad238, e238, hx238_0⟩ := Kd.at_int HR237.out x36_1 p238 q238
       obtain rfl : ad236 = ad238 := (by injection e238)
       replace hx238_0 := (HB.out.cell (World.block_lt_of_cell? w _ hx238_0)).trans hx238_0; replace p238 := eq_true p238; replace q238 := eq_true q238
       go_wp2
       repeat (go_quiet (fail); try go_wp2)
       go_roundg k1
       case measure => have := HK1.out; omega
       case rel => exact ⟨(true), (wrap64 (x36_1 + 1)), (by first | rfl | (simp; done) | (simp [*]; done)), (by first | rfl | (simp; done) | (simp [*]; done)), H', ⟨by have := HK1.out; omega⟩, ⟨pH HB⟩⟩
     replace c16 := Bool.eq_false_iff.mpr c16
     subst c16
     have H1 : (impl_limbs_shiftDown.l0 k1 l0 a1 ((rd yc1 x36_1) != 0) yc1 (yc1.length : Int) (wrap64 (x36_1 + 1))) = some (r1, r2) := by rw [if_neg (show ¬ (false = true) by decide)] at H; exact H
     clear H; have H := H1; clear H1
     have H' := AM H
     clear H
     have p238 : 0 ≤ (x36_1 : Int) := of_decide_eq_true (by first | (with_reducible assumption) | assumption)
     have q238 : x36_1 < (yc1.length : Int) := of_decide_eq_true (by first | (with_reducible assumption) | assumption)
     obtain ⟨ad238, e238, hx238_0⟩ := Kd.at_int HR237.out x36_1 p238 q238
     obtain rfl : ad236 = ad238 := (by injection e238)
     replace hx238_0 := (HB.out.cell (World.block_lt_of_cell? w _ hx238_0)).trans hx238_0; replace p238 := eq_true p238; replace q238 := eq_true q238
     go_wp2
     repeat (go_quiet (fail); try go_wp2)
     go_roundg k1
     case measure => have := HK1.out; omega
     case rel => exact ⟨(((rd yc1 x36_1) != 0)), (wrap64 (x36_1 + 1)), (by first | rfl | (simp; done) | (simp only [← hji4] <;> (first | rfl | simp)) | (simp [*]; done)), (by first | rfl | (simp; done) | (simp [*]; done)), H', ⟨by have := HK1.out; omega⟩, ⟨pH HB⟩⟩
   rw [if_neg c13] at H
   have c13b0 : decide (x36_1 < (yc1.length : Int)) = false := decide_eq_false c13
   clear c13
   replace H : (if 0 ≤ (ji4) then (if (ji4) ≤ (l0.length : Int) then (if 0 ≤ ((l0.drop ((ji4) : Int).toNat).length : Int) then (if (((l0.drop ((ji4) : Int).toNat).length : Int) : Int).toNat ≤ 70368744177664 then (impl_limbs_shiftDown.l1 k1 (l0.drop ((ji4) : Int).toNat) a1 x6_1 (List.replicate (((l0.drop ((ji4) : Int).toNat).length : Int) : Int).toNat 0) ((l0.drop ((ji4) : Int).toNat).length : Int) 0) else (none)) else (none)) else (none)) else (none)) = some (r1, r2) := by first | (rw [hji4] at H; exact H) | (simp only [hji4] at H ⊢; exact H)
   obtain ⟨yc2, hyc2⟩ : ∃ y_, y_ = (l0.drop ((ji4) : Int).toNat) := ⟨_, rfl⟩
   rw [← hyc2] at H
   replace hyc2 := AM hyc2
   (try rw [hji4] at c3b0)
   have hji4w : (IntKind.i64.wrap (Int.tdiv a1 32)) = ji4 := (i64_w _).trans hji4
   by_cases c18 : 0 ≤ (ji4)
   rotate_left
   · rw [if_neg c18] at H
     exact absurd H (by simp)
   rw [if_pos c18] at H
   have c18b0 := eq_true c18
   have c18b1 : decide (0 ≤ (ji4)) = true := decide_eq_true c18
   clear c18
   by_cases c19 : (ji4) ≤ (l0.length : Int)
   rotate_left
   · rw [if_neg c19] at H
     exact absurd H (by simp)
   rw [if_pos c19] at H
   have c19b0 := eq_true c19
   have c19b1 : decide ((ji4) ≤ (l0.length : Int)) = true := decide_eq_true c19
   clear c19
   by_cases c20 : 0 ≤ (yc2.length : Int)
   rotate_left
   · rw [if_neg c20] at H
     exact absurd H (by simp)
   rw [if_pos c20] at H
   have c20b0 := eq_true c20
   have c20b1 : decide (0 ≤ (yc2.length : Int)) = true := decide_eq_true c20
   clear c20
   by_cases c21 : ((yc2.length : Int) : Int).toNat ≤ 70368744177664
   rotate_left
   · rw [if_neg c21] at H
     exact absurd H (by simp)
   rw [if_pos c21] at H
   have c21b0 := eq_true c21
   have c21b1 : decide (((yc2.length : Int) : Int).toNat ≤ 70368744177664) = true := decide_eq_true c21
   clear c21
   obtain ⟨y240, hy240⟩ : ∃ y_ : List Int, y_ = (List.replicate ((yc2.length : Int) : Int).toNat 0) := ⟨_, rfl⟩
   replace H : (impl_limbs_shiftDown.l1 k1 yc2 a1 x6_1 y240 (yc2.length : Int) 0) = some (r1, r2) := by first | (rw [hy240]; with_reducible exact H) | (have H2_ := (Option.bind_some _ _).symm.trans H; rw [hy240]; with_reducible exact H2_) | (have H2_ := (Option.bind_some _ _).symm.trans H; with_reducible exact H2_) | with_reducible exact H | (rw [hy240]; exact H) | exact H
   have Ny240 := AM hy240; clear hy240
   have H' := AM H
   clear H
   obtain ⟨i022, hi022, _, hsz22, _⟩ := info_parts info50
   obtain ⟨A22, hcut22, hA22, hC22⟩ := print_drop_of (P := Try.prog) (Value.int .u32) 0 99 50 .i64 Try.underlying99 hi022 hsz22 (some ad236) c0 l0 (ji4) (of_decide_eq_true (by first | (with_reducible assumption) | assumption)) (of_decide_eq_true (by first | (with_reducible assumption) | assumption)) HC0.out
   try rw [← hyc2.out] at hcut22
   try rw [← hyc2.out] at hA22
   try rw [← hyc2.out] at hC22
   have HR239 := AM (Kd.C_of_reads (h1 := fun _ => rfl) (hA22 _ (Kd.reads_of_C HR0.out))); have HC239 := AM hC22; clear hA22 hC22 hi022 hsz22
   go_wp2_with (first | ((with_reducible refine gate_dst (N := 52) rfl ?_); refine Kd.R_make (Kd.int .u32) _ 50 rfl (N := 52) rfl 99 _ _ rfl (yc2.length : Int) rfl rfl Try.underlying99 (.int .u32 0) 4 info50 rfl (by decide) (by omega) 0 (ok := fun _ => True) (okp := fun _ => True) rfl (fun _ hk => hk) trivial (of_decide_eq_true (by first | (with_reducible assumption) | assumption)) (Nat.le_trans (Nat.mul_le_mul_right _ (of_decide_eq_true (by first | (with_reducible assumption) | assumption) : (yc2.length : Int).toNat ≤ 70368744177664)) (by omega)) (Below.refl _ _) (Nat.le_refl _) ?_; intro v241 w23 ho24 hb hg_ hnew_; clear hg_ hnew_; (first | rw [← Ny240.out] at ho24 | (simp only [Int.reduceToNat] at ho24; rw [← Ny240.out] at ho24)); have HO242 := AM (Kd.R_lower (Kd.R_newM (M := fun k_ => (w.heap.size ≤ k_)) ho24 (below_size (pH HB)) (fun k_ h_ => h_)) (below_size (pH HB))); replace HB := AM (below_step (pH HB) hb); clear hb ho24))
   repeat (go_quiet (first | ((with_reducible refine gate_dst (N := 52) rfl ?_); refine Kd.R_make (Kd.int .u32) _ 50 rfl (N := 52) rfl 99 _ _ rfl (yc2.length : Int) rfl rfl Try.underlying99 (.int .u32 0) 4 info50 rfl (by decide) (by omega) 0 (ok := fun _ => True) (okp := fun _ => True) rfl (fun _ hk => hk) trivial (of_decide_eq_true (by first | (with_reducible assumption) | assumption)) (Nat.le_trans (Nat.mul_le_mul_right _ (of_decide_eq_true (by first | (with_reducible assumption) | assumption) : (yc2.length : Int).toNat ≤ 70368744177664)) (by omega)) (Below.refl _ _) (Nat.le_refl _) ?_; intro v241 w23 ho24 hb hg_ hnew_; clear hg_ hnew_; (first | rw [← Ny240.out] at ho24 | (simp only [Int.reduceToNat] at ho24; rw [← Ny240.out] at ho24)); have HO242 := AM (Kd.R_lower (Kd.R_newM (M := fun k_ => (w.heap.size ≤ k_)) ho24 (below_size (pH HB)) (fun k_ h_ => h_)) (below_size (pH HB))); replace HB := AM (below_step (pH HB) hb); clear hb ho24)); try go_wp2_with (first | ((with_reducible refine gate_dst (N := 52) rfl ?_); refine Kd.R_make (Kd.int .u32) _ 50 rfl (N := 52) rfl 99 _ _ rfl (yc2.length : Int) rfl rfl Try.underlying99 (.int .u32 0) 4 info50 rfl (by decide) (by omega) 0 (ok := fun _ => True) (okp := fun _ => True) rfl (fun _ hk => hk) trivial (of_decide_eq_true (by first | (with_reducible assumption) | assumption)) (Nat.le_trans (Nat.mul_le_mul_right _ (of_decide_eq_true (by first | (with_reducible assumption) | assumption) : (yc2.length : Int).toNat ≤ 70368744177664)) (by omega)) (Below.refl _ _) (Nat.le_refl _) ?_; intro v241 w23 ho24 hb hg_ hnew_; clear hg_ hnew_; (first | rw [← Ny240.out] at ho24 | (simp only [Int.reduceToNat] at ho24; rw [← Ny240.out] at ho24)); have HO242 := AM (Kd.R_lower (Kd.R_newM (M := fun k_ => (w.heap.size ≤ k_)) ho24 (below_size (pH HB)) (fun k_ h_ => h_)) (below_size (pH HB))); replace HB := AM (below_step (pH HB) hb); clear hb ho24)))
   go_loopg [55] k1 (fun kq v55 w' => ∃ (x9_2 : List Int) (x55_2 : Int), v55 = .int .i64 x55_2 ∧ Aside0 (impl_limbs_shiftDown.l1 kq yc2 a1 x6_1 x9_2 (yc2.length : Int) x55_2 = some (r1, r2)) ∧ Aside0 (kq ≤ k1) ∧ Aside0 (Kd.R (Kd.int .u32) 50 w' w.heap.size (fun k_ => (w.heap.size ≤ k_)) v241 x9_2) ∧ Aside0 (Below w.heap.size w w'))
   case atStart => exact ⟨(y240), (0), (by first | rfl | (simp; done) | (simp [*]; done)), H', ⟨Nat.le_refl _⟩, ⟨by (with_reducible repeat (first | apply Kd.R_alloc | apply Kd.R_drewN | apply Kd.R_drew)); exact Kd.R_mono HO242.out (fun _ hk => hk.1)⟩, ⟨pH HB⟩⟩
   case round =>
    clear H'
    try clear c1
    try clear c2
    try clear p2
    try clear q2
    try clear hx2
    try clear c3
    try clear c3b0
    try clear c5
    try clear c5b0
    try clear c6
    try clear c6b0
    try clear p6
    try clear c8
    try clear c8b0
    try clear c8b1
    try clear c10
    try clear c10b0
    try clear c11
    try clear c11b0
    try clear c11b1
    try clear c13
    try clear c13b0
    try clear c14
    try clear c14b0
    try clear c15
    try clear c15b0
    try clear c16
    try clear c18
    try clear c18b0
    try clear c18b1
    try clear c19
    try clear c19b0
    try clear c19b1
    try clear c20
    try clear c20b0
    try clear c20b1
    try clear c21
    try clear c21b0
    try clear c21b1
    try clear p23
    try clear q23
    try clear hx23
    try clear hx236_0
    try clear hx238_0
    try clear p2
    try clear p236
    try clear p238
    try clear p6
    try clear q2
    try clear q236
    try clear q238
    obtain ⟨x9_2, x55_2, rfl, HA, HK2, HO_9, HB⟩ := hrel
    cases gk with
    | zero => exact absurd HA.out (by simp [impl_limbs_shiftDown.l1])
    | succ k2 =>
     have H := HA.out; clear HA
     simp only [impl_limbs_shiftDown.l1] at H
     by_cases c25 : x55_2 < (yc2.length : Int)
     rotate_left
     · rw [if_neg c25] at H
       have c25b0 : decide (x55_2 < (yc2.length : Int)) = false := decide_eq_false c25
       clear c25
       replace H := Option.bind_eq_some_iff.mp H
       obtain ⟨t247, A450, H⟩ := H
       (try dsimp only at H)
       have A45 := AM A450; clear A450
       simp only [Option.some.injEq, Prod.mk.injEq] at H
       obtain ⟨rfl, rfl⟩ := H
       obtain ⟨Ao46, co46, eo46⟩ := Kd.R_slice HO_9.out
       subst eo46
       go_wp2_with (first | (go_at_call 148; (with_reducible refine (impl_limbs_trim.calls k2 (fun k_ => some k_ = (.slice Ao46 x9_2.length co46 : Value).ownBlock) _ _ x9_2 t247 _ ?side1 A45.out).mono ?_); (case side1 => exact Kd.R_V (Kd.R_tight rfl (HO_9.out))); rintro e w47 ⟨v248, rfl, ho0, hb⟩; have HO249 := AM (Kd.V_lower (Kd.V_mono (ok' := fun k_ => (w.heap.size ≤ k_)) ho0 (fun k_ hk_ => Or.elim hk_ (fun hs_ => ((HO_9.out).1 k_ hs_.symm)) (fun hn_ => (Nat.le_trans (below_size (pH HB)) hn_)))) (below_size (pH HB))); replace HO_9 := AM (Kd.R_below (pR HO_9) hb); replace HB := AM (below_step (pH HB) hb); (try clear hb); (try clear hb2); (try clear hk); (try clear hi); (try clear ho0)))
       repeat (go_quiet (first | (go_at_call 148; (with_reducible refine (impl_limbs_trim.calls k2 (fun k_ => some k_ = (.slice Ao46 x9_2.length co46 : Value).ownBlock) _ _ x9_2 t247 _ ?side1 A45.out).mono ?_); (case side1 => exact Kd.R_V (Kd.R_tight rfl (HO_9.out))); rintro e w47 ⟨v248, rfl, ho0, hb⟩; have HO249 := AM (Kd.V_lower (Kd.V_mono (ok' := fun k_ => (w.heap.size ≤ k_)) ho0 (fun k_ hk_ => Or.elim hk_ (fun hs_ => ((HO_9.out).1 k_ hs_.symm)) (fun hn_ => (Nat.le_trans (below_size (pH HB)) hn_)))) (below_size (pH HB))); replace HO_9 := AM (Kd.R_below (pR HO_9) hb); replace HB := AM (below_step (pH HB) hb); (try clear hb); (try clear hb2); (try clear hk); (try clear hi); (try clear ho0))); try go_wp2_with (first | (go_at_call 148; (with_reducible refine (impl_limbs_trim.calls k2 (fun k_ => some k_ = (.slice Ao46 x9_2.length co46 : Value).ownBlock) _ _ x9_2 t247 _ ?side1 A45.out).mono ?_); (case side1 => exact Kd.R_V (Kd.R_tight rfl (HO_9.out))); rintro e w47 ⟨v248, rfl, ho0, hb⟩; have HO249 := AM (Kd.V_lower (Kd.V_mono (ok' := fun k_ => (w.heap.size ≤ k_)) ho0 (fun k_ hk_ => Or.elim hk_ (fun hs_ => ((HO_9.out).1 k_ hs_.symm)) (fun hn_ => (Nat.le_trans (below_size (pH HB)) hn_)))) (below_size (pH HB))); replace HO_9 := AM (Kd.R_below (pR HO_9) hb); replace HB := AM (below_step (pH HB) hb); (try clear hb); (try clear hb2); (try clear hk); (try clear hi); (try clear ho0))))
       go_ret2
       exact ⟨_, by first | rfl | (simp [errW_none, errW_some] <;> rfl) | (simp only [← hji4, ← hji7, ← hji9, ← hji4]; first | rfl | (simp [errW_none, errW_some] <;> rfl)) | (simp [*, errW_none, errW_some] <;> rfl), by (with_reducible repeat (first | apply Kd.V_alloc | apply Kd.V_drewN | apply Kd.V_drew)); exact HO249.out, pH HB⟩
     rw [if_pos c25] at H
     have c25b0 : decide (x55_2 < (yc2.length : Int)) = true := decide_eq_true c25
     clear c25
     by_cases c26 : 0 ≤ x55_2
     rotate_left
     · rw [if_neg c26] at H
       exact absurd H (by simp)
     rw [if_pos c26] at H
     have c26b0 : decide (0 ≤ x55_2) = true := decide_eq_true c26
     clear c26
     by_cases c27 : x55_2 < (yc2.length : Int)
     rotate_left
     · rw [if_neg c27] at H
       exact absurd H (by simp)
     rw [if_pos c27] at H
     have c27b0 : decide (x55_2 < (yc2.length : Int)) = true := decide_eq_true c27
     clear c27
     by_cases c28 : (wrap64 (x55_2 + 1)) < (yc2.length : Int)
     rotate_left
     · rw [if_neg c28] at H
       have c28b0 : decide ((wrap64 (x55_2 + 1)) < (yc2.length : Int)) = false := decide_eq_false c28
       clear c28
       replace H : (if 0 ≤ (ji7) then (if x55_2 < (x9_2.length : Int) then (impl_limbs_shiftDown.l1 k2 yc2 a1 x6_1 (x9_2.set (x55_2 : Int).toNat ((shr .u64 (IntKind.u64.wrap (rd yc2 x55_2)) (ji7)) % 4294967296)) (yc2.length : Int) (wrap64 (x55_2 + 1))) else (none)) else (none)) = some (r1, r2) := by first | (rw [hji7] at H; exact H) | (simp only [hji7] at H ⊢; exact H)
       by_cases c39 : 0 ≤ (ji7)
       rotate_left
       · rw [if_neg c39] at H
         exact absurd H (by simp)
       rw [if_pos c39] at H
       have c39b0 := eq_true c39
       have c39b1 : decide (0 ≤ (ji7)) = true := decide_eq_true c39
       clear c39
       obtain ⟨ji40, hji40⟩ : ∃ j_ : Int, (shr .u64 (IntKind.u64.wrap (rd yc2 x55_2)) (ji7)) = j_ := ⟨_, rfl⟩
       replace H : (if x55_2 < (x9_2.length : Int) then (impl_limbs_shiftDown.l1 k2 yc2 a1 x6_1 (x9_2.set (x55_2 : Int).toNat ((ji40) % 4294967296)) (yc2.length : Int) (wrap64 (x55_2 + 1))) else (none)) = some (r1, r2) := by first | (rw [hji40] at H; exact H) | (simp only [hji40] at H ⊢; exact H)
       have hji40_ : ((IntKind.u64.wrap (rd yc2 x55_2)) / 2 ^ min (ji7).toNat 64) = ji40 := hji40
       have hji40z : (ji7) ≤ 64 → ((IntKind.u64.wrap (rd yc2 x55_2)) / 2 ^ (ji7).toNat) = ji40 := shr_small hji40
       by_cases c41 : x55_2 < (x9_2.length : Int)
       rotate_left
       · rw [if_neg c41] at H
         exact absurd H (by simp)
       rw [if_pos c41] at H
       have c41b0 : decide (x55_2 < (x9_2.length : Int)) = true := decide_eq_true c41
       clear c41
       obtain ⟨y246, hy246⟩ : ∃ y_ : List Int, y_ = (x9_2.set (x55_2 : Int).toNat ((ji40) % 4294967296)) := ⟨_, rfl⟩
       replace H : (impl_limbs_shiftDown.l1 k2 yc2 a1 x6_1 y246 (yc2.length : Int) (wrap64 (x55_2 + 1))) = some (r1, r2) := by first | (rw [hy246]; with_reducible exact H) | (have H2_ := (Option.bind_some _ _).symm.trans H; rw [hy246]; with_reducible exact H2_) | (have H2_ := (Option.bind_some _ _).symm.trans H; with_reducible exact H2_) | with_reducible exact H | (rw [hy246]; exact H) | exact H
       have Ny246 := AM hy246; clear hy246
       have H' := AM H
       clear H
       have p243 : 0 ≤ (x55_2 : Int) := of_decide_eq_true (by first | (with_reducible assumption) | assumption)
       have q243 : x55_2 < (yc2.length : Int) := of_decide_eq_true (by first | (with_reducible assumption) | assumption)
       obtain ⟨ad243, e243, hx243_0⟩ := Kd.at_int HR239.out x55_2 p243 q243
       cases e243
       replace hx243_0 := (HB.out.cell (World.block_lt_of_cell? w _ hx243_0)).trans hx243_0; replace p243 := eq_true p243; replace q243 := eq_true q243
       have p42 : 0 ≤ (x55_2 : Int) := of_decide_eq_true (by first | (with_reducible assumption) | assumption)
       have q42 : (x55_2 : Int) < ((x9_2.length : Int) : Int) := of_decide_eq_true (by first | (with_reducible assumption) | assumption)
       obtain ⟨go42, co42, eo42, gb42, gl42, cl42, HG42⟩ := Kd.R_form HO_9.out (by omega)
       (first | cases eo42 | (injection eo42 with ea_ en_ ec_; (first | subst ea_ | (injection ea_ with ea_; subst ea_)); subst ec_; clear en_))
       have GB42 := AM gb42; have GG42 := AM HG42; clear gb42 gl42 HG42
       obtain ⟨hx42_0, hf42_0⟩ := Kd.R_celln 0 HO_9.out (x55_2 : Int) p42 q42
       replace p42 := eq_true p42; replace q42 := eq_true q42; have HP43 := Kd.R_putg HO_9.out (x55_2 : Int) ((ji40) % 4294967296)
       go_wp2_with (first | ((with_reducible refine gate_store (t := 50) (p := 84) rfl ?_); (try (rw [drewN_self wr]; generalize hq_ : World.drewN wr _ = wr; replace HO_9 := AM (Kd.R_at hq_ HO_9.out); replace HB := AM (below_at hq_ HB.out); clear hq_; (try (obtain ⟨hx42_0, hf42_0⟩ := Kd.R_celln 0 HO_9.out (x55_2 : Int) (of_eq_true p42) (of_eq_true q42))); (try (have HP43 := Kd.R_putg HO_9.out (x55_2 : Int) ((ji40) % 4294967296))))); refine store_event (t := 50) (p := 84) (v := ?vo_w44) (w1 := (wr.setCell ⟨go42, (x55_2 : Int).toNat, none⟩ (.int .u32 ((ji40) % 4294967296)))) ?hg ?ho ?hn ?hr ?_; (case ho => rfl); (case hg => rfl); (case hn => rfl); (case hr => first | (go_simp; done) | (go_simp; rfl)); intro w44 hw; have hg : wr.grownBy w44 (some go42) := (by rw [hw]; exact HP43.2); have hp_ : Kd.R (Kd.int .u32) 50 w44 w.heap.size (fun k_ => (w.heap.size ≤ k_)) (.slice (some ⟨go42, 0, none⟩) x9_2.length co42) y246 := (by rw [hw, Ny246.out]; exact HP43.1); clear HP43; replace HO_9 := AM (hp_); replace HB := AM ((by rw [hw]; exact below_set (HB.out) GB42.out : Below w.heap.size w w44)); clear hg hw hp_))
       repeat (go_quiet (first | ((with_reducible refine gate_store (t := 50) (p := 84) rfl ?_); (try (rw [drewN_self wr]; generalize hq_ : World.drewN wr _ = wr; replace HO_9 := AM (Kd.R_at hq_ HO_9.out); replace HB := AM (below_at hq_ HB.out); clear hq_; (try (obtain ⟨hx42_0, hf42_0⟩ := Kd.R_celln 0 HO_9.out (x55_2 : Int) (of_eq_true p42) (of_eq_true q42))); (try (have HP43 := Kd.R_putg HO_9.out (x55_2 : Int) ((ji40) % 4294967296))))); refine store_event (t := 50) (p := 84) (v := ?vo_w44) (w1 := (wr.setCell ⟨go42, (x55_2 : Int).toNat, none⟩ (.int .u32 ((ji40) % 4294967296)))) ?hg ?ho ?hn ?hr ?_; (case ho => rfl); (case hg => rfl); (case hn => rfl); (case hr => first | (go_simp; done) | (go_simp; rfl)); intro w44 hw; have hg : wr.grownBy w44 (some go42) := (by rw [hw]; exact HP43.2); have hp_ : Kd.R (Kd.int .u32) 50 w44 w.heap.size (fun k_ => (w.heap.size ≤ k_)) (.slice (some ⟨go42, 0, none⟩) x9_2.length co42) y246 := (by rw [hw, Ny246.out]; exact HP43.1); clear HP43; replace HO_9 := AM (hp_); replace HB := AM ((by rw [hw]; exact below_set (HB.out) GB42.out : Below w.heap.size w w44)); clear hg hw hp_)); try go_wp2_with (first | ((with_reducible refine gate_store (t := 50) (p := 84) rfl ?_); (try (rw [drewN_self wr]; generalize hq_ : World.drewN wr _ = wr; replace HO_9 := AM (Kd.R_at hq_ HO_9.out); replace HB := AM (below_at hq_ HB.out); clear hq_; (try (obtain ⟨hx42_0, hf42_0⟩ := Kd.R_celln 0 HO_9.out (x55_2 : Int) (of_eq_true p42) (of_eq_true q42))); (try (have HP43 := Kd.R_putg HO_9.out (x55_2 : Int) ((ji40) % 4294967296))))); refine store_event (t := 50) (p := 84) (v := ?vo_w44) (w1 := (wr.setCell ⟨go42, (x55_2 : Int).toNat, none⟩ (.int .u32 ((ji40) % 4294967296)))) ?hg ?ho ?hn ?hr ?_; (case ho => rfl); (case hg => rfl); (case hn => rfl); (case hr => first | (go_simp; done) | (go_simp; rfl)); intro w44 hw; have hg : wr.grownBy w44 (some go42) := (by rw [hw]; exact HP43.2); have hp_ : Kd.R (Kd.int .u32) 50 w44 w.heap.size (fun k_ => (w.heap.size ≤ k_)) (.slice (some ⟨go42, 0, none⟩) x9_2.length co42) y246 := (by rw [hw, Ny246.out]; exact HP43.1); clear HP43; replace HO_9 := AM (hp_); replace HB := AM ((by rw [hw]; exact below_set (HB.out) GB42.out : Below w.heap.size w w44)); clear hg hw hp_)))
       go_roundg k2
       case measure => have := HK1.out; have := HK2.out; omega
       case rel => exact ⟨(y246), (wrap64 (x55_2 + 1)), (by first | rfl | (simp; done) | (simp [*]; done)), H', ⟨by have := HK1.out; have := HK2.out; omega⟩, ⟨by (with_reducible repeat (first | apply Kd.R_alloc | apply Kd.R_drewN | apply Kd.R_drew)); exact HO_9.out⟩, ⟨pH HB⟩⟩
     rw [if_pos c28] at H
     have c28b0 : decide ((wrap64 (x55_2 + 1)) < (yc2.length : Int)) = true := decide_eq_true c28
     clear c28
     obtain ⟨ji29, hji29⟩ : ∃ j_ : Int, (wrap64 (x55_2 + 1)) = j_ := ⟨_, rfl⟩
     replace H : (if 0 ≤ (ji29) then (if 0 ≤ (Int.tmod a1 32) then (if x55_2 < (x9_2.length : Int) then (impl_limbs_shiftDown.l1 k2 yc2 a1 x6_1 (x9_2.set (x55_2 : Int).toNat ((shr .u64 (Go.bits .or .u64 (IntKind.u64.wrap (rd yc2 x55_2)) (IntKind.u64.wrap ((IntKind.u64.wrap (rd yc2 (ji29))) * 4294967296))) (Int.tmod a1 32)) % 4294967296)) (yc2.length : Int) ji29) else (none)) else (none)) else (none)) = some (r1, r2) := by first | (rw [hji29] at H; exact H) | (simp only [hji29] at H ⊢; exact H)
     (try rw [hji29] at c28b0)
     have hji29w : (IntKind.i64.wrap (x55_2 + 1)) = ji29 := (i64_w _).trans hji29
     by_cases c30 : 0 ≤ (ji29)
     rotate_left
     · rw [if_neg c30] at H
       exact absurd H (by simp)
     rw [if_pos c30] at H
     have c30b0 : decide (0 ≤ (ji29)) = true := decide_eq_true c30
     clear c30
     replace H : (if 0 ≤ (ji7) then (if x55_2 < (x9_2.length : Int) then (impl_limbs_shiftDown.l1 k2 yc2 a1 x6_1 (x9_2.set (x55_2 : Int).toNat ((shr .u64 (Go.bits .or .u64 (IntKind.u64.wrap (rd yc2 x55_2)) (IntKind.u64.wrap ((IntKind.u64.wrap (rd yc2 (ji29))) * 4294967296))) (ji7)) % 4294967296)) (yc2.length : Int) ji29) else (none)) else (none)) = some (r1, r2) := by first | (rw [hji7] at H; exact H) | (simp only [hji7] at H ⊢; exact H)
     by_cases c32 : 0 ≤ (ji7)
     rotate_left
     · rw [if_neg c32] at H
       exact absurd H (by simp)
     rw [if_pos c32] at H
     have c32b0 := eq_true c32
     have c32b1 : decide (0 ≤ (ji7)) = true := decide_eq_true c32
     clear c32
     obtain ⟨ji33, hji33⟩ : ∃ j_ : Int, (shr .u64 (Go.bits .or .u64 (IntKind.u64.wrap (rd yc2 x55_2)) (IntKind.u64.wrap ((IntKind.u64.wrap (rd yc2 (ji29))) * 4294967296))) (ji7)) = j_ := ⟨_, rfl⟩
     replace H : (if x55_2 < (x9_2.length : Int) then (impl_limbs_shiftDown.l1 k2 yc2 a1 x6_1 (x9_2.set (x55_2 : Int).toNat ((ji33) % 4294967296)) (yc2.length : Int) ji29) else (none)) = some (r1, r2) := by first | (rw [hji33] at H; exact H) | (simp only [hji33] at H ⊢; exact H)
     have hji33_ : ((Go.bits .or .u64 (IntKind.u64.wrap (rd yc2 x55_2)) (IntKind.u64.wrap ((IntKind.u64.wrap (rd yc2 (ji29))) * 4294967296))) / 2 ^ min (ji7).toNat 64) = ji33 := hji33
     have hji33z : (ji7) ≤ 64 → ((Go.bits .or .u64 (IntKind.u64.wrap (rd yc2 x55_2)) (IntKind.u64.wrap ((IntKind.u64.wrap (rd yc2 (ji29))) * 4294967296))) / 2 ^ (ji7).toNat) = ji33 := shr_small hji33
     by_cases c34 : x55_2 < (x9_2.length : Int)
     rotate_left
     · rw [if_neg c34] at H
       exact absurd H (by simp)
     rw [if_pos c34] at H
     have c34b0 : decide (x55_2 < (x9_2.length : Int)) = true := decide_eq_true c34
     clear c34
     obtain ⟨y245, hy245⟩ : ∃ y_ : List Int, y_ = (x9_2.set (x55_2 : Int).toNat ((ji33) % 4294967296)) := ⟨_, rfl⟩
     replace H : (impl_limbs_shiftDown.l1 k2 yc2 a1 x6_1 y245 (yc2.length : Int) ji29) = some (r1, r2) := by first | (rw [hy245]; with_reducible exact H) | (have H2_ := (Option.bind_some _ _).symm.trans H; rw [hy245]; with_reducible exact H2_) | (have H2_ := (Option.bind_some _ _).symm.trans H; with_reducible exact H2_) | with_reducible exact H | (rw [hy245]; exact H) | exact H
     have Ny245 := AM hy245; clear hy245
     have H' := AM H
     clear H
     have p243 : 0 ≤ (x55_2 : Int) := of_decide_eq_true (by first | (with_reducible assumption) | assumption)
     have q243 : x55_2 < (yc2.length : Int) := of_decide_eq_true (by first | (with_reducible assumption) | assumption)
     obtain ⟨ad243, e243, hx243_0⟩ := Kd.at_int HR239.out x55_2 p243 q243
     cases e243
     replace hx243_0 := (HB.out.cell (World.block_lt_of_cell? w _ hx243_0)).trans hx243_0; replace p243 := eq_true p243; replace q243 := eq_true q243
     have p244 : 0 ≤ ((ji29) : Int) := of_decide_eq_true (by first | (with_reducible assumption) | assumption)
     have q244 : (ji29) < (yc2.length : Int) := of_decide_eq_true (by first | (with_reducible assumption) | assumption)
     obtain ⟨ad244, e244, hx244_0⟩ := Kd.at_int HR239.out (ji29) p244 q244
     obtain rfl : ad243 = ad244 := (by injection e244)
     replace hx244_0 := (HB.out.cell (World.block_lt_of_cell? w _ hx244_0)).trans hx244_0; replace p244 := eq_true p244; replace q244 := eq_true q244
     have p35 : 0 ≤ (x55_2 : Int) := of_decide_eq_true (by first | (with_reducible assumption) | assumption)
     have q35 : (x55_2 : Int) < ((x9_2.length : Int) : Int) := of_decide_eq_true (by first | (with_reducible assumption) | assumption)
     obtain ⟨go35, co35, eo35, gb35, gl35, cl35, HG35⟩ := Kd.R_form HO_9.out (by omega)
     (first | cases eo35 | (injection eo35 with ea_ en_ ec_; (first | subst ea_ | (injection ea_ with ea_; subst ea_)); subst ec_; clear en_))
     have GB35 := AM gb35; have GG35 := AM HG35; clear gb35 gl35 HG35
     obtain ⟨hx35_0, hf35_0⟩ := Kd.R_celln 0 HO_9.out (x55_2 : Int) p35 q35
     replace p35 := eq_true p35; replace q35 := eq_true q35; have HP36 := Kd.R_putg HO_9.out (x55_2 : Int) ((ji33) % 4294967296)
     go_wp2_with (first | ((with_reducible refine gate_store (t := 50) (p := 84) rfl ?_); (try (rw [drewN_self wr]; generalize hq_ : World.drewN wr _ = wr; replace HO_9 := AM (Kd.R_at hq_ HO_9.out); replace HB := AM (below_at hq_ HB.out); clear hq_; (try (obtain ⟨hx35_0, hf35_0⟩ := Kd.R_celln 0 HO_9.out (x55_2 : Int) (of_eq_true p35) (of_eq_true q35))); (try (have HP36 := Kd.R_putg HO_9.out (x55_2 : Int) ((ji33) % 4294967296))))); refine store_event (t := 50) (p := 84) (v := ?vo_w37) (w1 := (wr.setCell ⟨go35, (x55_2 : Int).toNat, none⟩ (.int .u32 ((ji33) % 4294967296)))) ?hg ?ho ?hn ?hr ?_; (case ho => rfl); (case hg => rfl); (case hn => rfl); (case hr => first | (go_simp; done) | (go_simp; rfl)); intro w37 hw; have hg : wr.grownBy w37 (some go35) := (by rw [hw]; exact HP36.2); have hp_ : Kd.R (Kd.int .u32) 50 w37 w.heap.size (fun k_ => (w.heap.size ≤ k_)) (.slice (some ⟨go35, 0, none⟩) x9_2.length co35) y245 := (by rw [hw, Ny245.out]; exact HP36.1); clear HP36; replace HO_9 := AM (hp_); replace HB := AM ((by rw [hw]; exact below_set (HB.out) GB35.out : Below w.heap.size w w37)); clear hg hw hp_))
     repeat (go_quiet (first | ((with_reducible refine gate_store (t := 50) (p := 84) rfl ?_); (try (rw [drewN_self wr]; generalize hq_ : World.drewN wr _ = wr; replace HO_9 := AM (Kd.R_at hq_ HO_9.out); replace HB := AM (below_at hq_ HB.out); clear hq_; (try (obtain ⟨hx35_0, hf35_0⟩ := Kd.R_celln 0 HO_9.out (x55_2 : Int) (of_eq_true p35) (of_eq_true q35))); (try (have HP36 := Kd.R_putg HO_9.out (x55_2 : Int) ((ji33) % 4294967296))))); refine store_event (t := 50) (p := 84) (v := ?vo_w37) (w1 := (wr.setCell ⟨go35, (x55_2 : Int).toNat, none⟩ (.int .u32 ((ji33) % 4294967296)))) ?hg ?ho ?hn ?hr ?_; (case ho => rfl); (case hg => rfl); (case hn => rfl); (case hr => first | (go_simp; done) | (go_simp; rfl)); intro w37 hw; have hg : wr.grownBy w37 (some go35) := (by rw [hw]; exact HP36.2); have hp_ : Kd.R (Kd.int .u32) 50 w37 w.heap.size (fun k_ => (w.heap.size ≤ k_)) (.slice (some ⟨go35, 0, none⟩) x9_2.length co35) y245 := (by rw [hw, Ny245.out]; exact HP36.1); clear HP36; replace HO_9 := AM (hp_); replace HB := AM ((by rw [hw]; exact below_set (HB.out) GB35.out : Below w.heap.size w w37)); clear hg hw hp_)); try go_wp2_with (first | ((with_reducible refine gate_store (t := 50) (p := 84) rfl ?_); (try (rw [drewN_self wr]; generalize hq_ : World.drewN wr _ = wr; replace HO_9 := AM (Kd.R_at hq_ HO_9.out); replace HB := AM (below_at hq_ HB.out); clear hq_; (try (obtain ⟨hx35_0, hf35_0⟩ := Kd.R_celln 0 HO_9.out (x55_2 : Int) (of_eq_true p35) (of_eq_true q35))); (try (have HP36 := Kd.R_putg HO_9.out (x55_2 : Int) ((ji33) % 4294967296))))); refine store_event (t := 50) (p := 84) (v := ?vo_w37) (w1 := (wr.setCell ⟨go35, (x55_2 : Int).toNat, none⟩ (.int .u32 ((ji33) % 4294967296)))) ?hg ?ho ?hn ?hr ?_; (case ho => rfl); (case hg => rfl); (case hn => rfl); (case hr => first | (go_simp; done) | (go_simp; rfl)); intro w37 hw; have hg : wr.grownBy w37 (some go35) := (by rw [hw]; exact HP36.2); have hp_ : Kd.R (Kd.int .u32) 50 w37 w.heap.size (fun k_ => (w.heap.size ≤ k_)) (.slice (some ⟨go35, 0, none⟩) x9_2.length co35) y245 := (by rw [hw, Ny245.out]; exact HP36.1); clear HP36; replace HO_9 := AM (hp_); replace HB := AM ((by rw [hw]; exact below_set (HB.out) GB35.out : Below w.heap.size w w37)); clear hg hw hp_)))
     go_roundg k2
     case measure => have := HK1.out; have := HK2.out; omega
     case rel => exact ⟨(y245), (ji29), (by first | rfl | (simp; done) | (simp only [← hji29] <;> (first | rfl | simp)) | (simp [*]; done)), H', ⟨by have := HK1.out; have := HK2.out; omega⟩, ⟨by (with_reducible repeat (first | apply Kd.R_alloc | apply Kd.R_drewN | apply Kd.R_drew)); exact HO_9.out⟩, ⟨pH HB⟩⟩
/-! ### impl_dyadic_normal: function 140 -/
def impl_dyadic_normal.f (k : Nat) (a0_0 : Bool) (l0_1 : List Int) (a0_2 : Int) : Option (Bool × List Int × Int) := if (l0_1.length : Int) = 0 then (some (false, ([] : List Int), 0)) else ((impl_limbs_twos.f k l0_1).bind fun t252 => ((impl_limbs_shiftDown.f k l0_1 t252).bind fun bt253 => (some (a0_0, bt253.1, wrap64 (a0_2 + t252)))))
theorem impl_dyadic_normal.mono : ∀ a0 a1 a2 k, LeO (impl_dyadic_normal.f k a0 a1 a2) (impl_dyadic_normal.f (k + 1) a0 a1 a2) := by
 intro a0 a1 a2 k
 unfold impl_dyadic_normal.f
 repeat' with_reducible first | exact impl_limbs_shiftDown.mono _ _ _ | exact impl_limbs_twos.mono _ _ | exact LeO.refl _ | exact LeO.none _ | refine LeO.ite ?_ ?_ | refine LeO.bind ?_ (fun _ => ?_)
set_option maxHeartbeats 8000000 in
set_option maxRecDepth 100000 in
theorem impl_dyadic_normal.calls (k : Nat) (a0_0 : Bool) (A0_1 : Option Addr) (c0_1 : Nat) (l0_1 : List Int) (a0_2 : Int) (r1 : Bool) (r2 : List Int) (r3 : Int) (w : World) (hr0_1 : Kd.C (Kd.int .u32) w A0_1 l0_1.length l0_1) (hc0_1 : l0_1.length ≤ c0_1) (h : impl_dyadic_normal.f k a0_0 l0_1 a0_2 = some (r1, r2, r3)) :
 Calls Try.prog 140 #[.agg #[.bool a0_0, .slice A0_1 l0_1.length c0_1, .int .i64 a0_2]] w fun e w' => ∃ v1_ : Value, e = .returned (.agg #[.bool r1, v1_, .int .i64 r3]) ∧ Kd.V (Kd.int .u32) 50 w' w.heap.size (fun k_ => (w.heap.size ≤ k_)) v1_ r2 ∧ Below w.heap.size w w' := by
 have hu144 := Try.underlying144; have hu101 := Try.underlying101; have HR0_1 := AM hr0_1; have HC0_1 := AM hc0_1; clear hr0_1 hc0_1; have HB := AM (Below.refl w.heap.size w)
 have H : (if (l0_1.length : Int) = 0 then (some (false, ([] : List Int), 0)) else ((impl_limbs_twos.f k l0_1).bind fun t252 => ((impl_limbs_shiftDown.f k l0_1 t252).bind fun bt253 => (some (a0_0, bt253.1, wrap64 (a0_2 + t252)))))) = some (r1, r2, r3) := h
 clear h
 by_cases c2 : (l0_1.length : Int) = 0
 · rw [if_pos c2] at H
   have c2b0 : ((l0_1.length : Int) == 0) = true := beq_iff_eq.mpr c2
   have c2b1 : ((l0_1.length : Int) != 0) = false := bne_eq_false_iff_eq.mpr c2
   clear c2
   simp only [Option.some.injEq, Prod.mk.injEq] at H
   obtain ⟨rfl, rfl, rfl⟩ := H
   go_enter Try.func140, Try.ntmps140
   go_wp2_with (first | ((with_reducible refine gate_dst (N := 1) rfl ?_); refine box_event ?hg (N := 1) ?hd (cs := #[.bool a0_0, .slice A0_1 l0_1.length c0_1, .int .i64 a0_2]) (t := 144) ?hr ?_; (case hd => rfl); (case hg => rfl); (case hr => first | (go_simp; done) | (go_simp; rfl)); intro gb250 hg w3 hbox hb; have BK250 := AM (hbox); have GW250 := gH HB hg; have GE250 := gH HB hg; replace HB := AM (below_step (pH HB) hb); clear hb hbox hg) | ((with_reducible refine gate_dst (N := 2) rfl ?_); refine box_event ?hg (N := 2) ?hd (cs := #[.bool false, .slice none 0 0, .int .i64 0]) (t := 144) ?hr ?_; (case hd => rfl); (case hg => rfl); (case hr => first | (go_simp; done) | (go_simp; rfl)); intro gb251 hg w4 hbox hb; have BK251 := AM (hbox); have GW251 := gH HB hg; have GE251 := gH HB hg; replace HB := AM (below_step (pH HB) hb); have NB250_251 := nL BK250 hg; have NB251_250 := nG BK250 hg; replace BK250 := bB BK250 hb; clear hb hbox hg; have hnb5 := NB250_251.out; have hnc5 := NB251_250.out; have ⟨hcz6_0, hcz6_1, hcz6_2, hfz6_0, hfz6_1, hfz6_2⟩ := z3 BK250; have ⟨hcz7_0, hcz7_1, hcz7_2, hfz7_0, hfz7_1, hfz7_2⟩ := z3 BK251))
   refine bodyPost_ret (results_cell_row rfl _ _ gb251 144 #[.bool false, .slice none 0 0, .int .i64 0] (0, 0) _ rfl (by refine sB ?_; refine blk_put (cs := #[.bool false, .slice none 0 0, .int .i64 0]) ?_ 2 _ rfl; refine sB ?_; refine blk_put (cs := #[.bool false, .slice none 0 0, .int .i64 0]) ?_ 1 _ rfl; refine sB ?_; refine blk_put (cs := #[.bool false, .slice none 0 0, .int .i64 0]) ?_ 0 _ rfl; refine sB ?_; exact BK251.out) Try.underlying144 rfl (by kernel_rfl)) rfl ?_
   exact ⟨.slice none 0 0, by first | rfl | (simp [errW_none, errW_some] <;> rfl) | (simp [*, errW_none, errW_some] <;> rfl), (by first | exact Kd.V_nil _ _ _ _ _ | exact Kd.R_V (Kd.R_nil _ _ _ 0 _)), pH HB⟩
 rw [if_neg c2] at H
 have c2b0 : ((l0_1.length : Int) == 0) = false := beq_eq_false_iff_ne.mpr c2
 have c2b1 : ((l0_1.length : Int) != 0) = true := bne_iff_ne.mpr c2
 have c2b2 : ¬ (l0_1 = []) := fun h_ => c2 (by rw [h_]; rfl)
 replace H := Option.bind_eq_some_iff.mp H
 obtain ⟨t252, A80, H⟩ := H
 (try dsimp only at H)
 have A8 := AM A80; clear A80
 replace H := Option.bind_eq_some_iff.mp H
 obtain ⟨⟨t253, t256⟩, A90, H⟩ := H
 (try dsimp only at H)
 have A9 := AM A90; clear A90
 simp only [Option.some.injEq, Prod.mk.injEq] at H
 obtain ⟨rfl, rfl, rfl⟩ := H
 go_enter Try.func140, Try.ntmps140
 go_wp2_with (first | ((with_reducible refine gate_dst (N := 1) rfl ?_); refine box_event ?hg (N := 1) ?hd (cs := #[.bool a0_0, .slice A0_1 l0_1.length c0_1, .int .i64 a0_2]) (t := 144) ?hr ?_; (case hd => rfl); (case hg => rfl); (case hr => first | (go_simp; done) | (go_simp; rfl)); intro gb250 hg w10 hbox hb; have BK250 := AM (hbox); have GW250 := gH HB hg; have GE250 := gH HB hg; replace HB := AM (below_step (pH HB) hb); clear hb hbox hg) | ((with_reducible refine gate_dst (N := 2) rfl ?_); refine box_event ?hg (N := 2) ?hd (cs := #[.bool false, .slice none 0 0, .int .i64 0]) (t := 144) ?hr ?_; (case hd => rfl); (case hg => rfl); (case hr => first | (go_simp; done) | (go_simp; rfl)); intro gb251 hg w11 hbox hb; have BK251 := AM (hbox); have GW251 := gH HB hg; have GE251 := gH HB hg; replace HB := AM (below_step (pH HB) hb); have NB250_251 := nL BK250 hg; have NB251_250 := nG BK250 hg; replace BK250 := bB BK250 hb; clear hb hbox hg; have hnb12 := NB250_251.out; have hnc12 := NB251_250.out; have ⟨hcz13_0, hcz13_1, hcz13_2, hfz13_0, hfz13_1, hfz13_2⟩ := z3 BK250) | ((with_reducible refine gate_callee (f := 156) rfl ?_); refine goesL_ (some 15) rfl rfl Try.func156 (by kernel_rfl) rfl #[.slice A0_1 l0_1.length c0_1] rfl (by (try simp only [List.map_toArray, List.map_cons, List.map_nil]); first | done | rfl | (simp only [List.length_drop, List.length_take]; rfl)) ?_; (with_reducible refine (impl_limbs_twos.calls k _ _ l0_1 t252 _ ?side1 ?side2 A8.out).mono ?_); (case side1 => exact cB HR0_1 HB); (case side2 => exact HC0_1.out); rintro e w' ⟨rfl, ⟨nd, rfl⟩⟩; refine ⟨_, rfl, ?_⟩; (try (rw [drewN_self w11]; generalize hq_ : World.drewN w11 _ = w11; have n0_ : Aside0 (w11.heap[gb250]? = some (.cells #[.bool a0_0, .slice A0_1 l0_1.length c0_1, .int .i64 a0_2] 144 (0, 0))) := ⟨by rw [← hq_]; exact (pB BK250)⟩; have n1_ : Aside0 (w11.heap[gb251]? = some (.cells #[.bool false, .slice none 0 0, .int .i64 0] 144 (0, 0))) := ⟨by rw [← hq_]; exact (pB BK251)⟩; have n2_ : Aside0 (Below w.heap.size w w11) := ⟨by rw [← hq_]; exact (pH HB)⟩; clear BK250 BK251 HB hq_; have BK250 := n0_; have BK251 := n1_; have HB := n2_; clear n0_ n1_ n2_)); have ⟨hcy1_250_0, hcy1_250_1, hcy1_250_2, hfy1_250_0, hfy1_250_1, hfy1_250_2⟩ := z3 BK250; have ⟨hcy1_251_0, hcy1_251_1, hcy1_251_2, hfy1_251_0, hfy1_251_1, hfy1_251_2⟩ := z3 BK251) | ((with_reducible refine gate_callee (f := 157) rfl ?_); refine goesL_ (some 21) rfl rfl Try.func157 (by kernel_rfl) rfl #[.slice A0_1 l0_1.length c0_1, .int .i64 t252] rfl (by (try simp only [List.map_toArray, List.map_cons, List.map_nil]); first | done | rfl | (simp only [List.length_drop, List.length_take]; rfl)) ?_; (with_reducible refine (impl_limbs_shiftDown.calls k _ _ l0_1 t252 t253 t256 _ ?side1 ?side2 A9.out).mono ?_); (case side1 => exact cB HR0_1 HB); (case side2 => exact HC0_1.out); rintro e w14 ⟨v254, rfl, ho0, hb⟩; refine ⟨_, rfl, ?_⟩; have HO255 := AM (Kd.V_lower (Kd.V_mono (ok' := fun k_ => (w.heap.size ≤ k_) ∧ k_ ≠ gb250 ∧ k_ ≠ gb251) ho0 (fun k_ hk_ => ⟨(Nat.le_trans (below_size (pH HB)) hk_), (Kd.freshB (g := gb250) (o := .cells #[.bool a0_0, .slice A0_1 l0_1.length c0_1, .int .i64 a0_2] 144 (0, 0)) (pB BK250) k_ hk_), (Kd.freshB (g := gb251) (o := .cells #[.bool false, .slice none 0 0, .int .i64 0] 144 (0, 0)) (pB BK251) k_ hk_)⟩)) (below_size (pH HB))); replace BK250 := bB BK250 hb; replace BK251 := bB BK251 hb; replace HB := AM (below_step (pH HB) hb); (try clear hb); (try clear hb2); (try clear hk); (try clear hi); (try clear ho0); have ⟨hcz15_0, hcz15_1, hcz15_2, hfz15_0, hfz15_1, hfz15_2⟩ := z3 BK250; obtain ⟨Ao16, co16, eo16⟩ := Kd.V_slice HO255.out; subst eo16; have ⟨hcz17_0, hcz17_1, hcz17_2, hfz17_0, hfz17_1, hfz17_2⟩ := z3 BK251))
 refine bodyPost_ret (results_cell_row rfl _ _ gb251 144 #[.bool a0_0, .slice Ao16 t253.length co16, .int .i64 (wrap64 (a0_2 + t252))] (0, 0) _ rfl (by refine sB ?_; refine blk_put (cs := #[.bool a0_0, .slice Ao16 t253.length co16, .int .i64 0]) ?_ 2 _ rfl; refine sB ?_; refine blk_put (cs := #[.bool a0_0, .slice none 0 0, .int .i64 0]) ?_ 1 _ rfl; refine sB ?_; refine blk_put (cs := #[.bool false, .slice none 0 0, .int .i64 0]) ?_ 0 _ rfl; refine sB ?_; exact BK251.out) Try.underlying144 rfl (by kernel_rfl)) rfl ?_
 exact ⟨_, by first | rfl | (simp [errW_none, errW_some] <;> rfl) | (simp [*, errW_none, errW_some] <;> rfl), by (with_reducible repeat (first | apply Kd.V_alloc | apply Kd.V_drewN | apply Kd.V_drew)); exact Kd.V_mono (Kd.V_far (p := ⟨gb251, 2, none⟩) (Kd.V_far (p := ⟨gb251, 1, none⟩) (Kd.V_far (p := ⟨gb251, 0, none⟩) (Kd.V_mono HO255.out (fun k_ hk => (⟨hk, hk.2.2⟩ : _ ∧ k_ ≠ gb251))) (fun _ hk => hk.2) (.bool a0_0)) (fun _ hk => hk.2) (.slice Ao16 t253.length co16)) (fun _ hk => hk.2) (.int .i64 (wrap64 (a0_2 + t252)))) (fun _ hk => hk.1.1), pH HB⟩

/-! ### impl_dyadic_out: function 107 -/
def impl_dyadic_out.f (k : Nat) (a0_0 : Bool) (l0_1 : List Int) (a0_2 : Int) : Option (Bool × List Int × Int × Int) := (impl_dyadic_normal.f k a0_0 l0_1 a0_2).bind fun bt259 => ((impl_number_big.f bt259.1 bt259.2.1).bind fun bt264 => (if bt264.2.2 = 0 then (if bt259.2.2 < (-20000) then (some (false, ([] : List Int), 0, 2)) else (if bt259.2.2 > 20000 then (some (false, ([] : List Int), 0, 2)) else (some (bt264.1, bt264.2.1, bt259.2.2, 0)))) else (some (false, ([] : List Int), 0, 2))))
theorem impl_dyadic_out.mono : ∀ a0 a1 a2 k, LeO (impl_dyadic_out.f k a0 a1 a2) (impl_dyadic_out.f (k + 1) a0 a1 a2) := by
 intro a0 a1 a2 k
 unfold impl_dyadic_out.f
 repeat' with_reducible first | exact impl_dyadic_normal.mono _ _ _ _ | exact LeO.refl _ | exact LeO.none _ | refine LeO.ite ?_ ?_ | refine LeO.bind ?_ (fun _ => ?_)
set_option maxHeartbeats 8000000 in
set_option maxRecDepth 100000 in
theorem impl_dyadic_out.calls (k : Nat) (a0_0 : Bool) (A0_1 : Option Addr) (c0_1 : Nat) (l0_1 : List Int) (a0_2 : Int) (r1 : Bool) (r2 : List Int) (r3 : Int) (r4 : Int) (w : World) (hr0_1 : Kd.C (Kd.int .u32) w A0_1 l0_1.length l0_1) (hc0_1 : l0_1.length ≤ c0_1) (h : impl_dyadic_out.f k a0_0 l0_1 a0_2 = some (r1, r2, r3, r4)) :
 Calls Try.prog 107 #[.agg #[.bool a0_0, .slice A0_1 l0_1.length c0_1, .int .i64 a0_2]] w fun e w' => ∃ v1_ : Value, e = .returned (.tuple #[.agg #[.bool r1, v1_, .int .i64 r3], .int .i64 r4]) ∧ Kd.R (Kd.int .u32) 50 w' w.heap.size (fun _ => True) v1_ r2 ∧ Below w.heap.size w w' := by
 have hu144 := Try.underlying144; have hu77 := Try.underlying77; have hu101 := Try.underlying101; have hu28 := Try.underlying28; have HR0_1 := AM hr0_1; have HC0_1 := AM hc0_1; clear hr0_1 hc0_1; have HB := AM (Below.refl w.heap.size w)
 have H : ((impl_dyadic_normal.f k a0_0 l0_1 a0_2).bind fun bt259 => ((impl_number_big.f bt259.1 bt259.2.1).bind fun bt264 => (if bt264.2.2 = 0 then (if bt259.2.2 < (-20000) then (some (false, ([] : List Int), 0, 2)) else (if bt259.2.2 > 20000 then (some (false, ([] : List Int), 0, 2)) else (some (bt264.1, bt264.2.1, bt259.2.2, 0)))) else (some (false, ([] : List Int), 0, 2))))) = some (r1, r2, r3, r4) := h
 clear h
 replace H := Option.bind_eq_some_iff.mp H
 obtain ⟨⟨t259, t260, t263⟩, A20, H⟩ := H
 (try dsimp only at H)
 have A2 := AM A20; clear A20
 replace H := Option.bind_eq_some_iff.mp H
 obtain ⟨⟨t264, t265, t268⟩, A30, H⟩ := H
 (try dsimp only at H)
 have A3 := AM A30; clear A30
 by_cases c4 : t268 = 0
 rotate_left
 · rw [if_neg c4] at H
   have c4b0 : (t268 == 0) = false := beq_eq_false_iff_ne.mpr c4
   have c4b1 : (t268 != 0) = true := bne_iff_ne.mpr c4
   simp only [Option.some.injEq, Prod.mk.injEq] at H
   obtain ⟨rfl, rfl, rfl, rfl⟩ := H
   go_enter Try.func107, Try.ntmps107
   go_wp2_with (first | ((with_reducible refine gate_dst (N := 1) rfl ?_); refine box_event ?hg (N := 1) ?hd (cs := #[.bool a0_0, .slice A0_1 l0_1.length c0_1, .int .i64 a0_2]) (t := 144) ?hr ?_; (case hd => rfl); (case hg => rfl); (case hr => first | (go_simp; done) | (go_simp; rfl)); intro gb257 hg w52 hbox hb; have BK257 := AM (hbox); have GW257 := gH HB hg; have GE257 := gH HB hg; replace HB := AM (below_step (pH HB) hb); clear hb hbox hg) | ((with_reducible refine gate_dst (N := 2) rfl ?_); refine box_event ?hg (N := 2) ?hd (cs := #[.bool false, .slice none 0 0, .int .i64 0]) (t := 77) ?hr ?_; (case hd => rfl); (case hg => rfl); (case hr => first | (go_simp; done) | (go_simp; rfl)); intro gb258 hg w53 hbox hb; have BK258 := AM (hbox); have GW258 := gH HB hg; have GE258 := gH HB hg; replace HB := AM (below_step (pH HB) hb); have NB257_258 := nL BK257 hg; have NB258_257 := nG BK257 hg; replace BK257 := bB BK257 hb; clear hb hbox hg; have hnb54 := NB257_258.out; have hnc54 := NB258_257.out; have ⟨hcz55_0, hcz55_1, hcz55_2, hfz55_0, hfz55_1, hfz55_2⟩ := z3 BK257) | ((with_reducible refine gate_callee (f := 140) rfl ?_); refine goesL_ (some 7) rfl rfl Try.func140 (by kernel_rfl) rfl #[.agg #[.bool a0_0, .slice A0_1 l0_1.length c0_1, .int .i64 a0_2]] rfl (by (try simp only [List.map_toArray, List.map_cons, List.map_nil]); first | done | rfl | (simp only [List.length_drop, List.length_take]; rfl)) ?_; (with_reducible refine (impl_dyadic_normal.calls k a0_0 _ _ l0_1 a0_2 t259 t260 t263 _ ?side1 ?side2 A2.out).mono ?_); (case side1 => exact cB HR0_1 HB); (case side2 => exact HC0_1.out); rintro e w56 ⟨v261, rfl, ho0, hb⟩; refine ⟨_, rfl, ?_⟩; have HO262 := AM (Kd.V_lower (Kd.V_mono (ok' := fun k_ => k_ ≠ gb257 ∧ k_ ≠ gb258) ho0 (fun k_ hk_ => ⟨(Kd.freshB (g := gb257) (o := .cells #[.bool a0_0, .slice A0_1 l0_1.length c0_1, .int .i64 a0_2] 144 (0, 0)) (pB BK257) k_ hk_), (Kd.freshB (g := gb258) (o := .cells #[.bool false, .slice none 0 0, .int .i64 0] 77 (0, 0)) (pB BK258) k_ hk_)⟩)) (below_size (pH HB))); replace BK257 := bB BK257 hb; replace BK258 := bB BK258 hb; replace HB := AM (below_step (pH HB) hb); (try clear hb); (try clear hb2); (try clear hk); (try clear hi); (try clear ho0); have ⟨hcz57_0, hcz57_1, hcz57_2, hfz57_0, hfz57_1, hfz57_2⟩ := z3 BK257; obtain ⟨Ao58, co58, eo58⟩ := Kd.V_slice HO262.out; subst eo58) | ((with_reducible refine gate_callee (f := 117) rfl ?_); refine goesL_ (some 11) rfl rfl Try.func117 (by kernel_rfl) rfl #[.agg #[.bool t259, .slice Ao58 t260.length co58]] rfl (by (try simp only [List.map_toArray, List.map_cons, List.map_nil]); first | done | rfl | (simp only [List.length_drop, List.length_take]; rfl)) ?_; (with_reducible refine (impl_number_big.calls t259 _ _ t260 t264 t265 t268 _ ?side1 ?side2 A3.out).mono ?_); (case side1 => refine (Kd.V_reads' (e := 50) (base := w.heap.size) (ok := fun k_ => (k_ ≠ gb257 ∧ k_ ≠ gb258)) (n := t260.length) (c := co58) ?_).2.2; exact (by (with_reducible repeat (first | apply Kd.V_alloc | apply Kd.V_drewN | apply Kd.V_drew)); exact (Kd.V_mono (Kd.V_far (p := ⟨gb257, 2, none⟩) (Kd.V_far (p := ⟨gb257, 1, none⟩) (Kd.V_far (p := ⟨gb257, 0, none⟩) (Kd.V_mono HO262.out (fun k_ hk => (⟨hk, hk.1⟩ : _ ∧ k_ ≠ gb257))) (fun _ hk => hk.2) (.bool t259)) (fun _ hk => hk.2) (.slice Ao58 t260.length co58)) (fun _ hk => hk.2) (.int .i64 t263)) (fun _ h_ => h_.1)))); (case side2 => exact (Kd.V_reads' HO262.out).2.1); rintro e w59 ⟨v266, rfl, ho0, hb⟩; refine ⟨_, rfl, ?_⟩; replace HO262 := AM (Kd.V_elder' (by (with_reducible repeat (first | apply Kd.V_alloc | apply Kd.V_drewN | apply Kd.V_drew)); exact (Kd.V_mono (Kd.V_far (p := ⟨gb257, 2, none⟩) (Kd.V_far (p := ⟨gb257, 1, none⟩) (Kd.V_far (p := ⟨gb257, 0, none⟩) (Kd.V_mono HO262.out (fun k_ hk => (⟨hk, hk.1⟩ : _ ∧ k_ ≠ gb257))) (fun _ hk => hk.2) (.bool t259)) (fun _ hk => hk.2) (.slice Ao58 t260.length co58)) (fun _ hk => hk.2) (.int .i64 t263)) (fun _ h_ => h_.1))) (Kd.R_base ho0) hb); have HO267 := AM (Kd.R_lower ho0 (below_size (pH HB))); replace BK257 := AM (blk_below (g := gb257) (o := .cells #[.bool t259, .slice Ao58 t260.length co58, .int .i64 t263] 144 (0, 0)) (by refine sB ?_; refine blk_put (cs := #[.bool t259, .slice Ao58 t260.length co58, .int .i64 a0_2]) ?_ 2 _ rfl; refine sB ?_; refine blk_put (cs := #[.bool t259, .slice A0_1 l0_1.length c0_1, .int .i64 a0_2]) ?_ 1 _ rfl; refine sB ?_; refine blk_put (cs := #[.bool a0_0, .slice A0_1 l0_1.length c0_1, .int .i64 a0_2]) ?_ 0 _ rfl; refine sB ?_; exact BK257.out) hb); replace BK258 := AM (blk_below (g := gb258) (o := .cells #[.bool false, .slice none 0 0, .int .i64 0] 77 (0, 0)) (by refine sB ?_; refine blk_far ?_ NB258_257.out _; refine sB ?_; refine blk_far ?_ NB258_257.out _; refine sB ?_; refine blk_far ?_ NB258_257.out _; refine sB ?_; exact BK258.out) hb); replace HB := AM (below_step (pH HB) hb); (try clear hb); (try clear hb2); (try clear hk); (try clear hi); (try clear ho0)) | ((with_reducible refine gate_dst (N := 4) rfl ?_); refine box_event ?hg (N := 4) ?hd (cs := #[.bool false, .slice none 0 0]) (t := 28) ?hr ?_; (case hd => rfl); (case hg => rfl); (case hr => first | (go_simp; done) | (go_simp; rfl)); intro gb269 hg w60 hbox hb; replace HO262 := AM (Kd.V_below (Kd.V_elderB (by (with_reducible repeat (first | apply Kd.V_alloc | apply Kd.V_drewN | apply Kd.V_drew)); exact HO262.out) gb269 (Nat.le_of_eq hg.symm)) hb); replace HO267 := AM (Kd.R_below (pR HO267) hb); have BK269 := AM (hbox); have GW269 := gH HB hg; have GE269 := gH HB hg; replace HB := AM (below_step (pH HB) hb); have NB257_269 := nL BK257 hg; have NB269_257 := nG BK257 hg; replace BK257 := bB BK257 hb; have NB258_269 := nL BK258 hg; have NB269_258 := nG BK258 hg; replace BK258 := bB BK258 hb; clear hb hbox hg; have hnb61 := NB269_257.out; have hnc61 := NB257_269.out; have hnb62 := NB269_258.out; have hnc62 := NB258_269.out; have ⟨hcz63_0, hcz63_1, hfz63_0, hfz63_1⟩ := z2 BK269; obtain ⟨Ao64, co64, eo64⟩ := Kd.R_slice HO267.out; subst eo64; have ⟨hcz65_0, hcz65_1, hcz65_2, hfz65_0, hfz65_1, hfz65_2⟩ := z3 BK258))
   refine bodyPost_ret (results_ct rfl _ _ gb258 77 #[.bool false, .slice none 0 0, .int .i64 0] (0, 0) _ rfl (by refine sB ?_; refine blk_put (cs := #[.bool false, .slice none 0 0, .int .i64 0]) ?_ 2 _ rfl; refine sB ?_; refine blk_put (cs := #[.bool false, .slice none 0 0, .int .i64 0]) ?_ 1 _ rfl; refine sB ?_; refine blk_put (cs := #[.bool false, .slice none 0 0, .int .i64 0]) ?_ 0 _ rfl; refine sB ?_; refine blk_far ?_ NB258_269.out _; refine sB ?_; refine blk_far ?_ NB258_269.out _; refine sB ?_; exact BK258.out) Try.underlying77 rfl (by kernel_rfl)) rfl ?_
   exact ⟨_, by first | rfl | (simp [errW_none, errW_some] <;> rfl) | (simp [*, errW_none, errW_some] <;> rfl), by first | exact Kd.R_nil _ _ _ _ _ | exact Kd.N_nil _ _ _ _ _ | exact Kd.V_nil _ _ _ _ _ | exact Kd.Q_nil _ _ _ _ _ | exact Kd.S_nil _ _ _ _ _, pH HB⟩

 rw [if_pos c4] at H
 have c4b0 : (t268 == 0) = true := beq_iff_eq.mpr c4
 have c4b1 : (t268 != 0) = false := bne_eq_false_iff_eq.mpr c4
 clear c4
 by_cases c5 : t263 < (-20000)
 · rw [if_pos c5] at H
   have c5b0 : decide (t263 < (-20000)) = true := decide_eq_true c5
   clear c5
   simp only [Option.some.injEq, Prod.mk.injEq] at H
   obtain ⟨rfl, rfl, rfl, rfl⟩ := H
   go_enter Try.func107, Try.ntmps107
   go_wp2_with (first | ((with_reducible refine gate_dst (N := 1) rfl ?_); refine box_event ?hg (N := 1) ?hd (cs := #[.bool a0_0, .slice A0_1 l0_1.length c0_1, .int .i64 a0_2]) (t := 144) ?hr ?_; (case hd => rfl); (case hg => rfl); (case hr => first | (go_simp; done) | (go_simp; rfl)); intro gb257 hg w6 hbox hb; have BK257 := AM (hbox); have GW257 := gH HB hg; have GE257 := gH HB hg; replace HB := AM (below_step (pH HB) hb); clear hb hbox hg) | ((with_reducible refine gate_dst (N := 2) rfl ?_); refine box_event ?hg (N := 2) ?hd (cs := #[.bool false, .slice none 0 0, .int .i64 0]) (t := 77) ?hr ?_; (case hd => rfl); (case hg => rfl); (case hr => first | (go_simp; done) | (go_simp; rfl)); intro gb258 hg w7 hbox hb; have BK258 := AM (hbox); have GW258 := gH HB hg; have GE258 := gH HB hg; replace HB := AM (below_step (pH HB) hb); have NB257_258 := nL BK257 hg; have NB258_257 := nG BK257 hg; replace BK257 := bB BK257 hb; clear hb hbox hg; have hnb8 := NB257_258.out; have hnc8 := NB258_257.out; have ⟨hcz9_0, hcz9_1, hcz9_2, hfz9_0, hfz9_1, hfz9_2⟩ := z3 BK257) | ((with_reducible refine gate_callee (f := 140) rfl ?_); refine goesL_ (some 7) rfl rfl Try.func140 (by kernel_rfl) rfl #[.agg #[.bool a0_0, .slice A0_1 l0_1.length c0_1, .int .i64 a0_2]] rfl (by (try simp only [List.map_toArray, List.map_cons, List.map_nil]); first | done | rfl | (simp only [List.length_drop, List.length_take]; rfl)) ?_; (with_reducible refine (impl_dyadic_normal.calls k a0_0 _ _ l0_1 a0_2 t259 t260 t263 _ ?side1 ?side2 A2.out).mono ?_); (case side1 => exact cB HR0_1 HB); (case side2 => exact HC0_1.out); rintro e w10 ⟨v261, rfl, ho0, hb⟩; refine ⟨_, rfl, ?_⟩; have HO262 := AM (Kd.V_lower (Kd.V_mono (ok' := fun k_ => k_ ≠ gb257 ∧ k_ ≠ gb258) ho0 (fun k_ hk_ => ⟨(Kd.freshB (g := gb257) (o := .cells #[.bool a0_0, .slice A0_1 l0_1.length c0_1, .int .i64 a0_2] 144 (0, 0)) (pB BK257) k_ hk_), (Kd.freshB (g := gb258) (o := .cells #[.bool false, .slice none 0 0, .int .i64 0] 77 (0, 0)) (pB BK258) k_ hk_)⟩)) (below_size (pH HB))); replace BK257 := bB BK257 hb; replace BK258 := bB BK258 hb; replace HB := AM (below_step (pH HB) hb); (try clear hb); (try clear hb2); (try clear hk); (try clear hi); (try clear ho0); have ⟨hcz11_0, hcz11_1, hcz11_2, hfz11_0, hfz11_1, hfz11_2⟩ := z3 BK257; obtain ⟨Ao12, co12, eo12⟩ := Kd.V_slice HO262.out; subst eo12) | ((with_reducible refine gate_callee (f := 117) rfl ?_); refine goesL_ (some 11) rfl rfl Try.func117 (by kernel_rfl) rfl #[.agg #[.bool t259, .slice Ao12 t260.length co12]] rfl (by (try simp only [List.map_toArray, List.map_cons, List.map_nil]); first | done | rfl | (simp only [List.length_drop, List.length_take]; rfl)) ?_; (with_reducible refine (impl_number_big.calls t259 _ _ t260 t264 t265 t268 _ ?side1 ?side2 A3.out).mono ?_); (case side1 => refine (Kd.V_reads' (e := 50) (base := w.heap.size) (ok := fun k_ => (k_ ≠ gb257 ∧ k_ ≠ gb258)) (n := t260.length) (c := co12) ?_).2.2; exact (by (with_reducible repeat (first | apply Kd.V_alloc | apply Kd.V_drewN | apply Kd.V_drew)); exact (Kd.V_mono (Kd.V_far (p := ⟨gb257, 2, none⟩) (Kd.V_far (p := ⟨gb257, 1, none⟩) (Kd.V_far (p := ⟨gb257, 0, none⟩) (Kd.V_mono HO262.out (fun k_ hk => (⟨hk, hk.1⟩ : _ ∧ k_ ≠ gb257))) (fun _ hk => hk.2) (.bool t259)) (fun _ hk => hk.2) (.slice Ao12 t260.length co12)) (fun _ hk => hk.2) (.int .i64 t263)) (fun _ h_ => h_.1)))); (case side2 => exact (Kd.V_reads' HO262.out).2.1); rintro e w13 ⟨v266, rfl, ho0, hb⟩; refine ⟨_, rfl, ?_⟩; replace HO262 := AM (Kd.V_elder' (by (with_reducible repeat (first | apply Kd.V_alloc | apply Kd.V_drewN | apply Kd.V_drew)); exact (Kd.V_mono (Kd.V_far (p := ⟨gb257, 2, none⟩) (Kd.V_far (p := ⟨gb257, 1, none⟩) (Kd.V_far (p := ⟨gb257, 0, none⟩) (Kd.V_mono HO262.out (fun k_ hk => (⟨hk, hk.1⟩ : _ ∧ k_ ≠ gb257))) (fun _ hk => hk.2) (.bool t259)) (fun _ hk => hk.2) (.slice Ao12 t260.length co12)) (fun _ hk => hk.2) (.int .i64 t263)) (fun _ h_ => h_.1))) (Kd.R_base ho0) hb); have HO267 := AM (Kd.R_lower ho0 (below_size (pH HB))); replace BK257 := AM (blk_below (g := gb257) (o := .cells #[.bool t259, .slice Ao12 t260.length co12, .int .i64 t263] 144 (0, 0)) (by refine sB ?_; refine blk_put (cs := #[.bool t259, .slice Ao12 t260.length co12, .int .i64 a0_2]) ?_ 2 _ rfl; refine sB ?_; refine blk_put (cs := #[.bool t259, .slice A0_1 l0_1.length c0_1, .int .i64 a0_2]) ?_ 1 _ rfl; refine sB ?_; refine blk_put (cs := #[.bool a0_0, .slice A0_1 l0_1.length c0_1, .int .i64 a0_2]) ?_ 0 _ rfl; refine sB ?_; exact BK257.out) hb); replace BK258 := AM (blk_below (g := gb258) (o := .cells #[.bool false, .slice none 0 0, .int .i64 0] 77 (0, 0)) (by refine sB ?_; refine blk_far ?_ NB258_257.out _; refine sB ?_; refine blk_far ?_ NB258_257.out _; refine sB ?_; refine blk_far ?_ NB258_257.out _; refine sB ?_; exact BK258.out) hb); replace HB := AM (below_step (pH HB) hb); (try clear hb); (try clear hb2); (try clear hk); (try clear hi); (try clear ho0)) | ((with_reducible refine gate_dst (N := 4) rfl ?_); refine box_event ?hg (N := 4) ?hd (cs := #[.bool false, .slice none 0 0]) (t := 28) ?hr ?_; (case hd => rfl); (case hg => rfl); (case hr => first | (go_simp; done) | (go_simp; rfl)); intro gb269 hg w14 hbox hb; replace HO262 := AM (Kd.V_below (Kd.V_elderB (by (with_reducible repeat (first | apply Kd.V_alloc | apply Kd.V_drewN | apply Kd.V_drew)); exact HO262.out) gb269 (Nat.le_of_eq hg.symm)) hb); replace HO267 := AM (Kd.R_below (pR HO267) hb); have BK269 := AM (hbox); have GW269 := gH HB hg; have GE269 := gH HB hg; replace HB := AM (below_step (pH HB) hb); have NB257_269 := nL BK257 hg; have NB269_257 := nG BK257 hg; replace BK257 := bB BK257 hb; have NB258_269 := nL BK258 hg; have NB269_258 := nG BK258 hg; replace BK258 := bB BK258 hb; clear hb hbox hg; have hnb15 := NB269_257.out; have hnc15 := NB257_269.out; have hnb16 := NB269_258.out; have hnc16 := NB258_269.out; have ⟨hcz17_0, hcz17_1, hfz17_0, hfz17_1⟩ := z2 BK269; obtain ⟨Ao18, co18, eo18⟩ := Kd.R_slice HO267.out; subst eo18; have ⟨hcz19_0, hcz19_1, hcz19_2, hfz19_0, hfz19_1, hfz19_2⟩ := z3 BK257; have ⟨hcz20_0, hcz20_1, hcz20_2, hfz20_0, hfz20_1, hfz20_2⟩ := z3 BK258))
   refine bodyPost_ret (results_ct rfl _ _ gb258 77 #[.bool false, .slice none 0 0, .int .i64 0] (0, 0) _ rfl (by refine sB ?_; refine blk_put (cs := #[.bool false, .slice none 0 0, .int .i64 0]) ?_ 2 _ rfl; refine sB ?_; refine blk_put (cs := #[.bool false, .slice none 0 0, .int .i64 0]) ?_ 1 _ rfl; refine sB ?_; refine blk_put (cs := #[.bool false, .slice none 0 0, .int .i64 0]) ?_ 0 _ rfl; refine sB ?_; refine blk_far ?_ NB258_269.out _; refine sB ?_; refine blk_far ?_ NB258_269.out _; refine sB ?_; exact BK258.out) Try.underlying77 rfl (by kernel_rfl)) rfl ?_
   exact ⟨_, by first | rfl | (simp [errW_none, errW_some] <;> rfl) | (simp [*, errW_none, errW_some] <;> rfl), by first | exact Kd.R_nil _ _ _ _ _ | exact Kd.N_nil _ _ _ _ _ | exact Kd.V_nil _ _ _ _ _ | exact Kd.Q_nil _ _ _ _ _ | exact Kd.S_nil _ _ _ _ _, pH HB⟩
 rw [if_neg c5] at H
 have c5b0 : decide (t263 < (-20000)) = false := decide_eq_false c5
 clear c5
 by_cases c21 : t263 > 20000
 · rw [if_pos c21] at H
   have c21b0 : decide (20000 < t263) = true := decide_eq_true c21
   clear c21
   simp only [Option.some.injEq, Prod.mk.injEq] at H
   obtain ⟨rfl, rfl, rfl, rfl⟩ := H
   go_enter Try.func107, Try.ntmps107
   go_wp2_with (first | ((with_reducible refine gate_dst (N := 1) rfl ?_); refine box_event ?hg (N := 1) ?hd (cs := #[.bool a0_0, .slice A0_1 l0_1.length c0_1, .int .i64 a0_2]) (t := 144) ?hr ?_; (case hd => rfl); (case hg => rfl); (case hr => first | (go_simp; done) | (go_simp; rfl)); intro gb257 hg w22 hbox hb; have BK257 := AM (hbox); have GW257 := gH HB hg; have GE257 := gH HB hg; replace HB := AM (below_step (pH HB) hb); clear hb hbox hg) | ((with_reducible refine gate_dst (N := 2) rfl ?_); refine box_event ?hg (N := 2) ?hd (cs := #[.bool false, .slice none 0 0, .int .i64 0]) (t := 77) ?hr ?_; (case hd => rfl); (case hg => rfl); (case hr => first | (go_simp; done) | (go_simp; rfl)); intro gb258 hg w23 hbox hb; have BK258 := AM (hbox); have GW258 := gH HB hg; have GE258 := gH HB hg; replace HB := AM (below_step (pH HB) hb); have NB257_258 := nL BK257 hg; have NB258_257 := nG BK257 hg; replace BK257 := bB BK257 hb; clear hb hbox hg; have hnb24 := NB257_258.out; have hnc24 := NB258_257.out; have ⟨hcz25_0, hcz25_1, hcz25_2, hfz25_0, hfz25_1, hfz25_2⟩ := z3 BK257) | ((with_reducible refine gate_callee (f := 140) rfl ?_); refine goesL_ (some 7) rfl rfl Try.func140 (by kernel_rfl) rfl #[.agg #[.bool a0_0, .slice A0_1 l0_1.length c0_1, .int .i64 a0_2]] rfl (by (try simp only [List.map_toArray, List.map_cons, List.map_nil]); first | done | rfl | (simp only [List.length_drop, List.length_take]; rfl)) ?_; (with_reducible refine (impl_dyadic_normal.calls k a0_0 _ _ l0_1 a0_2 t259 t260 t263 _ ?side1 ?side2 A2.out).mono ?_); (case side1 => exact cB HR0_1 HB); (case side2 => exact HC0_1.out); rintro e w26 ⟨v261, rfl, ho0, hb⟩; refine ⟨_, rfl, ?_⟩; have HO262 := AM (Kd.V_lower (Kd.V_mono (ok' := fun k_ => k_ ≠ gb257 ∧ k_ ≠ gb258) ho0 (fun k_ hk_ => ⟨(Kd.freshB (g := gb257) (o := .cells #[.bool a0_0, .slice A0_1 l0_1.length c0_1, .int .i64 a0_2] 144 (0, 0)) (pB BK257) k_ hk_), (Kd.freshB (g := gb258) (o := .cells #[.bool false, .slice none 0 0, .int .i64 0] 77 (0, 0)) (pB BK258) k_ hk_)⟩)) (below_size (pH HB))); replace BK257 := bB BK257 hb; replace BK258 := bB BK258 hb; replace HB := AM (below_step (pH HB) hb); (try clear hb); (try clear hb2); (try clear hk); (try clear hi); (try clear ho0); have ⟨hcz27_0, hcz27_1, hcz27_2, hfz27_0, hfz27_1, hfz27_2⟩ := z3 BK257; obtain ⟨Ao28, co28, eo28⟩ := Kd.V_slice HO262.out; subst eo28) | ((with_reducible refine gate_callee (f := 117) rfl ?_); refine goesL_ (some 11) rfl rfl Try.func117 (by kernel_rfl) rfl #[.agg #[.bool t259, .slice Ao28 t260.length co28]] rfl (by (try simp only [List.map_toArray, List.map_cons, List.map_nil]); first | done | rfl | (simp only [List.length_drop, List.length_take]; rfl)) ?_; (with_reducible refine (impl_number_big.calls t259 _ _ t260 t264 t265 t268 _ ?side1 ?side2 A3.out).mono ?_); (case side1 => refine (Kd.V_reads' (e := 50) (base := w.heap.size) (ok := fun k_ => (k_ ≠ gb257 ∧ k_ ≠ gb258)) (n := t260.length) (c := co28) ?_).2.2; exact (by (with_reducible repeat (first | apply Kd.V_alloc | apply Kd.V_drewN | apply Kd.V_drew)); exact (Kd.V_mono (Kd.V_far (p := ⟨gb257, 2, none⟩) (Kd.V_far (p := ⟨gb257, 1, none⟩) (Kd.V_far (p := ⟨gb257, 0, none⟩) (Kd.V_mono HO262.out (fun k_ hk => (⟨hk, hk.1⟩ : _ ∧ k_ ≠ gb257))) (fun _ hk => hk.2) (.bool t259)) (fun _ hk => hk.2) (.slice Ao28 t260.length co28)) (fun _ hk => hk.2) (.int .i64 t263)) (fun _ h_ => h_.1)))); (case side2 => exact (Kd.V_reads' HO262.out).2.1); rintro e w29 ⟨v266, rfl, ho0, hb⟩; refine ⟨_, rfl, ?_⟩; replace HO262 := AM (Kd.V_elder' (by (with_reducible repeat (first | apply Kd.V_alloc | apply Kd.V_drewN | apply Kd.V_drew)); exact (Kd.V_mono (Kd.V_far (p := ⟨gb257, 2, none⟩) (Kd.V_far (p := ⟨gb257, 1, none⟩) (Kd.V_far (p := ⟨gb257, 0, none⟩) (Kd.V_mono HO262.out (fun k_ hk => (⟨hk, hk.1⟩ : _ ∧ k_ ≠ gb257))) (fun _ hk => hk.2) (.bool t259)) (fun _ hk => hk.2) (.slice Ao28 t260.length co28)) (fun _ hk => hk.2) (.int .i64 t263)) (fun _ h_ => h_.1))) (Kd.R_base ho0) hb); have HO267 := AM (Kd.R_lower ho0 (below_size (pH HB))); replace BK257 := AM (blk_below (g := gb257) (o := .cells #[.bool t259, .slice Ao28 t260.length co28, .int .i64 t263] 144 (0, 0)) (by refine sB ?_; refine blk_put (cs := #[.bool t259, .slice Ao28 t260.length co28, .int .i64 a0_2]) ?_ 2 _ rfl; refine sB ?_; refine blk_put (cs := #[.bool t259, .slice A0_1 l0_1.length c0_1, .int .i64 a0_2]) ?_ 1 _ rfl; refine sB ?_; refine blk_put (cs := #[.bool a0_0, .slice A0_1 l0_1.length c0_1, .int .i64 a0_2]) ?_ 0 _ rfl; refine sB ?_; exact BK257.out) hb); replace BK258 := AM (blk_below (g := gb258) (o := .cells #[.bool false, .slice none 0 0, .int .i64 0] 77 (0, 0)) (by refine sB ?_; refine blk_far ?_ NB258_257.out _; refine sB ?_; refine blk_far ?_ NB258_257.out _; refine sB ?_; refine blk_far ?_ NB258_257.out _; refine sB ?_; exact BK258.out) hb); replace HB := AM (below_step (pH HB) hb); (try clear hb); (try clear hb2); (try clear hk); (try clear hi); (try clear ho0)) | ((with_reducible refine gate_dst (N := 4) rfl ?_); refine box_event ?hg (N := 4) ?hd (cs := #[.bool false, .slice none 0 0]) (t := 28) ?hr ?_; (case hd => rfl); (case hg => rfl); (case hr => first | (go_simp; done) | (go_simp; rfl)); intro gb269 hg w30 hbox hb; replace HO262 := AM (Kd.V_below (Kd.V_elderB (by (with_reducible repeat (first | apply Kd.V_alloc | apply Kd.V_drewN | apply Kd.V_drew)); exact HO262.out) gb269 (Nat.le_of_eq hg.symm)) hb); replace HO267 := AM (Kd.R_below (pR HO267) hb); have BK269 := AM (hbox); have GW269 := gH HB hg; have GE269 := gH HB hg; replace HB := AM (below_step (pH HB) hb); have NB257_269 := nL BK257 hg; have NB269_257 := nG BK257 hg; replace BK257 := bB BK257 hb; have NB258_269 := nL BK258 hg; have NB269_258 := nG BK258 hg; replace BK258 := bB BK258 hb; clear hb hbox hg; have hnb31 := NB269_257.out; have hnc31 := NB257_269.out; have hnb32 := NB269_258.out; have hnc32 := NB258_269.out; have ⟨hcz33_0, hcz33_1, hfz33_0, hfz33_1⟩ := z2 BK269; obtain ⟨Ao34, co34, eo34⟩ := Kd.R_slice HO267.out; subst eo34; have ⟨hcz35_0, hcz35_1, hcz35_2, hfz35_0, hfz35_1, hfz35_2⟩ := z3 BK257; have ⟨hcz36_0, hcz36_1, hcz36_2, hfz36_0, hfz36_1, hfz36_2⟩ := z3 BK258))
   refine bodyPost_ret (results_ct rfl _ _ gb258 77 #[.bool false, .slice none 0 0, .int .i64 0] (0, 0) _ rfl (by refine sB ?_; refine blk_put (cs := #[.bool false, .slice none 0 0, .int .i64 0]) ?_ 2 _ rfl; refine sB ?_; refine blk_put (cs := #[.bool false, .slice none 0 0, .int .i64 0]) ?_ 1 _ rfl; refine sB ?_; refine blk_put (cs := #[.bool false, .slice none 0 0, .int .i64 0]) ?_ 0 _ rfl; refine sB ?_; refine blk_far ?_ NB258_269.out _; refine sB ?_; refine blk_far ?_ NB258_269.out _; refine sB ?_; exact BK258.out) Try.underlying77 rfl (by kernel_rfl)) rfl ?_
   exact ⟨_, by first | rfl | (simp [errW_none, errW_some] <;> rfl) | (simp [*, errW_none, errW_some] <;> rfl), by first | exact Kd.R_nil _ _ _ _ _ | exact Kd.N_nil _ _ _ _ _ | exact Kd.V_nil _ _ _ _ _ | exact Kd.Q_nil _ _ _ _ _ | exact Kd.S_nil _ _ _ _ _, pH HB⟩
 rw [if_neg c21] at H
 have c21b0 : decide (20000 < t263) = false := decide_eq_false c21
 clear c21
 simp only [Option.some.injEq, Prod.mk.injEq] at H
 obtain ⟨rfl, rfl, rfl, rfl⟩ := H
 go_enter Try.func107, Try.ntmps107
 go_wp2_with (first | ((with_reducible refine gate_dst (N := 1) rfl ?_); refine box_event ?hg (N := 1) ?hd (cs := #[.bool a0_0, .slice A0_1 l0_1.length c0_1, .int .i64 a0_2]) (t := 144) ?hr ?_; (case hd => rfl); (case hg => rfl); (case hr => first | (go_simp; done) | (go_simp; rfl)); intro gb257 hg w37 hbox hb; have BK257 := AM (hbox); have GW257 := gH HB hg; have GE257 := gH HB hg; replace HB := AM (below_step (pH HB) hb); clear hb hbox hg) | ((with_reducible refine gate_dst (N := 2) rfl ?_); refine box_event ?hg (N := 2) ?hd (cs := #[.bool false, .slice none 0 0, .int .i64 0]) (t := 77) ?hr ?_; (case hd => rfl); (case hg => rfl); (case hr => first | (go_simp; done) | (go_simp; rfl)); intro gb258 hg w38 hbox hb; have BK258 := AM (hbox); have GW258 := gH HB hg; have GE258 := gH HB hg; replace HB := AM (below_step (pH HB) hb); have NB257_258 := nL BK257 hg; have NB258_257 := nG BK257 hg; replace BK257 := bB BK257 hb; clear hb hbox hg; have hnb39 := NB257_258.out; have hnc39 := NB258_257.out; have ⟨hcz40_0, hcz40_1, hcz40_2, hfz40_0, hfz40_1, hfz40_2⟩ := z3 BK257) | ((with_reducible refine gate_callee (f := 140) rfl ?_); refine goesL_ (some 7) rfl rfl Try.func140 (by kernel_rfl) rfl #[.agg #[.bool a0_0, .slice A0_1 l0_1.length c0_1, .int .i64 a0_2]] rfl (by (try simp only [List.map_toArray, List.map_cons, List.map_nil]); first | done | rfl | (simp only [List.length_drop, List.length_take]; rfl)) ?_; (with_reducible refine (impl_dyadic_normal.calls k a0_0 _ _ l0_1 a0_2 t259 t260 t263 _ ?side1 ?side2 A2.out).mono ?_); (case side1 => exact cB HR0_1 HB); (case side2 => exact HC0_1.out); rintro e w41 ⟨v261, rfl, ho0, hb⟩; refine ⟨_, rfl, ?_⟩; have HO262 := AM (Kd.V_lower (Kd.V_mono (ok' := fun k_ => k_ ≠ gb257 ∧ k_ ≠ gb258) ho0 (fun k_ hk_ => ⟨(Kd.freshB (g := gb257) (o := .cells #[.bool a0_0, .slice A0_1 l0_1.length c0_1, .int .i64 a0_2] 144 (0, 0)) (pB BK257) k_ hk_), (Kd.freshB (g := gb258) (o := .cells #[.bool false, .slice none 0 0, .int .i64 0] 77 (0, 0)) (pB BK258) k_ hk_)⟩)) (below_size (pH HB))); replace BK257 := bB BK257 hb; replace BK258 := bB BK258 hb; replace HB := AM (below_step (pH HB) hb); (try clear hb); (try clear hb2); (try clear hk); (try clear hi); (try clear ho0); have ⟨hcz42_0, hcz42_1, hcz42_2, hfz42_0, hfz42_1, hfz42_2⟩ := z3 BK257; obtain ⟨Ao43, co43, eo43⟩ := Kd.V_slice HO262.out; subst eo43) | ((with_reducible refine gate_callee (f := 117) rfl ?_); refine goesL_ (some 11) rfl rfl Try.func117 (by kernel_rfl) rfl #[.agg #[.bool t259, .slice Ao43 t260.length co43]] rfl (by (try simp only [List.map_toArray, List.map_cons, List.map_nil]); first | done | rfl | (simp only [List.length_drop, List.length_take]; rfl)) ?_; (with_reducible refine (impl_number_big.calls t259 _ _ t260 t264 t265 t268 _ ?side1 ?side2 A3.out).mono ?_); (case side1 => refine (Kd.V_reads' (e := 50) (base := w.heap.size) (ok := fun k_ => (k_ ≠ gb257 ∧ k_ ≠ gb258)) (n := t260.length) (c := co43) ?_).2.2; exact (by (with_reducible repeat (first | apply Kd.V_alloc | apply Kd.V_drewN | apply Kd.V_drew)); exact (Kd.V_mono (Kd.V_far (p := ⟨gb257, 2, none⟩) (Kd.V_far (p := ⟨gb257, 1, none⟩) (Kd.V_far (p := ⟨gb257, 0, none⟩) (Kd.V_mono HO262.out (fun k_ hk => (⟨hk, hk.1⟩ : _ ∧ k_ ≠ gb257))) (fun _ hk => hk.2) (.bool t259)) (fun _ hk => hk.2) (.slice Ao43 t260.length co43)) (fun _ hk => hk.2) (.int .i64 t263)) (fun _ h_ => h_.1)))); (case side2 => exact (Kd.V_reads' HO262.out).2.1); rintro e w44 ⟨v266, rfl, ho0, hb⟩; refine ⟨_, rfl, ?_⟩; replace HO262 := AM (Kd.V_elder' (by (with_reducible repeat (first | apply Kd.V_alloc | apply Kd.V_drewN | apply Kd.V_drew)); exact (Kd.V_mono (Kd.V_far (p := ⟨gb257, 2, none⟩) (Kd.V_far (p := ⟨gb257, 1, none⟩) (Kd.V_far (p := ⟨gb257, 0, none⟩) (Kd.V_mono HO262.out (fun k_ hk => (⟨hk, hk.1⟩ : _ ∧ k_ ≠ gb257))) (fun _ hk => hk.2) (.bool t259)) (fun _ hk => hk.2) (.slice Ao43 t260.length co43)) (fun _ hk => hk.2) (.int .i64 t263)) (fun _ h_ => h_.1))) (Kd.R_base ho0) hb); have HO267 := AM (Kd.R_lower ho0 (below_size (pH HB))); replace BK257 := AM (blk_below (g := gb257) (o := .cells #[.bool t259, .slice Ao43 t260.length co43, .int .i64 t263] 144 (0, 0)) (by refine sB ?_; refine blk_put (cs := #[.bool t259, .slice Ao43 t260.length co43, .int .i64 a0_2]) ?_ 2 _ rfl; refine sB ?_; refine blk_put (cs := #[.bool t259, .slice A0_1 l0_1.length c0_1, .int .i64 a0_2]) ?_ 1 _ rfl; refine sB ?_; refine blk_put (cs := #[.bool a0_0, .slice A0_1 l0_1.length c0_1, .int .i64 a0_2]) ?_ 0 _ rfl; refine sB ?_; exact BK257.out) hb); replace BK258 := AM (blk_below (g := gb258) (o := .cells #[.bool false, .slice none 0 0, .int .i64 0] 77 (0, 0)) (by refine sB ?_; refine blk_far ?_ NB258_257.out _; refine sB ?_; refine blk_far ?_ NB258_257.out _; refine sB ?_; refine blk_far ?_ NB258_257.out _; refine sB ?_; exact BK258.out) hb); replace HB := AM (below_step (pH HB) hb); (try clear hb); (try clear hb2); (try clear hk); (try clear hi); (try clear ho0)) | ((with_reducible refine gate_dst (N := 4) rfl ?_); refine box_event ?hg (N := 4) ?hd (cs := #[.bool false, .slice none 0 0]) (t := 28) ?hr ?_; (case hd => rfl); (case hg => rfl); (case hr => first | (go_simp; done) | (go_simp; rfl)); intro gb269 hg w45 hbox hb; replace HO262 := AM (Kd.V_below (Kd.V_elderB (by (with_reducible repeat (first | apply Kd.V_alloc | apply Kd.V_drewN | apply Kd.V_drew)); exact HO262.out) gb269 (Nat.le_of_eq hg.symm)) hb); replace HO267 := AM (Kd.R_below (pR HO267) hb); have BK269 := AM (hbox); have GW269 := gH HB hg; have GE269 := gH HB hg; replace HB := AM (below_step (pH HB) hb); have NB257_269 := nL BK257 hg; have NB269_257 := nG BK257 hg; replace BK257 := bB BK257 hb; have NB258_269 := nL BK258 hg; have NB269_258 := nG BK258 hg; replace BK258 := bB BK258 hb; clear hb hbox hg; have hnb46 := NB269_257.out; have hnc46 := NB257_269.out; have hnb47 := NB269_258.out; have hnc47 := NB258_269.out; have ⟨hcz48_0, hcz48_1, hfz48_0, hfz48_1⟩ := z2 BK269; obtain ⟨Ao49, co49, eo49⟩ := Kd.R_slice HO267.out; subst eo49; have ⟨hcz50_0, hcz50_1, hcz50_2, hfz50_0, hfz50_1, hfz50_2⟩ := z3 BK257; have ⟨hcz51_0, hcz51_1, hcz51_2, hfz51_0, hfz51_1, hfz51_2⟩ := z3 BK258))
 refine bodyPost_ret (results_ct rfl _ _ gb258 77 #[.bool t264, .slice Ao49 t265.length co49, .int .i64 t263] (0, 0) _ rfl (by refine sB ?_; refine blk_put (cs := #[.bool t264, .slice Ao49 t265.length co49, .int .i64 0]) ?_ 2 _ rfl; refine sB ?_; refine blk_put (cs := #[.bool t264, .slice none 0 0, .int .i64 0]) ?_ 1 _ rfl; refine sB ?_; refine blk_put (cs := #[.bool false, .slice none 0 0, .int .i64 0]) ?_ 0 _ rfl; refine sB ?_; refine blk_far ?_ NB258_269.out _; refine sB ?_; refine blk_far ?_ NB258_269.out _; refine sB ?_; exact BK258.out) Try.underlying77 rfl (by kernel_rfl)) rfl ?_
 exact ⟨_, by first | rfl | (simp [errW_none, errW_some] <;> rfl) | (simp [*, errW_none, errW_some] <;> rfl), by (with_reducible repeat (first | apply Kd.R_alloc | apply Kd.R_drewN | apply Kd.R_drew)); exact Kd.R_mono (Kd.R_far (p := ⟨gb258, 2, none⟩) (Kd.R_far (p := ⟨gb258, 1, none⟩) (Kd.R_far (p := ⟨gb258, 0, none⟩) (Kd.R_far (p := ⟨gb269, 1, none⟩) (Kd.R_far (p := ⟨gb269, 0, none⟩) (Kd.R_types (Kd.R_types HO267.out BK269.out (by decide)) BK258.out (by decide)) (fun _ hk => hk.1.2) (.bool t264)) (fun _ hk => hk.1.2) (.slice Ao49 t265.length co49)) (fun _ hk => hk.2) (.bool t264)) (fun _ hk => hk.2) (.slice Ao49 t265.length co49)) (fun _ hk => hk.2) (.int .i64 t263)) (fun _ hk => trivial), pH HB⟩
/-! ### impl_whole: function 143 -/
def impl_whole.f (k : Nat) (a0 : Int) : Option (Bool × List Int) := if a0 < 0 then ((impl_limbs_trim.f k (([(IntKind.u64.wrap (-(IntKind.u64.wrap (a0)))) % 4294967296, ((IntKind.u64.wrap (-(IntKind.u64.wrap (a0)))) / 4294967296) % 4294967296] : List Int))).bind fun t274 => (some (decide (a0 < 0), t274))) else ((impl_limbs_trim.f k (([(IntKind.u64.wrap (a0)) % 4294967296, ((IntKind.u64.wrap (a0)) / 4294967296) % 4294967296] : List Int))).bind fun t280 => (some (decide (a0 < 0), t280)))
theorem impl_whole.mono : ∀ a0 k, LeO (impl_whole.f k a0) (impl_whole.f (k + 1) a0) := by
 intro a0 k
 unfold impl_whole.f
 repeat' with_reducible first | exact impl_limbs_trim.mono _ _ | exact LeO.refl _ | exact LeO.none _ | refine LeO.ite ?_ ?_ | refine LeO.bind ?_ (fun _ => ?_)
set_option maxHeartbeats 8000000 in
set_option maxRecDepth 100000 in
theorem impl_whole.calls (k : Nat) (a0 : Int) (r1 : Bool) (r2 : List Int) (w : World) (h : impl_whole.f k a0 = some (r1, r2)) :
 Calls Try.prog 143 #[.int .i64 a0] w fun e w' => ∃ v1_ : Value, e = .returned (.agg #[.bool r1, v1_]) ∧ Kd.V (Kd.int .u32) 50 w' w.heap.size (fun k_ => (w.heap.size ≤ k_)) v1_ r2 ∧ Below w.heap.size w w' := by
 have hu101 := Try.underlying101; have HB := AM (Below.refl w.heap.size w)
 have H : (if a0 < 0 then ((impl_limbs_trim.f k (([(IntKind.u64.wrap (-(IntKind.u64.wrap (a0)))) % 4294967296, ((IntKind.u64.wrap (-(IntKind.u64.wrap (a0)))) / 4294967296) % 4294967296] : List Int))).bind fun t274 => (some (decide (a0 < 0), t274))) else ((impl_limbs_trim.f k (([(IntKind.u64.wrap (a0)) % 4294967296, ((IntKind.u64.wrap (a0)) / 4294967296) % 4294967296] : List Int))).bind fun t280 => (some (decide (a0 < 0), t280)))) = some (r1, r2) := h
 clear h
 by_cases c2 : a0 < 0
 · rw [if_pos c2] at H
   have c2b0 : decide (a0 < 0) = true := decide_eq_true c2
   clear c2
   obtain ⟨y271, hy271⟩ : ∃ y_ : List Int, y_ = (([(IntKind.u64.wrap (-(IntKind.u64.wrap (a0)))) % 4294967296, ((IntKind.u64.wrap (-(IntKind.u64.wrap (a0)))) / 4294967296) % 4294967296] : List Int)) := ⟨_, rfl⟩
   replace H : ((impl_limbs_trim.f k y271).bind fun t274 => (some (decide (a0 < 0), t274))) = some (r1, r2) := by first | (rw [hy271]; with_reducible exact H) | (have H2_ := (Option.bind_some _ _).symm.trans H; rw [hy271]; with_reducible exact H2_) | (have H2_ := (Option.bind_some _ _).symm.trans H; with_reducible exact H2_) | with_reducible exact H | (rw [hy271]; exact H) | exact H
   have Ny271 := AM hy271; clear hy271
   replace H := Option.bind_eq_some_iff.mp H
   obtain ⟨t274, A30, H⟩ := H
   (try dsimp only at H)
   have A3 := AM A30; clear A30
   simp only [Option.some.injEq, Prod.mk.injEq] at H
   obtain ⟨rfl, rfl⟩ := H
   go_enter Try.func143, Try.ntmps143
   go_wp2_with (first | ((with_reducible refine gate_dst (N := 2) rfl ?_); refine box_event ?hg (N := 2) ?hd (cs := #[.bool false, .slice none 0 0]) (t := 101) ?hr ?_; (case hd => rfl); (case hg => rfl); (case hr => first | (go_simp; done) | (go_simp; rfl)); intro gb270 hg w4 hbox hb; have BK270 := AM (hbox); have GW270 := gH HB hg; have GE270 := gH HB hg; replace HB := AM (below_step (pH HB) hb); clear hb hbox hg) | ((with_reducible refine gate_dst (N := 17) rfl ?_); refine Kd.R_lit (Kd.int .u32) _ 50 ?hg (N := 17) ?hd (xs := ([(IntKind.u64.wrap (-(IntKind.u64.wrap (a0)))) % 4294967296, ((IntKind.u64.wrap (-(IntKind.u64.wrap (a0)))) / 4294967296) % 4294967296] : List Int)) (inner := [.int .u32 ((IntKind.u64.wrap (-(IntKind.u64.wrap (a0)))) % 4294967296), .int .u32 (((IntKind.u64.wrap (-(IntKind.u64.wrap (a0)))) / 4294967296) % 4294967296)]) (ok := fun _ => True) (okp := fun _ => True) ?hr ?hp (fun _ hk => hk) trivial (Below.refl _ _) (Nat.le_refl _) (by simp) ?_; (case hd => rfl); (case hg => rfl); (case hr => first | (go_simp; done) | (go_simp; rfl)); (case hp => exact (Reps.one (show Kd.M (Kd.int .u32) _ _ _ ((IntKind.u64.wrap (-(IntKind.u64.wrap (a0)))) % 4294967296) [.int .u32 ((IntKind.u64.wrap (-(IntKind.u64.wrap (a0)))) % 4294967296)] from rfl) (Reps.one (show Kd.M (Kd.int .u32) _ _ _ (((IntKind.u64.wrap (-(IntKind.u64.wrap (a0)))) / 4294967296) % 4294967296) [.int .u32 (((IntKind.u64.wrap (-(IntKind.u64.wrap (a0)))) / 4294967296) % 4294967296)] from rfl) (Reps.none _ _)))); intro v272 w5 ho6 hb hg_ hnew_; clear hg_ hnew_; (first | rw [← Ny271.out] at ho6 | (simp only [Int.reduceToNat] at ho6; rw [← Ny271.out] at ho6)); have HO273 := AM (Kd.R_lower (Kd.R_newM (M := fun k_ => (w.heap.size ≤ k_)) ho6 (below_size (pH HB)) (fun k_ h_ => h_)) (below_size (pH HB))); replace BK270 := bB BK270 hb; replace HB := AM (below_step (pH HB) hb); clear hb ho6; obtain ⟨Ao7, co7, eo7⟩ := Kd.R_slice HO273.out; subst eo7) | ((with_reducible refine gate_callee (f := 148) rfl ?_); refine goesL_ (some 18) rfl rfl Try.func148 (by kernel_rfl) rfl #[.slice Ao7 y271.length co7] rfl (by (try simp only [List.map_toArray, List.map_cons, List.map_nil]); first | done | rfl | (simp only [List.length_drop, List.length_take]; rfl)) ?_; (with_reducible refine (impl_limbs_trim.calls k (fun k_ => some k_ = (.slice Ao7 y271.length co7 : Value).ownBlock) _ _ y271 t274 _ ?side1 A3.out).mono ?_); (case side1 => exact Kd.R_V (Kd.R_tight rfl (Kd.R_types (HO273.out) BK270.out (by decide)))); rintro e w8 ⟨v275, rfl, ho0, hb⟩; refine ⟨_, rfl, ?_⟩; have HO276 := AM (Kd.V_lower (Kd.V_mono (ok' := fun k_ => (w.heap.size ≤ k_) ∧ k_ ≠ gb270) ho0 (fun k_ hk_ => ⟨Or.elim hk_ (fun hs_ => ((Kd.R_types (HO273.out) BK270.out (by decide)).1 k_ hs_.symm).1.1) (fun hn_ => (Nat.le_trans (below_size (pH HB)) hn_)), Or.elim hk_ (fun hs_ => ((Kd.R_types (HO273.out) BK270.out (by decide)).1 k_ hs_.symm).2) (fun hn_ => (Kd.freshB (g := gb270) (o := .cells #[.bool false, .slice none 0 0] 101 (0, 0)) (pB BK270) k_ hn_))⟩)) (below_size (pH HB))); replace HO273 := AM (Kd.R_below (pR HO273) hb); replace BK270 := bB BK270 hb; replace HB := AM (below_step (pH HB) hb); (try clear hb); (try clear hb2); (try clear hk); (try clear hi); (try clear ho0); obtain ⟨Ao9, co9, eo9⟩ := Kd.V_slice HO276.out; subst eo9; have ⟨hcz10_0, hcz10_1, hfz10_0, hfz10_1⟩ := z2 BK270))
   refine bodyPost_ret (results_cell_row rfl _ _ gb270 101 #[.bool true, .slice Ao9 t274.length co9] (0, 0) _ rfl (by refine sB ?_; refine blk_put (cs := #[.bool true, .slice none 0 0]) ?_ 1 _ rfl; refine sB ?_; refine blk_put (cs := #[.bool false, .slice none 0 0]) ?_ 0 _ rfl; refine sB ?_; exact BK270.out) Try.underlying101 rfl (by kernel_rfl)) rfl ?_
   exact ⟨_, by first | rfl | (simp [errW_none, errW_some] <;> rfl) | (simp [*, errW_none, errW_some] <;> rfl), by (with_reducible repeat (first | apply Kd.V_alloc | apply Kd.V_drewN | apply Kd.V_drew)); exact Kd.V_mono (Kd.V_far (p := ⟨gb270, 1, none⟩) (Kd.V_far (p := ⟨gb270, 0, none⟩) (Kd.V_mono HO276.out (fun k_ hk => (⟨hk, hk.2⟩ : _ ∧ k_ ≠ gb270))) (fun _ hk => hk.2) (.bool true)) (fun _ hk => hk.2) (.slice Ao9 t274.length co9)) (fun _ hk => hk.1.1), pH HB⟩
 rw [if_neg c2] at H
 have c2b0 : decide (a0 < 0) = false := decide_eq_false c2
 clear c2
 obtain ⟨y277, hy277⟩ : ∃ y_ : List Int, y_ = (([(IntKind.u64.wrap (a0)) % 4294967296, ((IntKind.u64.wrap (a0)) / 4294967296) % 4294967296] : List Int)) := ⟨_, rfl⟩
 replace H : ((impl_limbs_trim.f k y277).bind fun t280 => (some (decide (a0 < 0), t280))) = some (r1, r2) := by first | (rw [hy277]; with_reducible exact H) | (have H2_ := (Option.bind_some _ _).symm.trans H; rw [hy277]; with_reducible exact H2_) | (have H2_ := (Option.bind_some _ _).symm.trans H; with_reducible exact H2_) | with_reducible exact H | (rw [hy277]; exact H) | exact H
 have Ny277 := AM hy277; clear hy277
 replace H := Option.bind_eq_some_iff.mp H
 obtain ⟨t280, A110, H⟩ := H
 (try dsimp only at H)
 have A11 := AM A110; clear A110
 simp only [Option.some.injEq, Prod.mk.injEq] at H
 obtain ⟨rfl, rfl⟩ := H
 go_enter Try.func143, Try.ntmps143
 go_wp2_with (first | ((with_reducible refine gate_dst (N := 2) rfl ?_); refine box_event ?hg (N := 2) ?hd (cs := #[.bool false, .slice none 0 0]) (t := 101) ?hr ?_; (case hd => rfl); (case hg => rfl); (case hr => first | (go_simp; done) | (go_simp; rfl)); intro gb270 hg w12 hbox hb; have BK270 := AM (hbox); have GW270 := gH HB hg; have GE270 := gH HB hg; replace HB := AM (below_step (pH HB) hb); clear hb hbox hg) | ((with_reducible refine gate_dst (N := 17) rfl ?_); refine Kd.R_lit (Kd.int .u32) _ 50 ?hg (N := 17) ?hd (xs := ([(IntKind.u64.wrap (a0)) % 4294967296, ((IntKind.u64.wrap (a0)) / 4294967296) % 4294967296] : List Int)) (inner := [.int .u32 ((IntKind.u64.wrap (a0)) % 4294967296), .int .u32 (((IntKind.u64.wrap (a0)) / 4294967296) % 4294967296)]) (ok := fun _ => True) (okp := fun _ => True) ?hr ?hp (fun _ hk => hk) trivial (Below.refl _ _) (Nat.le_refl _) (by simp) ?_; (case hd => rfl); (case hg => rfl); (case hr => first | (go_simp; done) | (go_simp; rfl)); (case hp => exact (Reps.one (show Kd.M (Kd.int .u32) _ _ _ ((IntKind.u64.wrap (a0)) % 4294967296) [.int .u32 ((IntKind.u64.wrap (a0)) % 4294967296)] from rfl) (Reps.one (show Kd.M (Kd.int .u32) _ _ _ (((IntKind.u64.wrap (a0)) / 4294967296) % 4294967296) [.int .u32 (((IntKind.u64.wrap (a0)) / 4294967296) % 4294967296)] from rfl) (Reps.none _ _)))); intro v278 w13 ho14 hb hg_ hnew_; clear hg_ hnew_; (first | rw [← Ny277.out] at ho14 | (simp only [Int.reduceToNat] at ho14; rw [← Ny277.out] at ho14)); have HO279 := AM (Kd.R_lower (Kd.R_newM (M := fun k_ => (w.heap.size ≤ k_)) ho14 (below_size (pH HB)) (fun k_ h_ => h_)) (below_size (pH HB))); replace BK270 := bB BK270 hb; replace HB := AM (below_step (pH HB) hb); clear hb ho14; obtain ⟨Ao15, co15, eo15⟩ := Kd.R_slice HO279.out; subst eo15) | ((with_reducible refine gate_callee (f := 148) rfl ?_); refine goesL_ (some 18) rfl rfl Try.func148 (by kernel_rfl) rfl #[.slice Ao15 y277.length co15] rfl (by (try simp only [List.map_toArray, List.map_cons, List.map_nil]); first | done | rfl | (simp only [List.length_drop, List.length_take]; rfl)) ?_; (with_reducible refine (impl_limbs_trim.calls k (fun k_ => some k_ = (.slice Ao15 y277.length co15 : Value).ownBlock) _ _ y277 t280 _ ?side1 A11.out).mono ?_); (case side1 => exact Kd.R_V (Kd.R_tight rfl (Kd.R_types (HO279.out) BK270.out (by decide)))); rintro e w16 ⟨v281, rfl, ho0, hb⟩; refine ⟨_, rfl, ?_⟩; have HO282 := AM (Kd.V_lower (Kd.V_mono (ok' := fun k_ => (w.heap.size ≤ k_) ∧ k_ ≠ gb270) ho0 (fun k_ hk_ => ⟨Or.elim hk_ (fun hs_ => ((Kd.R_types (HO279.out) BK270.out (by decide)).1 k_ hs_.symm).1.1) (fun hn_ => (Nat.le_trans (below_size (pH HB)) hn_)), Or.elim hk_ (fun hs_ => ((Kd.R_types (HO279.out) BK270.out (by decide)).1 k_ hs_.symm).2) (fun hn_ => (Kd.freshB (g := gb270) (o := .cells #[.bool false, .slice none 0 0] 101 (0, 0)) (pB BK270) k_ hn_))⟩)) (below_size (pH HB))); replace HO279 := AM (Kd.R_below (pR HO279) hb); replace BK270 := bB BK270 hb; replace HB := AM (below_step (pH HB) hb); (try clear hb); (try clear hb2); (try clear hk); (try clear hi); (try clear ho0); obtain ⟨Ao17, co17, eo17⟩ := Kd.V_slice HO282.out; subst eo17; have ⟨hcz18_0, hcz18_1, hfz18_0, hfz18_1⟩ := z2 BK270))
 refine bodyPost_ret (results_cell_row rfl _ _ gb270 101 #[.bool false, .slice Ao17 t280.length co17] (0, 0) _ rfl (by refine sB ?_; refine blk_put (cs := #[.bool false, .slice none 0 0]) ?_ 1 _ rfl; refine sB ?_; refine blk_put (cs := #[.bool false, .slice none 0 0]) ?_ 0 _ rfl; refine sB ?_; exact BK270.out) Try.underlying101 rfl (by kernel_rfl)) rfl ?_
 exact ⟨_, by first | rfl | (simp [errW_none, errW_some] <;> rfl) | (simp [*, errW_none, errW_some] <;> rfl), by (with_reducible repeat (first | apply Kd.V_alloc | apply Kd.V_drewN | apply Kd.V_drew)); exact Kd.V_mono (Kd.V_far (p := ⟨gb270, 1, none⟩) (Kd.V_far (p := ⟨gb270, 0, none⟩) (Kd.V_mono HO282.out (fun k_ hk => (⟨hk, hk.2⟩ : _ ∧ k_ ≠ gb270))) (fun _ hk => hk.2) (.bool false)) (fun _ hk => hk.2) (.slice Ao17 t280.length co17)) (fun _ hk => hk.1.1), pH HB⟩

end Go.Proofs.Ytcpdeenhjodmfaa.QDyOf
