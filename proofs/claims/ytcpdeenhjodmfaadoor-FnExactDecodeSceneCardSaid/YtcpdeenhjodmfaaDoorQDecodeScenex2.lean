-- Written by wip/tools/mkprint.py (my program) out of the translation, for this claim. Not trusted: Lean checks it.
import Derived.Test.YtcpdeenhjodmfaaDoorQDecodeScenex0
import Derived.Test.YtcpdeenhjodmfaaDoorQDecodeScenex1
namespace Go.Proofs.YtcpdeenhjodmfaaDoor.QDecodeScene
open Go.RowKit Go.Proofs.YtcpdeenhjodmfaaDoorW.PrintWords Go.Proofs.YtcpdeenhjodmfaaDoorW.PrintLast Go.Proofs.YtcpdeenhjodmfaaDoorW.PrintMore
attribute [local go_sem] max2_int min2_int max_two min_two max_three min_three max_four min_four   -- for this text's walks alone
set_option maxHeartbeats 8000000
set_option maxRecDepth 100000
set_option linter.unusedVariables false
set_option linter.unusedSimpArgs false

/-! ### spec_l6fault: function 31 -/
mutual
def spec_l6fault.l0 : Nat → List Int → ByteArray → Int → Option (Int × Int)
 | 0, _, _, _ => none
 | k + 1, x0, x4, x5 => if x5 < 4 then (if x5 ≥ (x0.length : Int) then (some (5, (x0.length : Int))) else (if 0 ≤ x5 then (if x5 < (x0.length : Int) then (if x5 < (x4.size : Int) then (if (rd x0 x5) = (bt x4 x5) then (spec_l6fault.l0 k x0 x4 (wrap64 (x5 + 1))) else (some (4, x5))) else (none)) else (none)) else (none))) else (spec_l6fault.l1 k x0 (([2, 2, 1] : List Int)) (([40, 40, 4] : List Int)) ([] : List Int) 4 0)
def spec_l6fault.l1 : Nat → List Int → List Int → List Int → List Int → Int → Int → Option (Int × Int)
 | 0, _, _, _, _, _, _ => none
 | k + 1, x0, x6, x7, x8, x9, x10 => if x10 < 3 then (if 0 ≤ x10 then (if x10 < (x6.length : Int) then ((spec_l6number.f k x0 x9 (rd x6 x10)).bind fun t122 => (if t122 < 0 then (some (5, (x0.length : Int))) else (if x10 < (x7.length : Int) then (if t122 > (rd x7 x10) then (some (2, x9)) else (if x8.length < 17592186044416 then (spec_l6fault.l1 k x0 x6 x7 (x8 ++ [t122]) (wrap64 (x9 + (rd x6 x10))) (wrap64 (x10 + 1))) else (none))) else (none)))) else (none)) else (none)) else (if 0 < (x8.length : Int) then (if 1 < (x8.length : Int) then (if 2 < (x8.length : Int) then (spec_l6fault.l2 k x0 x8 x9 (wrap64 ((wrap64 ((wrap64 (9 * (rd x8 0))) + (wrap64 (6 * (rd x8 1))))) + (wrap64 (3 * (rd x8 2))))) 0) else (none)) else (none)) else (none))
def spec_l6fault.l2 : Nat → List Int → List Int → Int → Int → Int → Option (Int × Int)
 | 0, _, _, _, _, _ => none
 | k + 1, x0, x8, x9, x12, x13 => if x13 < x12 then ((spec_l6number.f k x0 (wrap64 (x9 + (wrap64 (4 * x13)))) 4).bind fun t131 => (if t131 < 0 then (some (5, (x0.length : Int))) else ((spec_l2finite.f ((t131) % 4294967296)).bind fun t132 => (if t132 = true then (if 0 < (x8.length : Int) then (if (wrap64 (x13 - (wrap64 (9 * (rd x8 0))))) ≥ 0 then (if 1 < (x8.length : Int) then (if (wrap64 (x13 - (wrap64 (9 * (rd x8 0))))) < (wrap64 (6 * (rd x8 1))) then (if (Int.tmod (wrap64 (x13 - (wrap64 (9 * (rd x8 0))))) 6) = 5 then ((spec_l6pointAt.f k x0 (wrap64 ((wrap64 (x9 + (wrap64 (4 * x13)))) - 8))).bind fun bt135 => ((spec_l3noWay.f bt135.1 bt135.2.1 bt135.2.2).bind fun t138 => (if t138 = true then (some (7, wrap64 ((wrap64 (x9 + (wrap64 (4 * x13)))) - 8))) else (spec_l6fault.l2 k x0 x8 x9 x12 (wrap64 (x13 + 1)))))) else (spec_l6fault.l2 k x0 x8 x9 x12 (wrap64 (x13 + 1)))) else (spec_l6fault.l2 k x0 x8 x9 x12 (wrap64 (x13 + 1)))) else (none)) else (spec_l6fault.l2 k x0 x8 x9 x12 (wrap64 (x13 + 1)))) else (none)) else (some (6, wrap64 (x9 + (wrap64 (4 * x13))))))))) else (if (x0.length : Int) > (wrap64 (x9 + (wrap64 (4 * x12)))) then (some (8, wrap64 (x9 + (wrap64 (4 * x12))))) else (some (0, 0)))
end
def spec_l6fault.f (k : Nat) (l0 : List Int) : Option (Int × Int) := spec_l6fault.l0 k l0 (⟨#[83, 67, 69, 78]⟩ : ByteArray) 0
theorem spec_l6fault.mono_l : ∀ k, (∀ y0 y1 y2, LeO (spec_l6fault.l0 k y0 y1 y2) (spec_l6fault.l0 (k + 1) y0 y1 y2)) ∧ (∀ y0 y1 y2 y3 y4 y5, LeO (spec_l6fault.l1 k y0 y1 y2 y3 y4 y5) (spec_l6fault.l1 (k + 1) y0 y1 y2 y3 y4 y5)) ∧ (∀ y0 y1 y2 y3 y4, LeO (spec_l6fault.l2 k y0 y1 y2 y3 y4) (spec_l6fault.l2 (k + 1) y0 y1 y2 y3 y4))
 | 0 => ⟨fun _ _ _ r h => by simp [spec_l6fault.l0] at h, fun _ _ _ _ _ _ r h => by simp [spec_l6fault.l1] at h, fun _ _ _ _ _ r h => by simp [spec_l6fault.l2] at h⟩
 | k + 1 => by
  obtain ⟨ih0, ih1, ih2⟩ := spec_l6fault.mono_l k
  refine ⟨?_, ?_, ?_⟩
  · intro y0 y1 y2
    unfold spec_l6fault.l0
    repeat' with_reducible first | exact ih0 _ _ _ | exact ih1 _ _ _ _ _ _ | exact ih2 _ _ _ _ _ | exact spec_l6number.mono _ _ _ _ | exact spec_l6pointAt.mono _ _ _ | exact LeO.refl _ | exact LeO.none _ | refine LeO.ite ?_ ?_ | refine LeO.bind ?_ (fun _ => ?_)
  · intro y0 y1 y2 y3 y4 y5
    unfold spec_l6fault.l1
    repeat' with_reducible first | exact ih0 _ _ _ | exact ih1 _ _ _ _ _ _ | exact ih2 _ _ _ _ _ | exact spec_l6number.mono _ _ _ _ | exact spec_l6pointAt.mono _ _ _ | exact LeO.refl _ | exact LeO.none _ | refine LeO.ite ?_ ?_ | refine LeO.bind ?_ (fun _ => ?_)
  intro y0 y1 y2 y3 y4
  unfold spec_l6fault.l2
  repeat' with_reducible first | exact ih0 _ _ _ | exact ih1 _ _ _ _ _ _ | exact ih2 _ _ _ _ _ | exact spec_l6number.mono _ _ _ _ | exact spec_l6pointAt.mono _ _ _ | exact LeO.refl _ | exact LeO.none _ | refine LeO.ite ?_ ?_ | refine LeO.bind ?_ (fun _ => ?_)
theorem spec_l6fault.mono : ∀ a0 k, LeO (spec_l6fault.f k a0) (spec_l6fault.f (k + 1) a0) := by
 intro a0 k
 obtain ⟨ih0, ih1, ih2⟩ := spec_l6fault.mono_l k
 unfold spec_l6fault.f
 repeat' with_reducible first | exact ih0 _ _ _ | exact ih1 _ _ _ _ _ _ | exact ih2 _ _ _ _ _ | exact spec_l6number.mono _ _ _ _ | exact spec_l6pointAt.mono _ _ _ | exact LeO.refl _ | exact LeO.none _ | refine LeO.ite ?_ ?_ | refine LeO.bind ?_ (fun _ => ?_)
theorem spec_l6fault.calls (k : Nat) (A0 : Option Addr) (c0 : Nat) (l0 : List Int) (r1 : Int) (r2 : Int) (w : World) (hr0 : Kd.C (Kd.int .u8) w A0 l0.length l0) (hc0 : l0.length ≤ c0) (h : spec_l6fault.f k l0 = some (r1, r2)) :
 Calls Tryd.prog 31 #[.slice A0 l0.length c0] w fun e w' => e = .returned (.tuple #[.int .i64 r1, .int .i64 r2]) ∧ Below w.heap.size w w' := by
 have HR0 := AM hr0; have HC0 := AM hc0; clear hr0 hc0; have HB := AM (Below.refl w.heap.size w)
 have H : (spec_l6fault.l0 k l0 (⟨#[83, 67, 69, 78]⟩ : ByteArray) 0) = some (r1, r2) := h
 clear h
 have H' := AM H
 clear H
 go_enter Tryd.func31, Tryd.ntmps31
 go_wp2
 repeat (go_quiet (fail); try go_wp2)
 go_loopg [5] k (fun kq v5 w' => ∃ (x5_1 : Int), v5 = .int .i64 x5_1 ∧ Aside0 (spec_l6fault.l0 kq l0 (⟨#[83, 67, 69, 78]⟩ : ByteArray) x5_1 = some (r1, r2)) ∧ Aside0 (kq ≤ k) ∧ Aside0 (Below w.heap.size w w'))
 case atStart => exact ⟨(0), eR, H', ⟨Nat.le_refl _⟩, ⟨pH HB⟩⟩
 case round =>
  clear H'
  obtain ⟨x5_1, rfl, HA, HK1, HB⟩ := hrel
  cases gk with
  | zero => exact absurd HA.out (by simp [spec_l6fault.l0])
  | succ k1 =>
   have H := HA.out; clear HA
   simp only [spec_l6fault.l0] at H
   by_cases c2 : x5_1 < 4
   · rw [if_pos c2] at H
     have c2b0 : decide (x5_1 < 4) = true := decide_eq_true c2
     clear c2
     by_cases c3 : x5_1 ≥ (l0.length : Int)
     · rw [if_pos c3] at H
       have c3b0 : decide ((l0.length : Int) ≤ x5_1) = true := decide_eq_true c3
       clear c3
       simp only [Option.some.injEq, Prod.mk.injEq] at H
       obtain ⟨rfl, rfl⟩ := H
       go_wp2
       repeat (go_quiet (fail); try go_wp2)
       go_ret2
       exact ⟨eW, pH HB⟩
     rw [if_neg c3] at H
     have c3b0 : decide ((l0.length : Int) ≤ x5_1) = false := decide_eq_false c3
     clear c3
     by_cases c4 : 0 ≤ x5_1
     rotate_left
     · rw [if_neg c4] at H
       exact absurd H (by simp)
     rw [if_pos c4] at H
     have c4b0 : decide (0 ≤ x5_1) = true := decide_eq_true c4
     clear c4
     by_cases c5 : x5_1 < (l0.length : Int)
     rotate_left
     · rw [if_neg c5] at H
       exact absurd H (by simp)
     rw [if_pos c5] at H
     have c5b0 : decide (x5_1 < (l0.length : Int)) = true := decide_eq_true c5
     clear c5
     by_cases c6 : x5_1 < ((⟨#[83, 67, 69, 78]⟩ : ByteArray).size : Int)
     rotate_left
     · rw [if_neg c6] at H
       exact absurd H (by simp)
     rw [if_pos c6] at H
     have c6b0 : decide (x5_1 < ((⟨#[83, 67, 69, 78]⟩ : ByteArray).size : Int)) = true := decide_eq_true c6
     clear c6
     by_cases c8 : (rd l0 x5_1) = (bt (⟨#[83, 67, 69, 78]⟩ : ByteArray) x5_1)
     rotate_left
     · rw [if_neg c8] at H
       have c8b0 : ((rd l0 x5_1) == (bt (⟨#[83, 67, 69, 78]⟩ : ByteArray) x5_1)) = false := beq_eq_false_iff_ne.mpr c8
       have c8b1 : ((rd l0 x5_1) != (bt (⟨#[83, 67, 69, 78]⟩ : ByteArray) x5_1)) = true := bne_iff_ne.mpr c8
       simp only [Option.some.injEq, Prod.mk.injEq] at H
       obtain ⟨rfl, rfl⟩ := H
       have p114 : 0 ≤ (x5_1 : Int) := dT
       have q114 : x5_1 < (l0.length : Int) := dT
       obtain ⟨ad114, e114, hx114_0⟩ := Kd.at_int HR0.out x5_1 p114 q114
       cases e114
       replace hx114_0 := (HB.out.cell (World.block_lt_of_cell? w _ hx114_0)).trans hx114_0; replace p114 := eq_true p114; replace q114 := eq_true q114
       have p7 : 0 ≤ (x5_1 : Int) := dT
       have q7 : x5_1 < (4 : Int) := dT
       have hx7 := bt_at (⟨#[83, 67, 69, 78]⟩ : ByteArray) x5_1; replace p7 := eq_true p7; replace q7 := eq_true q7
       go_wp2
       repeat (go_quiet (fail); try go_wp2)
       go_ret2
       exact ⟨eW, pH HB⟩
     rw [if_pos c8] at H
     have c8b0 : ((rd l0 x5_1) == (bt (⟨#[83, 67, 69, 78]⟩ : ByteArray) x5_1)) = true := beq_iff_eq.mpr c8
     have c8b1 : ((rd l0 x5_1) != (bt (⟨#[83, 67, 69, 78]⟩ : ByteArray) x5_1)) = false := bne_eq_false_iff_eq.mpr c8
     clear c8
     have H' := AM H
     clear H
     have p114 : 0 ≤ (x5_1 : Int) := dT
     have q114 : x5_1 < (l0.length : Int) := dT
     obtain ⟨ad114, e114, hx114_0⟩ := Kd.at_int HR0.out x5_1 p114 q114
     cases e114
     replace hx114_0 := (HB.out.cell (World.block_lt_of_cell? w _ hx114_0)).trans hx114_0; replace p114 := eq_true p114; replace q114 := eq_true q114
     have p7 : 0 ≤ (x5_1 : Int) := dT
     have q7 : x5_1 < (4 : Int) := dT
     have hx7 := bt_at (⟨#[83, 67, 69, 78]⟩ : ByteArray) x5_1; replace p7 := eq_true p7; replace q7 := eq_true q7
     go_wp2
     repeat (go_quiet (fail); try go_wp2)
     go_roundg k1
     case measure => have := HK1.out; omega
     case rel => exact ⟨(wrap64 (x5_1 + 1)), eR, H', ⟨by have := HK1.out; omega⟩, ⟨pH HB⟩⟩
   rw [if_neg c2] at H
   have c2b0 : decide (x5_1 < 4) = false := decide_eq_false c2
   clear c2
   obtain ⟨y115, hy115⟩ : ∃ y_ : List Int, y_ = (([2, 2, 1] : List Int)) := ⟨_, rfl⟩
   replace H : (spec_l6fault.l1 k1 l0 y115 (([40, 40, 4] : List Int)) ([] : List Int) 4 0) = some (r1, r2) := by first | (rw [hy115]; with_reducible exact H) | (have H2_ := (Option.bind_some _ _).symm.trans H; rw [hy115]; with_reducible exact H2_) | (have H2_ := (Option.bind_some _ _).symm.trans H; with_reducible exact H2_) | with_reducible exact H | (rw [hy115]; exact H) | exact H
   have Ny115 := AM hy115; clear hy115
   obtain ⟨y118, hy118⟩ : ∃ y_ : List Int, y_ = (([40, 40, 4] : List Int)) := ⟨_, rfl⟩
   replace H : (spec_l6fault.l1 k1 l0 y115 y118 ([] : List Int) 4 0) = some (r1, r2) := by first | (rw [hy118]; with_reducible exact H) | (have H2_ := (Option.bind_some _ _).symm.trans H; rw [hy118]; with_reducible exact H2_) | (have H2_ := (Option.bind_some _ _).symm.trans H; with_reducible exact H2_) | with_reducible exact H | (rw [hy118]; exact H) | exact H
   have Ny118 := AM hy118; clear hy118
   have H' := AM H
   clear H
   go_wp2_with (first | ((with_reducible refine gate_dst (N := 35) rfl ?_); refine Kd.R_lit (Kd.int .i64) _ 3 ?hg (N := 35) ?hd (xs := ([2, 2, 1] : List Int)) (inner := [.int .i64 2, .int .i64 2, .int .i64 1]) (ok := fun _ => True) (okp := fun _ => True) ?hr ?hp (fun _ hk => hk) trivial (Below.refl _ _) (Nat.le_refl _) (by simp) ?_; (case hd => rfl); (case hg => rfl); (case hr => first | (go_simp; done) | (go_simp; rfl)); (case hp => exact (Reps.one (show Kd.M (Kd.int .i64) _ _ _ 2 [.int .i64 2] from rfl) (Reps.one (show Kd.M (Kd.int .i64) _ _ _ 2 [.int .i64 2] from rfl) (Reps.one (show Kd.M (Kd.int .i64) _ _ _ 1 [.int .i64 1] from rfl) (Reps.none _ _))))); intro v116 w9 ho10 hb hg_ hnew_; clear hg_ hnew_; (first | rw [← Ny115.out] at ho10 | (simp only [Int.reduceToNat] at ho10; rw [← Ny115.out] at ho10)); have HO117 := AM (Kd.R_lower ho10 (below_size (pH HB))); replace HB := AM (below_step (pH HB) hb); clear hb ho10) | ((with_reducible refine gate_dst (N := 36) rfl ?_); refine Kd.R_lit (Kd.int .i64) _ 3 ?hg (N := 36) ?hd (xs := ([40, 40, 4] : List Int)) (inner := [.int .i64 40, .int .i64 40, .int .i64 4]) (ok := fun _ => True) (okp := fun _ => True) ?hr ?hp (fun _ hk => hk) trivial (Below.refl _ _) (Nat.le_refl _) (by simp) ?_; (case hd => rfl); (case hg => rfl); (case hr => first | (go_simp; done) | (go_simp; rfl)); (case hp => exact (Reps.one (show Kd.M (Kd.int .i64) _ _ _ 40 [.int .i64 40] from rfl) (Reps.one (show Kd.M (Kd.int .i64) _ _ _ 40 [.int .i64 40] from rfl) (Reps.one (show Kd.M (Kd.int .i64) _ _ _ 4 [.int .i64 4] from rfl) (Reps.none _ _))))); intro v119 w11 ho12 hb hg_ hnew_; clear hg_ hnew_; (first | rw [← Ny118.out] at ho12 | (simp only [Int.reduceToNat] at ho12; rw [← Ny118.out] at ho12)); have HO120 := AM (Kd.R_lower (Kd.R_new' ho12 (Kd.R_lt (pR HO117))) (below_size (pH HB))); replace HO117 := AM (Kd.R_elder' (pR HO117) (Kd.R_base ho12) hb); replace HB := AM (below_step (pH HB) hb); clear hb ho12))
   repeat (go_quiet (first | ((with_reducible refine gate_dst (N := 35) rfl ?_); refine Kd.R_lit (Kd.int .i64) _ 3 ?hg (N := 35) ?hd (xs := ([2, 2, 1] : List Int)) (inner := [.int .i64 2, .int .i64 2, .int .i64 1]) (ok := fun _ => True) (okp := fun _ => True) ?hr ?hp (fun _ hk => hk) trivial (Below.refl _ _) (Nat.le_refl _) (by simp) ?_; (case hd => rfl); (case hg => rfl); (case hr => first | (go_simp; done) | (go_simp; rfl)); (case hp => exact (Reps.one (show Kd.M (Kd.int .i64) _ _ _ 2 [.int .i64 2] from rfl) (Reps.one (show Kd.M (Kd.int .i64) _ _ _ 2 [.int .i64 2] from rfl) (Reps.one (show Kd.M (Kd.int .i64) _ _ _ 1 [.int .i64 1] from rfl) (Reps.none _ _))))); intro v116 w9 ho10 hb hg_ hnew_; clear hg_ hnew_; (first | rw [← Ny115.out] at ho10 | (simp only [Int.reduceToNat] at ho10; rw [← Ny115.out] at ho10)); have HO117 := AM (Kd.R_lower ho10 (below_size (pH HB))); replace HB := AM (below_step (pH HB) hb); clear hb ho10) | ((with_reducible refine gate_dst (N := 36) rfl ?_); refine Kd.R_lit (Kd.int .i64) _ 3 ?hg (N := 36) ?hd (xs := ([40, 40, 4] : List Int)) (inner := [.int .i64 40, .int .i64 40, .int .i64 4]) (ok := fun _ => True) (okp := fun _ => True) ?hr ?hp (fun _ hk => hk) trivial (Below.refl _ _) (Nat.le_refl _) (by simp) ?_; (case hd => rfl); (case hg => rfl); (case hr => first | (go_simp; done) | (go_simp; rfl)); (case hp => exact (Reps.one (show Kd.M (Kd.int .i64) _ _ _ 40 [.int .i64 40] from rfl) (Reps.one (show Kd.M (Kd.int .i64) _ _ _ 40 [.int .i64 40] from rfl) (Reps.one (show Kd.M (Kd.int .i64) _ _ _ 4 [.int .i64 4] from rfl) (Reps.none _ _))))); intro v119 w11 ho12 hb hg_ hnew_; clear hg_ hnew_; (first | rw [← Ny118.out] at ho12 | (simp only [Int.reduceToNat] at ho12; rw [← Ny118.out] at ho12)); have HO120 := AM (Kd.R_lower (Kd.R_new' ho12 (Kd.R_lt (pR HO117))) (below_size (pH HB))); replace HO117 := AM (Kd.R_elder' (pR HO117) (Kd.R_base ho12) hb); replace HB := AM (below_step (pH HB) hb); clear hb ho12)); try go_wp2_with (first | ((with_reducible refine gate_dst (N := 35) rfl ?_); refine Kd.R_lit (Kd.int .i64) _ 3 ?hg (N := 35) ?hd (xs := ([2, 2, 1] : List Int)) (inner := [.int .i64 2, .int .i64 2, .int .i64 1]) (ok := fun _ => True) (okp := fun _ => True) ?hr ?hp (fun _ hk => hk) trivial (Below.refl _ _) (Nat.le_refl _) (by simp) ?_; (case hd => rfl); (case hg => rfl); (case hr => first | (go_simp; done) | (go_simp; rfl)); (case hp => exact (Reps.one (show Kd.M (Kd.int .i64) _ _ _ 2 [.int .i64 2] from rfl) (Reps.one (show Kd.M (Kd.int .i64) _ _ _ 2 [.int .i64 2] from rfl) (Reps.one (show Kd.M (Kd.int .i64) _ _ _ 1 [.int .i64 1] from rfl) (Reps.none _ _))))); intro v116 w9 ho10 hb hg_ hnew_; clear hg_ hnew_; (first | rw [← Ny115.out] at ho10 | (simp only [Int.reduceToNat] at ho10; rw [← Ny115.out] at ho10)); have HO117 := AM (Kd.R_lower ho10 (below_size (pH HB))); replace HB := AM (below_step (pH HB) hb); clear hb ho10) | ((with_reducible refine gate_dst (N := 36) rfl ?_); refine Kd.R_lit (Kd.int .i64) _ 3 ?hg (N := 36) ?hd (xs := ([40, 40, 4] : List Int)) (inner := [.int .i64 40, .int .i64 40, .int .i64 4]) (ok := fun _ => True) (okp := fun _ => True) ?hr ?hp (fun _ hk => hk) trivial (Below.refl _ _) (Nat.le_refl _) (by simp) ?_; (case hd => rfl); (case hg => rfl); (case hr => first | (go_simp; done) | (go_simp; rfl)); (case hp => exact (Reps.one (show Kd.M (Kd.int .i64) _ _ _ 40 [.int .i64 40] from rfl) (Reps.one (show Kd.M (Kd.int .i64) _ _ _ 40 [.int .i64 40] from rfl) (Reps.one (show Kd.M (Kd.int .i64) _ _ _ 4 [.int .i64 4] from rfl) (Reps.none _ _))))); intro v119 w11 ho12 hb hg_ hnew_; clear hg_ hnew_; (first | rw [← Ny118.out] at ho12 | (simp only [Int.reduceToNat] at ho12; rw [← Ny118.out] at ho12)); have HO120 := AM (Kd.R_lower (Kd.R_new' ho12 (Kd.R_lt (pR HO117))) (below_size (pH HB))); replace HO117 := AM (Kd.R_elder' (pR HO117) (Kd.R_base ho12) hb); replace HB := AM (below_step (pH HB) hb); clear hb ho12)))
   go_loopg [8, 9, 10] k1 (fun kq v8 v9 v10 w' => ∃ (x8_2 : List Int) (x9_2 : Int) (x10_2 : Int), v9 = .int .i64 x9_2 ∧ v10 = .int .i64 x10_2 ∧ Aside0 (spec_l6fault.l1 kq l0 y115 y118 x8_2 x9_2 x10_2 = some (r1, r2)) ∧ Aside0 (kq ≤ k1) ∧ Aside0 (Kd.R (Kd.int .i64) 3 w' w.heap.size (fun k_ => some k_ ≠ (v119 : Value).ownBlock ∧ some k_ ≠ (v8 : Value).ownBlock) v116 y115) ∧ Aside0 (Kd.R (Kd.int .i64) 3 w' w.heap.size (fun k_ => some k_ ≠ (v116 : Value).ownBlock ∧ some k_ ≠ (v8 : Value).ownBlock) v119 y118) ∧ Aside0 (Kd.R (Kd.int .i64) 3 w' w.heap.size (fun k_ => some k_ ≠ (v116 : Value).ownBlock ∧ some k_ ≠ (v119 : Value).ownBlock) v8 x8_2) ∧ Aside0 (Below w.heap.size w w'))
   case atStart => exact ⟨(([] : List Int)), (4), (0), eR, eR, H', ⟨Nat.le_refl _⟩, ⟨by (with_reducible repeat (first | apply Kd.R_alloc | apply Kd.R_drewN | apply Kd.R_drew)); exact Kd.R_mono HO117.out (fun _ hk => ⟨hk.2, (by simp [Value.ownBlock])⟩)⟩, ⟨by (with_reducible repeat (first | apply Kd.R_alloc | apply Kd.R_drewN | apply Kd.R_drew)); exact Kd.R_mono HO120.out (fun _ hk => ⟨hk.2, (by simp [Value.ownBlock])⟩)⟩, ⟨by first | exact Kd.R_nil _ _ _ _ _ | exact Kd.N_nil _ _ _ _ _ | exact Kd.V_nil _ _ _ _ _ | exact Kd.Q_nil _ _ _ _ _ | exact Kd.S_nil _ _ _ _ _⟩, ⟨pH HB⟩⟩
   case round =>
    clear H'
    try clear p1
    try clear q1
    try clear hx1
    try clear c2
    try clear c2b0
    try clear p2
    try clear c3
    try clear c3b0
    try clear c4
    try clear c4b0
    try clear c5
    try clear c5b0
    try clear c6
    try clear c6b0
    try clear p6
    try clear p7
    try clear q7
    try clear hx7
    try clear c8
    try clear c8b0
    try clear c8b1
    try clear p11
    try clear q11
    try clear hx11
    try clear hx114_0
    try clear p114
    try clear p7
    try clear q114
    try clear q7
    obtain ⟨x8_2, x9_2, x10_2, rfl, rfl, HA, HK2, HO_6, HO_7, HO_8, HB⟩ := hrel
    cases gk with
    | zero => exact absurd HA.out (by simp [spec_l6fault.l1])
    | succ k2 =>
     have H := HA.out; clear HA
     simp only [spec_l6fault.l1] at H
     by_cases c13 : x10_2 < 3
     · rw [if_pos c13] at H
       have c13b0 : decide (x10_2 < 3) = true := decide_eq_true c13
       clear c13
       by_cases c14 : 0 ≤ x10_2
       rotate_left
       · rw [if_neg c14] at H
         exact absurd H (by simp)
       rw [if_pos c14] at H
       have c14b0 : decide (0 ≤ x10_2) = true := decide_eq_true c14
       clear c14
       by_cases c15 : x10_2 < (y115.length : Int)
       rotate_left
       · rw [if_neg c15] at H
         exact absurd H (by simp)
       rw [if_pos c15] at H
       have c15b0 : decide (x10_2 < (y115.length : Int)) = true := decide_eq_true c15
       clear c15
       replace H := Option.bind_eq_some_iff.mp H
       obtain ⟨t122, A160, H⟩ := H
       (try dsimp only at H)
       have A16 := AM A160; clear A160
       by_cases c17 : t122 < 0
       · rw [if_pos c17] at H
         have c17b0 : decide (t122 < 0) = true := decide_eq_true c17
         clear c17
         simp only [Option.some.injEq, Prod.mk.injEq] at H
         obtain ⟨rfl, rfl⟩ := H
         obtain ⟨Ao18, co18, eo18⟩ := Kd.R_slice HO_6.out
         subst eo18
         have p121 : 0 ≤ (x10_2 : Int) := dT
         have q121 : x10_2 < (y115.length : Int) := dT
         obtain ⟨ad121, e121, hx121_0⟩ := Kd.at_int (Kd.R_reads' HO_6.out).2.2 x10_2 p121 q121
         cases e121
         replace p121 := eq_true p121; replace q121 := eq_true q121
         go_wp2_with (first | (go_at_call 32; (with_reducible refine (spec_l6number.calls k2 _ _ l0 x9_2 (rd y115 x10_2) t122 _ ?side1 ?side2 A16.out).mono ?_); (case side1 => exact cB HR0 HB); (case side2 => exact HC0.out); rintro e w' ⟨rfl, ⟨nd, rfl⟩⟩; (try first | exact ⟨rfl, _, World.drewN_drewN _ _ _⟩ | exact ⟨rfl, _, Eq.trans (World.drewN_drewN _ _ _) (congrArg (World.drewN _) (Nat.add_assoc _ _ _))⟩)))
         repeat (go_quiet (first | (go_at_call 32; (with_reducible refine (spec_l6number.calls k2 _ _ l0 x9_2 (rd y115 x10_2) t122 _ ?side1 ?side2 A16.out).mono ?_); (case side1 => exact cB HR0 HB); (case side2 => exact HC0.out); rintro e w' ⟨rfl, ⟨nd, rfl⟩⟩; (try first | exact ⟨rfl, _, World.drewN_drewN _ _ _⟩ | exact ⟨rfl, _, Eq.trans (World.drewN_drewN _ _ _) (congrArg (World.drewN _) (Nat.add_assoc _ _ _))⟩))); try go_wp2_with (first | (go_at_call 32; (with_reducible refine (spec_l6number.calls k2 _ _ l0 x9_2 (rd y115 x10_2) t122 _ ?side1 ?side2 A16.out).mono ?_); (case side1 => exact cB HR0 HB); (case side2 => exact HC0.out); rintro e w' ⟨rfl, ⟨nd, rfl⟩⟩; (try first | exact ⟨rfl, _, World.drewN_drewN _ _ _⟩ | exact ⟨rfl, _, Eq.trans (World.drewN_drewN _ _ _) (congrArg (World.drewN _) (Nat.add_assoc _ _ _))⟩))))
         go_ret2
         exact ⟨eW, pH HB⟩
       rw [if_neg c17] at H
       have c17b0 : decide (t122 < 0) = false := decide_eq_false c17
       clear c17
       by_cases c19 : x10_2 < (y118.length : Int)
       rotate_left
       · rw [if_neg c19] at H
         exact absurd H (by simp)
       rw [if_pos c19] at H
       have c19b0 : decide (x10_2 < (y118.length : Int)) = true := decide_eq_true c19
       clear c19
       by_cases c20 : t122 > (rd y118 x10_2)
       · rw [if_pos c20] at H
         have c20b0 : decide ((rd y118 x10_2) < t122) = true := decide_eq_true c20
         clear c20
         simp only [Option.some.injEq, Prod.mk.injEq] at H
         obtain ⟨rfl, rfl⟩ := H
         obtain ⟨Ao21, co21, eo21⟩ := Kd.R_slice HO_6.out
         subst eo21
         have p121 : 0 ≤ (x10_2 : Int) := dT
         have q121 : x10_2 < (y115.length : Int) := dT
         obtain ⟨ad121, e121, hx121_0⟩ := Kd.at_int (Kd.R_reads' HO_6.out).2.2 x10_2 p121 q121
         cases e121
         replace p121 := eq_true p121; replace q121 := eq_true q121
         go_wp2_with (first | (go_at_call 32; (with_reducible refine (spec_l6number.calls k2 _ _ l0 x9_2 (rd y115 x10_2) t122 _ ?side1 ?side2 A16.out).mono ?_); (case side1 => exact cB HR0 HB); (case side2 => exact HC0.out); rintro e w' ⟨rfl, ⟨nd, rfl⟩⟩; (try first | exact ⟨rfl, _, World.drewN_drewN _ _ _⟩ | exact ⟨rfl, _, Eq.trans (World.drewN_drewN _ _ _) (congrArg (World.drewN _) (Nat.add_assoc _ _ _))⟩); obtain ⟨Ao22, co22, eo22⟩ := Kd.R_slice HO_7.out; subst eo22; have p123 : 0 ≤ (x10_2 : Int) := dT; have q123 : x10_2 < (y118.length : Int) := dT; obtain ⟨ad123, e123, hx123_0⟩ := Kd.at_int (Kd.R_reads' HO_7.out).2.2 x10_2 p123 q123; cases e123; replace p123 := eq_true p123; replace q123 := eq_true q123))
         repeat (go_quiet (first | (go_at_call 32; (with_reducible refine (spec_l6number.calls k2 _ _ l0 x9_2 (rd y115 x10_2) t122 _ ?side1 ?side2 A16.out).mono ?_); (case side1 => exact cB HR0 HB); (case side2 => exact HC0.out); rintro e w' ⟨rfl, ⟨nd, rfl⟩⟩; (try first | exact ⟨rfl, _, World.drewN_drewN _ _ _⟩ | exact ⟨rfl, _, Eq.trans (World.drewN_drewN _ _ _) (congrArg (World.drewN _) (Nat.add_assoc _ _ _))⟩); obtain ⟨Ao22, co22, eo22⟩ := Kd.R_slice HO_7.out; subst eo22; have p123 : 0 ≤ (x10_2 : Int) := dT; have q123 : x10_2 < (y118.length : Int) := dT; obtain ⟨ad123, e123, hx123_0⟩ := Kd.at_int (Kd.R_reads' HO_7.out).2.2 x10_2 p123 q123; cases e123; replace p123 := eq_true p123; replace q123 := eq_true q123)); try go_wp2_with (first | (go_at_call 32; (with_reducible refine (spec_l6number.calls k2 _ _ l0 x9_2 (rd y115 x10_2) t122 _ ?side1 ?side2 A16.out).mono ?_); (case side1 => exact cB HR0 HB); (case side2 => exact HC0.out); rintro e w' ⟨rfl, ⟨nd, rfl⟩⟩; (try first | exact ⟨rfl, _, World.drewN_drewN _ _ _⟩ | exact ⟨rfl, _, Eq.trans (World.drewN_drewN _ _ _) (congrArg (World.drewN _) (Nat.add_assoc _ _ _))⟩); obtain ⟨Ao22, co22, eo22⟩ := Kd.R_slice HO_7.out; subst eo22; have p123 : 0 ≤ (x10_2 : Int) := dT; have q123 : x10_2 < (y118.length : Int) := dT; obtain ⟨ad123, e123, hx123_0⟩ := Kd.at_int (Kd.R_reads' HO_7.out).2.2 x10_2 p123 q123; cases e123; replace p123 := eq_true p123; replace q123 := eq_true q123)))
         go_ret2
         exact ⟨eW, pH HB⟩
       rw [if_neg c20] at H
       have c20b0 : decide ((rd y118 x10_2) < t122) = false := decide_eq_false c20
       clear c20
       by_cases c23 : x8_2.length < 17592186044416
       rotate_left
       · rw [if_neg c23] at H
         exact absurd H (by simp)
       rw [if_pos c23] at H
       have LMc23 := AM c23; clear c23
       obtain ⟨y124, hy124⟩ : ∃ y_ : List Int, y_ = (x8_2 ++ [t122]) := ⟨_, rfl⟩
       replace H : (spec_l6fault.l1 k2 l0 y115 y118 y124 (wrap64 (x9_2 + (rd y115 x10_2))) (wrap64 (x10_2 + 1))) = some (r1, r2) := by first | (rw [hy124]; with_reducible exact H) | (have H2_ := (Option.bind_some _ _).symm.trans H; rw [hy124]; with_reducible exact H2_) | (have H2_ := (Option.bind_some _ _).symm.trans H; with_reducible exact H2_) | with_reducible exact H | (rw [hy124]; exact H) | exact H
       have Ny124 := AM hy124; clear hy124
       have H' := AM H
       clear H
       obtain ⟨Ao24, co24, eo24⟩ := Kd.R_slice HO_6.out
       subst eo24
       have p121 : 0 ≤ (x10_2 : Int) := dT
       have q121 : x10_2 < (y115.length : Int) := dT
       obtain ⟨ad121, e121, hx121_0⟩ := Kd.at_int (Kd.R_reads' HO_6.out).2.2 x10_2 p121 q121
       cases e121
       replace p121 := eq_true p121; replace q121 := eq_true q121
       go_wp2_with (first | (go_at_call 32; (with_reducible refine (spec_l6number.calls k2 _ _ l0 x9_2 (rd y115 x10_2) t122 _ ?side1 ?side2 A16.out).mono ?_); (case side1 => exact cB HR0 HB); (case side2 => exact HC0.out); rintro e w' ⟨rfl, ⟨nd, rfl⟩⟩; (try first | exact ⟨rfl, _, World.drewN_drewN _ _ _⟩ | exact ⟨rfl, _, Eq.trans (World.drewN_drewN _ _ _) (congrArg (World.drewN _) (Nat.add_assoc _ _ _))⟩); obtain ⟨Ao25, co25, eo25⟩ := Kd.R_slice HO_7.out; subst eo25; have p123 : 0 ≤ (x10_2 : Int) := dT; have q123 : x10_2 < (y118.length : Int) := dT; obtain ⟨ad123, e123, hx123_0⟩ := Kd.at_int (Kd.R_reads' HO_7.out).2.2 x10_2 p123 q123; cases e123; replace p123 := eq_true p123; replace q123 := eq_true q123) | ((with_reducible refine gate_builtin (b := .append) (xs := #[.tmp 59, .tmp 61]) rfl ?_); at_builtin; refine Kd.R_append (Kd.int .i64) (w0 := w) w.heap.size rfl (.tmp 59) (.tmp 61) 49 3 (.int .i64 0) 8 rfl Tryd.underlying49 info3 rfl (by decide) (by omega) u8 x8_2 t122 [.int .i64 t122] (fun k_ => some k_ ≠ (.slice (some ad121) y115.length co24 : Value).ownBlock ∧ some k_ ≠ (.slice (some ad123) y118.length co25 : Value).ownBlock) (fun _ => False) rfl rfl ?aP (fun _ hk => hk.elim) ?aF ?aO ?aB ?aS ?aL ?_; (case aP => exact rfl); (case aB => exact (pH HB)); (case aF => exact (fun k_ hk => ⟨Kd.fresh' (Kd.R_lt (pR HO_6)) k_ hk, Kd.fresh' (Kd.R_lt (pR HO_7)) k_ hk⟩)); (case aO => exact (pR HO_8)); (case aS => exact (below_size (pH HB))); (case aL => have := LMc23.out; omega); intro v125 w26 ho hb hg hat; rw [← Ny124.out] at ho; replace HO_6 := AM (Kd.R_after (ok := (fun k_ => some k_ ≠ (.slice (some ad123) y118.length co25 : Value).ownBlock)) (pR HO_6) hg hat); replace HO_7 := AM (Kd.R_after (ok := (fun k_ => some k_ ≠ (.slice (some ad121) y115.length co24 : Value).ownBlock)) (pR HO_7) hg hat); replace HB := AM (hb); have HO126 := AM (ho); clear HO_8; clear ho hb hg hat; have p127 : 0 ≤ (x10_2 : Int) := dT; have q127 : x10_2 < (y115.length : Int) := dT; obtain ⟨ad127, e127, hx127_0⟩ := Kd.at_int (Kd.R_reads' HO_6.out).2.2 x10_2 p127 q127; obtain rfl : ad121 = ad127 := (by injection e127); replace p127 := eq_true p127; replace q127 := eq_true q127))
       repeat (go_quiet (first | (go_at_call 32; (with_reducible refine (spec_l6number.calls k2 _ _ l0 x9_2 (rd y115 x10_2) t122 _ ?side1 ?side2 A16.out).mono ?_); (case side1 => exact cB HR0 HB); (case side2 => exact HC0.out); rintro e w' ⟨rfl, ⟨nd, rfl⟩⟩; (try first | exact ⟨rfl, _, World.drewN_drewN _ _ _⟩ | exact ⟨rfl, _, Eq.trans (World.drewN_drewN _ _ _) (congrArg (World.drewN _) (Nat.add_assoc _ _ _))⟩); obtain ⟨Ao25, co25, eo25⟩ := Kd.R_slice HO_7.out; subst eo25; have p123 : 0 ≤ (x10_2 : Int) := dT; have q123 : x10_2 < (y118.length : Int) := dT; obtain ⟨ad123, e123, hx123_0⟩ := Kd.at_int (Kd.R_reads' HO_7.out).2.2 x10_2 p123 q123; cases e123; replace p123 := eq_true p123; replace q123 := eq_true q123) | ((with_reducible refine gate_builtin (b := .append) (xs := #[.tmp 59, .tmp 61]) rfl ?_); at_builtin; refine Kd.R_append (Kd.int .i64) (w0 := w) w.heap.size rfl (.tmp 59) (.tmp 61) 49 3 (.int .i64 0) 8 rfl Tryd.underlying49 info3 rfl (by decide) (by omega) u8 x8_2 t122 [.int .i64 t122] (fun k_ => some k_ ≠ (.slice (some ad121) y115.length co24 : Value).ownBlock ∧ some k_ ≠ (.slice (some ad123) y118.length co25 : Value).ownBlock) (fun _ => False) rfl rfl ?aP (fun _ hk => hk.elim) ?aF ?aO ?aB ?aS ?aL ?_; (case aP => exact rfl); (case aB => exact (pH HB)); (case aF => exact (fun k_ hk => ⟨Kd.fresh' (Kd.R_lt (pR HO_6)) k_ hk, Kd.fresh' (Kd.R_lt (pR HO_7)) k_ hk⟩)); (case aO => exact (pR HO_8)); (case aS => exact (below_size (pH HB))); (case aL => have := LMc23.out; omega); intro v125 w26 ho hb hg hat; rw [← Ny124.out] at ho; replace HO_6 := AM (Kd.R_after (ok := (fun k_ => some k_ ≠ (.slice (some ad123) y118.length co25 : Value).ownBlock)) (pR HO_6) hg hat); replace HO_7 := AM (Kd.R_after (ok := (fun k_ => some k_ ≠ (.slice (some ad121) y115.length co24 : Value).ownBlock)) (pR HO_7) hg hat); replace HB := AM (hb); have HO126 := AM (ho); clear HO_8; clear ho hb hg hat; have p127 : 0 ≤ (x10_2 : Int) := dT; have q127 : x10_2 < (y115.length : Int) := dT; obtain ⟨ad127, e127, hx127_0⟩ := Kd.at_int (Kd.R_reads' HO_6.out).2.2 x10_2 p127 q127; obtain rfl : ad121 = ad127 := (by injection e127); replace p127 := eq_true p127; replace q127 := eq_true q127)); try go_wp2_with (first | (go_at_call 32; (with_reducible refine (spec_l6number.calls k2 _ _ l0 x9_2 (rd y115 x10_2) t122 _ ?side1 ?side2 A16.out).mono ?_); (case side1 => exact cB HR0 HB); (case side2 => exact HC0.out); rintro e w' ⟨rfl, ⟨nd, rfl⟩⟩; (try first | exact ⟨rfl, _, World.drewN_drewN _ _ _⟩ | exact ⟨rfl, _, Eq.trans (World.drewN_drewN _ _ _) (congrArg (World.drewN _) (Nat.add_assoc _ _ _))⟩); obtain ⟨Ao25, co25, eo25⟩ := Kd.R_slice HO_7.out; subst eo25; have p123 : 0 ≤ (x10_2 : Int) := dT; have q123 : x10_2 < (y118.length : Int) := dT; obtain ⟨ad123, e123, hx123_0⟩ := Kd.at_int (Kd.R_reads' HO_7.out).2.2 x10_2 p123 q123; cases e123; replace p123 := eq_true p123; replace q123 := eq_true q123) | ((with_reducible refine gate_builtin (b := .append) (xs := #[.tmp 59, .tmp 61]) rfl ?_); at_builtin; refine Kd.R_append (Kd.int .i64) (w0 := w) w.heap.size rfl (.tmp 59) (.tmp 61) 49 3 (.int .i64 0) 8 rfl Tryd.underlying49 info3 rfl (by decide) (by omega) u8 x8_2 t122 [.int .i64 t122] (fun k_ => some k_ ≠ (.slice (some ad121) y115.length co24 : Value).ownBlock ∧ some k_ ≠ (.slice (some ad123) y118.length co25 : Value).ownBlock) (fun _ => False) rfl rfl ?aP (fun _ hk => hk.elim) ?aF ?aO ?aB ?aS ?aL ?_; (case aP => exact rfl); (case aB => exact (pH HB)); (case aF => exact (fun k_ hk => ⟨Kd.fresh' (Kd.R_lt (pR HO_6)) k_ hk, Kd.fresh' (Kd.R_lt (pR HO_7)) k_ hk⟩)); (case aO => exact (pR HO_8)); (case aS => exact (below_size (pH HB))); (case aL => have := LMc23.out; omega); intro v125 w26 ho hb hg hat; rw [← Ny124.out] at ho; replace HO_6 := AM (Kd.R_after (ok := (fun k_ => some k_ ≠ (.slice (some ad123) y118.length co25 : Value).ownBlock)) (pR HO_6) hg hat); replace HO_7 := AM (Kd.R_after (ok := (fun k_ => some k_ ≠ (.slice (some ad121) y115.length co24 : Value).ownBlock)) (pR HO_7) hg hat); replace HB := AM (hb); have HO126 := AM (ho); clear HO_8; clear ho hb hg hat; have p127 : 0 ≤ (x10_2 : Int) := dT; have q127 : x10_2 < (y115.length : Int) := dT; obtain ⟨ad127, e127, hx127_0⟩ := Kd.at_int (Kd.R_reads' HO_6.out).2.2 x10_2 p127 q127; obtain rfl : ad121 = ad127 := (by injection e127); replace p127 := eq_true p127; replace q127 := eq_true q127)))
       go_roundg k2
       case measure => have := HK1.out; have := HK2.out; omega
       case rel => exact ⟨(y124), (wrap64 (x9_2 + (rd y115 x10_2))), (wrap64 (x10_2 + 1)), eR, eR, H', ⟨by have := HK1.out; have := HK2.out; omega⟩, ⟨by (with_reducible repeat (first | apply Kd.R_alloc | apply Kd.R_drewN | apply Kd.R_drew)); exact HO_6.out⟩, ⟨by (with_reducible repeat (first | apply Kd.R_alloc | apply Kd.R_drewN | apply Kd.R_drew)); exact HO_7.out⟩, ⟨by (with_reducible repeat (first | apply Kd.R_alloc | apply Kd.R_drewN | apply Kd.R_drew)); exact HO126.out⟩, ⟨pH HB⟩⟩
     rw [if_neg c13] at H
     have c13b0 : decide (x10_2 < 3) = false := decide_eq_false c13
     clear c13
     by_cases c27 : 0 < (x8_2.length : Int)
     rotate_left
     · rw [if_neg c27] at H
       exact absurd H (by simp)

     rw [if_pos c27] at H
     have c27b0 : decide (0 < (x8_2.length : Int)) = true := decide_eq_true c27
     have c27b1 : decide (0 < x8_2.length) = true := decide_eq_true (by omega)
     clear c27
     by_cases c28 : 1 < (x8_2.length : Int)
     rotate_left
     · rw [if_neg c28] at H
       exact absurd H (by simp)
     rw [if_pos c28] at H
     have c28b0 : decide (1 < (x8_2.length : Int)) = true := decide_eq_true c28
     have c28b1 : decide (1 < x8_2.length) = true := decide_eq_true (by omega)
     clear c28
     by_cases c29 : 2 < (x8_2.length : Int)
     rotate_left
     · rw [if_neg c29] at H
       exact absurd H (by simp)
     rw [if_pos c29] at H
     have c29b0 : decide (2 < (x8_2.length : Int)) = true := decide_eq_true c29
     have c29b1 : decide (2 < x8_2.length) = true := decide_eq_true (by omega)
     clear c29
     have H' := AM H
     clear H
     obtain ⟨Ao30, co30, eo30⟩ := Kd.R_slice HO_8.out
     subst eo30
     have p128 : 0 ≤ (0 : Int) := (by omega)
     have q128 : 0 < (x8_2.length : Int) := dT
     obtain ⟨ad128, e128, hx128_0⟩ := Kd.at_int (Kd.R_reads' HO_8.out).2.2 0 p128 q128
     cases e128
     have qi128 : (0 < x8_2.length) = True := eq_true (by omega)
     (try rw [show ((0 : Int)).toNat = 0 from rfl] at hx128_0)
     (try rw [Addr.add_zero'] at hx128_0)
     replace p128 := eq_true p128; replace q128 := eq_true q128
     have p129 : 0 ≤ (1 : Int) := (by omega)
     have q129 : 1 < (x8_2.length : Int) := dT
     obtain ⟨ad129, e129, hx129_0⟩ := Kd.at_int (Kd.R_reads' HO_8.out).2.2 1 p129 q129
     obtain rfl : ad128 = ad129 := (by injection e129)
     (try simp only [show (1 : Int).toNat = 1 from rfl, Nat.reduceMul, Nat.reduceEqDiff, Go.Addr.add, ↓reduceIte] at hx129_0)
     have qi129 : (1 < x8_2.length) = True := eq_true (by omega)
     (try rw [show ((1 : Int)).toNat = 1 from rfl] at hx129_0)
     replace p129 := eq_true p129; replace q129 := eq_true q129
     have p130 : 0 ≤ (2 : Int) := (by omega)
     have q130 : 2 < (x8_2.length : Int) := dT
     obtain ⟨ad130, e130, hx130_0⟩ := Kd.at_int (Kd.R_reads' HO_8.out).2.2 2 p130 q130
     obtain rfl : ad128 = ad130 := (by injection e130)
     (try simp only [show (2 : Int).toNat = 2 from rfl, Nat.reduceMul, Nat.reduceEqDiff, Go.Addr.add, ↓reduceIte] at hx130_0)
     have qi130 : (2 < x8_2.length) = True := eq_true (by omega)
     (try rw [show ((2 : Int)).toNat = 2 from rfl] at hx130_0)
     replace p130 := eq_true p130; replace q130 := eq_true q130
     go_wp2
     repeat (go_quiet (fail); try go_wp2)
     go_loopg [13] k2 (fun kq v13 w' => ∃ (x13_3 : Int), v13 = .int .i64 x13_3 ∧ Aside0 (spec_l6fault.l2 kq l0 x8_2 x9_2 (wrap64 ((wrap64 ((wrap64 (9 * (rd x8_2 0))) + (wrap64 (6 * (rd x8_2 1))))) + (wrap64 (3 * (rd x8_2 2))))) x13_3 = some (r1, r2)) ∧ Aside0 (kq ≤ k2) ∧ Aside0 (Kd.R (Kd.int .i64) 3 w' w.heap.size (fun _ => True) (.slice (some ad128) x8_2.length co30) x8_2) ∧ Aside0 (Below w.heap.size w w'))
     case atStart => exact ⟨(0), eR, H', ⟨Nat.le_refl _⟩, ⟨by (with_reducible repeat (first | apply Kd.R_alloc | apply Kd.R_drewN | apply Kd.R_drew)); exact Kd.R_mono HO_8.out (fun _ hk => trivial)⟩, ⟨pH HB⟩⟩
     case round =>
      clear H'
      try clear c1
      try clear p1
      try clear q1
      try clear hx1
      try clear qi1
      try clear c2
      try clear c2b0
      try clear p2
      try clear c3
      try clear c3b0
      try clear c4
      try clear c4b0
      try clear c5
      try clear c5b0
      try clear c6
      try clear c6b0
      try clear p6
      try clear p7
      try clear q7
      try clear hx7
      try clear c8
      try clear c8b0
      try clear c8b1
      try clear p11
      try clear q11
      try clear hx11
      try clear p12
      try clear q12
      try clear hx12
      try clear qi12
      try clear c13
      try clear c13b0
      try clear p13
      try clear q13
      try clear hx13
      try clear qi13
      try clear c14
      try clear c14b0
      try clear c15
      try clear c15b0
      try clear c17
      try clear c17b0
      try clear c19
      try clear c19b0
      try clear c20
      try clear c20b0
      try clear c23
      try clear c27
      try clear c27b0
      try clear c27b1
      try clear c28
      try clear c28b0
      try clear c28b1
      try clear c29
      try clear c29b0
      try clear c29b1
      try clear hx114_0
      try clear hx121_0
      try clear hx123_0
      try clear hx127_0
      try clear hx128_0
      try clear hx129_0
      try clear hx130_0
      try clear p1
      try clear p11
      try clear p114
      try clear p121
      try clear p123
      try clear p127
      try clear p128
      try clear p129
      try clear p130
      try clear p2
      try clear p6
      try clear p7
      try clear q1
      try clear q11
      try clear q114
      try clear q121
      try clear q123
      try clear q127
      try clear q128
      try clear q129
      try clear q130
      try clear q7
      obtain ⟨x13_3, rfl, HA, HK3, HO_8, HB⟩ := hrel
      cases gk with
      | zero => exact absurd HA.out (by simp [spec_l6fault.l2])
      | succ k3 =>
       have H := HA.out; clear HA
       simp only [spec_l6fault.l2] at H
       by_cases c31 : x13_3 < (wrap64 ((wrap64 ((wrap64 (9 * (rd x8_2 0))) + (wrap64 (6 * (rd x8_2 1))))) + (wrap64 (3 * (rd x8_2 2)))))
       rotate_left
       · rw [if_neg c31] at H
         have c31b0 : decide (x13_3 < (wrap64 ((wrap64 ((wrap64 (9 * (rd x8_2 0))) + (wrap64 (6 * (rd x8_2 1))))) + (wrap64 (3 * (rd x8_2 2)))))) = false := decide_eq_false c31
         clear c31
         by_cases c48 : (l0.length : Int) > (wrap64 (x9_2 + (wrap64 (4 * (wrap64 ((wrap64 ((wrap64 (9 * (rd x8_2 0))) + (wrap64 (6 * (rd x8_2 1))))) + (wrap64 (3 * (rd x8_2 2)))))))))
         · rw [if_pos c48] at H
           have c48b0 : decide ((wrap64 (x9_2 + (wrap64 (4 * (wrap64 ((wrap64 ((wrap64 (9 * (rd x8_2 0))) + (wrap64 (6 * (rd x8_2 1))))) + (wrap64 (3 * (rd x8_2 2))))))))) < (l0.length : Int)) = true := decide_eq_true c48
           clear c48
           simp only [Option.some.injEq, Prod.mk.injEq] at H
           obtain ⟨rfl, rfl⟩ := H
           go_wp2
           repeat (go_quiet (fail); try go_wp2)
           go_ret2
           exact ⟨eW, pH HB⟩
         rw [if_neg c48] at H
         have c48b0 : decide ((wrap64 (x9_2 + (wrap64 (4 * (wrap64 ((wrap64 ((wrap64 (9 * (rd x8_2 0))) + (wrap64 (6 * (rd x8_2 1))))) + (wrap64 (3 * (rd x8_2 2))))))))) < (l0.length : Int)) = false := decide_eq_false c48
         clear c48
         simp only [Option.some.injEq, Prod.mk.injEq] at H
         obtain ⟨rfl, rfl⟩ := H
         go_wp2
         repeat (go_quiet (fail); try go_wp2)
         go_ret2
         exact ⟨eW, pH HB⟩
       rw [if_pos c31] at H
       have c31b0 : decide (x13_3 < (wrap64 ((wrap64 ((wrap64 (9 * (rd x8_2 0))) + (wrap64 (6 * (rd x8_2 1))))) + (wrap64 (3 * (rd x8_2 2)))))) = true := decide_eq_true c31
       clear c31
       replace H := Option.bind_eq_some_iff.mp H
       obtain ⟨t131, A320, H⟩ := H
       (try dsimp only at H)
       have A32 := AM A320; clear A320
       by_cases c33 : t131 < 0
       · rw [if_pos c33] at H
         have c33b0 : decide (t131 < 0) = true := decide_eq_true c33
         clear c33
         simp only [Option.some.injEq, Prod.mk.injEq] at H
         obtain ⟨rfl, rfl⟩ := H
         go_wp2_with (first | (go_at_call 32; (with_reducible refine (spec_l6number.calls k3 _ _ l0 (wrap64 (x9_2 + (wrap64 (4 * x13_3)))) 4 t131 _ ?side1 ?side2 A32.out).mono ?_); (case side1 => exact cB HR0 HB); (case side2 => exact HC0.out); rintro e w' ⟨rfl, ⟨nd, rfl⟩⟩; (try first | exact ⟨rfl, _, World.drewN_drewN _ _ _⟩ | exact ⟨rfl, _, Eq.trans (World.drewN_drewN _ _ _) (congrArg (World.drewN _) (Nat.add_assoc _ _ _))⟩)))
         repeat (go_quiet (first | (go_at_call 32; (with_reducible refine (spec_l6number.calls k3 _ _ l0 (wrap64 (x9_2 + (wrap64 (4 * x13_3)))) 4 t131 _ ?side1 ?side2 A32.out).mono ?_); (case side1 => exact cB HR0 HB); (case side2 => exact HC0.out); rintro e w' ⟨rfl, ⟨nd, rfl⟩⟩; (try first | exact ⟨rfl, _, World.drewN_drewN _ _ _⟩ | exact ⟨rfl, _, Eq.trans (World.drewN_drewN _ _ _) (congrArg (World.drewN _) (Nat.add_assoc _ _ _))⟩))); try go_wp2_with (first | (go_at_call 32; (with_reducible refine (spec_l6number.calls k3 _ _ l0 (wrap64 (x9_2 + (wrap64 (4 * x13_3)))) 4 t131 _ ?side1 ?side2 A32.out).mono ?_); (case side1 => exact cB HR0 HB); (case side2 => exact HC0.out); rintro e w' ⟨rfl, ⟨nd, rfl⟩⟩; (try first | exact ⟨rfl, _, World.drewN_drewN _ _ _⟩ | exact ⟨rfl, _, Eq.trans (World.drewN_drewN _ _ _) (congrArg (World.drewN _) (Nat.add_assoc _ _ _))⟩))))
         go_ret2
         exact ⟨eW, pH HB⟩
       rw [if_neg c33] at H
       have c33b0 : decide (t131 < 0) = false := decide_eq_false c33
       clear c33
       replace H := Option.bind_eq_some_iff.mp H
       obtain ⟨t132, A340, H⟩ := H
       (try dsimp only at H)
       have A34 := AM A340; clear A340
       by_cases c35 : t132 = true
       rotate_left
       · replace c35 := Bool.eq_false_iff.mpr c35
         subst c35
         have H1 : (some (6, wrap64 (x9_2 + (wrap64 (4 * x13_3))))) = some (r1, r2) := by rw [if_neg (show ¬ (false = true) by decide)] at H; exact H
         clear H; have H := H1; clear H1
         simp only [Option.some.injEq, Prod.mk.injEq] at H
         obtain ⟨rfl, rfl⟩ := H
         go_wp2_with (first | (go_at_call 32; (with_reducible refine (spec_l6number.calls k3 _ _ l0 (wrap64 (x9_2 + (wrap64 (4 * x13_3)))) 4 t131 _ ?side1 ?side2 A32.out).mono ?_); (case side1 => exact cB HR0 HB); (case side2 => exact HC0.out); rintro e w' ⟨rfl, ⟨nd, rfl⟩⟩; (try first | exact ⟨rfl, _, World.drewN_drewN _ _ _⟩ | exact ⟨rfl, _, Eq.trans (World.drewN_drewN _ _ _) (congrArg (World.drewN _) (Nat.add_assoc _ _ _))⟩)) | (go_at_call 50; (with_reducible refine (spec_l2finite.calls ((t131) % 4294967296) false _ A34.out).mono ?_); rintro e w' ⟨rfl, ⟨nd, rfl⟩⟩; (try first | exact ⟨rfl, _, World.drewN_drewN _ _ _⟩ | exact ⟨rfl, _, Eq.trans (World.drewN_drewN _ _ _) (congrArg (World.drewN _) (Nat.add_assoc _ _ _))⟩)))
         repeat (go_quiet (first | (go_at_call 32; (with_reducible refine (spec_l6number.calls k3 _ _ l0 (wrap64 (x9_2 + (wrap64 (4 * x13_3)))) 4 t131 _ ?side1 ?side2 A32.out).mono ?_); (case side1 => exact cB HR0 HB); (case side2 => exact HC0.out); rintro e w' ⟨rfl, ⟨nd, rfl⟩⟩; (try first | exact ⟨rfl, _, World.drewN_drewN _ _ _⟩ | exact ⟨rfl, _, Eq.trans (World.drewN_drewN _ _ _) (congrArg (World.drewN _) (Nat.add_assoc _ _ _))⟩)) | (go_at_call 50; (with_reducible refine (spec_l2finite.calls ((t131) % 4294967296) false _ A34.out).mono ?_); rintro e w' ⟨rfl, ⟨nd, rfl⟩⟩; (try first | exact ⟨rfl, _, World.drewN_drewN _ _ _⟩ | exact ⟨rfl, _, Eq.trans (World.drewN_drewN _ _ _) (congrArg (World.drewN _) (Nat.add_assoc _ _ _))⟩))); try go_wp2_with (first | (go_at_call 32; (with_reducible refine (spec_l6number.calls k3 _ _ l0 (wrap64 (x9_2 + (wrap64 (4 * x13_3)))) 4 t131 _ ?side1 ?side2 A32.out).mono ?_); (case side1 => exact cB HR0 HB); (case side2 => exact HC0.out); rintro e w' ⟨rfl, ⟨nd, rfl⟩⟩; (try first | exact ⟨rfl, _, World.drewN_drewN _ _ _⟩ | exact ⟨rfl, _, Eq.trans (World.drewN_drewN _ _ _) (congrArg (World.drewN _) (Nat.add_assoc _ _ _))⟩)) | (go_at_call 50; (with_reducible refine (spec_l2finite.calls ((t131) % 4294967296) false _ A34.out).mono ?_); rintro e w' ⟨rfl, ⟨nd, rfl⟩⟩; (try first | exact ⟨rfl, _, World.drewN_drewN _ _ _⟩ | exact ⟨rfl, _, Eq.trans (World.drewN_drewN _ _ _) (congrArg (World.drewN _) (Nat.add_assoc _ _ _))⟩))))
         go_ret2
         exact ⟨eW, pH HB⟩
       subst c35
       have H1 : (if 0 < (x8_2.length : Int) then (if (wrap64 (x13_3 - (wrap64 (9 * (rd x8_2 0))))) ≥ 0 then (if 1 < (x8_2.length : Int) then (if (wrap64 (x13_3 - (wrap64 (9 * (rd x8_2 0))))) < (wrap64 (6 * (rd x8_2 1))) then (if (Int.tmod (wrap64 (x13_3 - (wrap64 (9 * (rd x8_2 0))))) 6) = 5 then ((spec_l6pointAt.f k3 l0 (wrap64 ((wrap64 (x9_2 + (wrap64 (4 * x13_3)))) - 8))).bind fun bt135 => ((spec_l3noWay.f bt135.1 bt135.2.1 bt135.2.2).bind fun t138 => (if t138 = true then (some (7, wrap64 ((wrap64 (x9_2 + (wrap64 (4 * x13_3)))) - 8))) else (spec_l6fault.l2 k3 l0 x8_2 x9_2 (wrap64 ((wrap64 ((wrap64 (9 * (rd x8_2 0))) + (wrap64 (6 * (rd x8_2 1))))) + (wrap64 (3 * (rd x8_2 2))))) (wrap64 (x13_3 + 1)))))) else (spec_l6fault.l2 k3 l0 x8_2 x9_2 (wrap64 ((wrap64 ((wrap64 (9 * (rd x8_2 0))) + (wrap64 (6 * (rd x8_2 1))))) + (wrap64 (3 * (rd x8_2 2))))) (wrap64 (x13_3 + 1)))) else (spec_l6fault.l2 k3 l0 x8_2 x9_2 (wrap64 ((wrap64 ((wrap64 (9 * (rd x8_2 0))) + (wrap64 (6 * (rd x8_2 1))))) + (wrap64 (3 * (rd x8_2 2))))) (wrap64 (x13_3 + 1)))) else (none)) else (spec_l6fault.l2 k3 l0 x8_2 x9_2 (wrap64 ((wrap64 ((wrap64 (9 * (rd x8_2 0))) + (wrap64 (6 * (rd x8_2 1))))) + (wrap64 (3 * (rd x8_2 2))))) (wrap64 (x13_3 + 1)))) else (none)) = some (r1, r2) := by rw [if_pos rfl] at H; exact H
       clear H; have H := H1; clear H1
       by_cases c36 : 0 < (x8_2.length : Int)
       rotate_left
       · rw [if_neg c36] at H
         exact absurd H (by simp)
       rw [if_pos c36] at H
       have c36b0 : decide (0 < (x8_2.length : Int)) = true := decide_eq_true c36
       have c36b1 : decide (0 < x8_2.length) = true := decide_eq_true (by omega)
       clear c36
       by_cases c37 : (wrap64 (x13_3 - (wrap64 (9 * (rd x8_2 0))))) ≥ 0
       rotate_left
       · rw [if_neg c37] at H
         have c37b0 : decide (0 ≤ (wrap64 (x13_3 - (wrap64 (9 * (rd x8_2 0)))))) = false := decide_eq_false c37
         clear c37
         have H' := AM H
         clear H
         go_wp2_with (first | (go_at_call 32; (with_reducible refine (spec_l6number.calls k3 _ _ l0 (wrap64 (x9_2 + (wrap64 (4 * x13_3)))) 4 t131 _ ?side1 ?side2 A32.out).mono ?_); (case side1 => exact cB HR0 HB); (case side2 => exact HC0.out); rintro e w' ⟨rfl, ⟨nd, rfl⟩⟩; (try first | exact ⟨rfl, _, World.drewN_drewN _ _ _⟩ | exact ⟨rfl, _, Eq.trans (World.drewN_drewN _ _ _) (congrArg (World.drewN _) (Nat.add_assoc _ _ _))⟩)) | (go_at_call 50; (with_reducible refine (spec_l2finite.calls ((t131) % 4294967296) true _ A34.out).mono ?_); rintro e w' ⟨rfl, ⟨nd, rfl⟩⟩; (try first | exact ⟨rfl, _, World.drewN_drewN _ _ _⟩ | exact ⟨rfl, _, Eq.trans (World.drewN_drewN _ _ _) (congrArg (World.drewN _) (Nat.add_assoc _ _ _))⟩); have p133 : 0 ≤ (0 : Int) := (by omega); have q133 : 0 < (x8_2.length : Int) := dT; obtain ⟨ad133, e133, hx133_0⟩ := Kd.at_int (Kd.R_reads' HO_8.out).2.2 0 p133 q133; obtain rfl : ad128 = ad133 := (by injection e133); have qi133 : (0 < x8_2.length) = True := eq_true (by omega); (try rw [show ((0 : Int)).toNat = 0 from rfl] at hx133_0); (try rw [Addr.add_zero'] at hx133_0); replace p133 := eq_true p133; replace q133 := eq_true q133))
         repeat (go_quiet (first | (go_at_call 32; (with_reducible refine (spec_l6number.calls k3 _ _ l0 (wrap64 (x9_2 + (wrap64 (4 * x13_3)))) 4 t131 _ ?side1 ?side2 A32.out).mono ?_); (case side1 => exact cB HR0 HB); (case side2 => exact HC0.out); rintro e w' ⟨rfl, ⟨nd, rfl⟩⟩; (try first | exact ⟨rfl, _, World.drewN_drewN _ _ _⟩ | exact ⟨rfl, _, Eq.trans (World.drewN_drewN _ _ _) (congrArg (World.drewN _) (Nat.add_assoc _ _ _))⟩)) | (go_at_call 50; (with_reducible refine (spec_l2finite.calls ((t131) % 4294967296) true _ A34.out).mono ?_); rintro e w' ⟨rfl, ⟨nd, rfl⟩⟩; (try first | exact ⟨rfl, _, World.drewN_drewN _ _ _⟩ | exact ⟨rfl, _, Eq.trans (World.drewN_drewN _ _ _) (congrArg (World.drewN _) (Nat.add_assoc _ _ _))⟩); have p133 : 0 ≤ (0 : Int) := (by omega); have q133 : 0 < (x8_2.length : Int) := dT; obtain ⟨ad133, e133, hx133_0⟩ := Kd.at_int (Kd.R_reads' HO_8.out).2.2 0 p133 q133; obtain rfl : ad128 = ad133 := (by injection e133); have qi133 : (0 < x8_2.length) = True := eq_true (by omega); (try rw [show ((0 : Int)).toNat = 0 from rfl] at hx133_0); (try rw [Addr.add_zero'] at hx133_0); replace p133 := eq_true p133; replace q133 := eq_true q133)); try go_wp2_with (first | (go_at_call 32; (with_reducible refine (spec_l6number.calls k3 _ _ l0 (wrap64 (x9_2 + (wrap64 (4 * x13_3)))) 4 t131 _ ?side1 ?side2 A32.out).mono ?_); (case side1 => exact cB HR0 HB); (case side2 => exact HC0.out); rintro e w' ⟨rfl, ⟨nd, rfl⟩⟩; (try first | exact ⟨rfl, _, World.drewN_drewN _ _ _⟩ | exact ⟨rfl, _, Eq.trans (World.drewN_drewN _ _ _) (congrArg (World.drewN _) (Nat.add_assoc _ _ _))⟩)) | (go_at_call 50; (with_reducible refine (spec_l2finite.calls ((t131) % 4294967296) true _ A34.out).mono ?_); rintro e w' ⟨rfl, ⟨nd, rfl⟩⟩; (try first | exact ⟨rfl, _, World.drewN_drewN _ _ _⟩ | exact ⟨rfl, _, Eq.trans (World.drewN_drewN _ _ _) (congrArg (World.drewN _) (Nat.add_assoc _ _ _))⟩); have p133 : 0 ≤ (0 : Int) := (by omega); have q133 : 0 < (x8_2.length : Int) := dT; obtain ⟨ad133, e133, hx133_0⟩ := Kd.at_int (Kd.R_reads' HO_8.out).2.2 0 p133 q133; obtain rfl : ad128 = ad133 := (by injection e133); have qi133 : (0 < x8_2.length) = True := eq_true (by omega); (try rw [show ((0 : Int)).toNat = 0 from rfl] at hx133_0); (try rw [Addr.add_zero'] at hx133_0); replace p133 := eq_true p133; replace q133 := eq_true q133)))
         go_roundg k3
         case measure => have := HK1.out; have := HK2.out; have := HK3.out; omega
         case rel => exact ⟨(wrap64 (x13_3 + 1)), eR, H', ⟨by have := HK1.out; have := HK2.out; have := HK3.out; omega⟩, ⟨by (with_reducible repeat (first | apply Kd.R_alloc | apply Kd.R_drewN | apply Kd.R_drew)); exact HO_8.out⟩, ⟨pH HB⟩⟩
       rw [if_pos c37] at H
       have c37b0 : decide (0 ≤ (wrap64 (x13_3 - (wrap64 (9 * (rd x8_2 0)))))) = true := decide_eq_true c37
       clear c37
       by_cases c38 : 1 < (x8_2.length : Int)
       rotate_left
       · rw [if_neg c38] at H
         exact absurd H (by simp)
       rw [if_pos c38] at H
       have c38b0 : decide (1 < (x8_2.length : Int)) = true := decide_eq_true c38
       have c38b1 : decide (1 < x8_2.length) = true := decide_eq_true (by omega)
       clear c38
       by_cases c39 : (wrap64 (x13_3 - (wrap64 (9 * (rd x8_2 0))))) < (wrap64 (6 * (rd x8_2 1)))
       rotate_left
       · rw [if_neg c39] at H
         have c39b0 : decide ((wrap64 (x13_3 - (wrap64 (9 * (rd x8_2 0))))) < (wrap64 (6 * (rd x8_2 1)))) = false := decide_eq_false c39
         clear c39
         have H' := AM H
         clear H
         go_wp2_with (first | (go_at_call 32; (with_reducible refine (spec_l6number.calls k3 _ _ l0 (wrap64 (x9_2 + (wrap64 (4 * x13_3)))) 4 t131 _ ?side1 ?side2 A32.out).mono ?_); (case side1 => exact cB HR0 HB); (case side2 => exact HC0.out); rintro e w' ⟨rfl, ⟨nd, rfl⟩⟩; (try first | exact ⟨rfl, _, World.drewN_drewN _ _ _⟩ | exact ⟨rfl, _, Eq.trans (World.drewN_drewN _ _ _) (congrArg (World.drewN _) (Nat.add_assoc _ _ _))⟩)) | (go_at_call 50; (with_reducible refine (spec_l2finite.calls ((t131) % 4294967296) true _ A34.out).mono ?_); rintro e w' ⟨rfl, ⟨nd, rfl⟩⟩; (try first | exact ⟨rfl, _, World.drewN_drewN _ _ _⟩ | exact ⟨rfl, _, Eq.trans (World.drewN_drewN _ _ _) (congrArg (World.drewN _) (Nat.add_assoc _ _ _))⟩); have p133 : 0 ≤ (0 : Int) := (by omega); have q133 : 0 < (x8_2.length : Int) := dT; obtain ⟨ad133, e133, hx133_0⟩ := Kd.at_int (Kd.R_reads' HO_8.out).2.2 0 p133 q133; obtain rfl : ad128 = ad133 := (by injection e133); have qi133 : (0 < x8_2.length) = True := eq_true (by omega); (try rw [show ((0 : Int)).toNat = 0 from rfl] at hx133_0); (try rw [Addr.add_zero'] at hx133_0); replace p133 := eq_true p133; replace q133 := eq_true q133; have p134 : 0 ≤ (1 : Int) := (by omega); have q134 : 1 < (x8_2.length : Int) := dT; obtain ⟨ad134, e134, hx134_0⟩ := Kd.at_int (Kd.R_reads' HO_8.out).2.2 1 p134 q134; obtain rfl : ad128 = ad134 := (by injection e134); (try simp only [show (1 : Int).toNat = 1 from rfl, Nat.reduceMul, Nat.reduceEqDiff, Go.Addr.add, ↓reduceIte] at hx134_0); have qi134 : (1 < x8_2.length) = True := eq_true (by omega); (try rw [show ((1 : Int)).toNat = 1 from rfl] at hx134_0); replace p134 := eq_true p134; replace q134 := eq_true q134))
         repeat (go_quiet (first | (go_at_call 32; (with_reducible refine (spec_l6number.calls k3 _ _ l0 (wrap64 (x9_2 + (wrap64 (4 * x13_3)))) 4 t131 _ ?side1 ?side2 A32.out).mono ?_); (case side1 => exact cB HR0 HB); (case side2 => exact HC0.out); rintro e w' ⟨rfl, ⟨nd, rfl⟩⟩; (try first | exact ⟨rfl, _, World.drewN_drewN _ _ _⟩ | exact ⟨rfl, _, Eq.trans (World.drewN_drewN _ _ _) (congrArg (World.drewN _) (Nat.add_assoc _ _ _))⟩)) | (go_at_call 50; (with_reducible refine (spec_l2finite.calls ((t131) % 4294967296) true _ A34.out).mono ?_); rintro e w' ⟨rfl, ⟨nd, rfl⟩⟩; (try first | exact ⟨rfl, _, World.drewN_drewN _ _ _⟩ | exact ⟨rfl, _, Eq.trans (World.drewN_drewN _ _ _) (congrArg (World.drewN _) (Nat.add_assoc _ _ _))⟩); have p133 : 0 ≤ (0 : Int) := (by omega); have q133 : 0 < (x8_2.length : Int) := dT; obtain ⟨ad133, e133, hx133_0⟩ := Kd.at_int (Kd.R_reads' HO_8.out).2.2 0 p133 q133; obtain rfl : ad128 = ad133 := (by injection e133); have qi133 : (0 < x8_2.length) = True := eq_true (by omega); (try rw [show ((0 : Int)).toNat = 0 from rfl] at hx133_0); (try rw [Addr.add_zero'] at hx133_0); replace p133 := eq_true p133; replace q133 := eq_true q133; have p134 : 0 ≤ (1 : Int) := (by omega); have q134 : 1 < (x8_2.length : Int) := dT; obtain ⟨ad134, e134, hx134_0⟩ := Kd.at_int (Kd.R_reads' HO_8.out).2.2 1 p134 q134; obtain rfl : ad128 = ad134 := (by injection e134); (try simp only [show (1 : Int).toNat = 1 from rfl, Nat.reduceMul, Nat.reduceEqDiff, Go.Addr.add, ↓reduceIte] at hx134_0); have qi134 : (1 < x8_2.length) = True := eq_true (by omega); (try rw [show ((1 : Int)).toNat = 1 from rfl] at hx134_0); replace p134 := eq_true p134; replace q134 := eq_true q134)); try go_wp2_with (first | (go_at_call 32; (with_reducible refine (spec_l6number.calls k3 _ _ l0 (wrap64 (x9_2 + (wrap64 (4 * x13_3)))) 4 t131 _ ?side1 ?side2 A32.out).mono ?_); (case side1 => exact cB HR0 HB); (case side2 => exact HC0.out); rintro e w' ⟨rfl, ⟨nd, rfl⟩⟩; (try first | exact ⟨rfl, _, World.drewN_drewN _ _ _⟩ | exact ⟨rfl, _, Eq.trans (World.drewN_drewN _ _ _) (congrArg (World.drewN _) (Nat.add_assoc _ _ _))⟩)) | (go_at_call 50; (with_reducible refine (spec_l2finite.calls ((t131) % 4294967296) true _ A34.out).mono ?_); rintro e w' ⟨rfl, ⟨nd, rfl⟩⟩; (try first | exact ⟨rfl, _, World.drewN_drewN _ _ _⟩ | exact ⟨rfl, _, Eq.trans (World.drewN_drewN _ _ _) (congrArg (World.drewN _) (Nat.add_assoc _ _ _))⟩); have p133 : 0 ≤ (0 : Int) := (by omega); have q133 : 0 < (x8_2.length : Int) := dT; obtain ⟨ad133, e133, hx133_0⟩ := Kd.at_int (Kd.R_reads' HO_8.out).2.2 0 p133 q133; obtain rfl : ad128 = ad133 := (by injection e133); have qi133 : (0 < x8_2.length) = True := eq_true (by omega); (try rw [show ((0 : Int)).toNat = 0 from rfl] at hx133_0); (try rw [Addr.add_zero'] at hx133_0); replace p133 := eq_true p133; replace q133 := eq_true q133; have p134 : 0 ≤ (1 : Int) := (by omega); have q134 : 1 < (x8_2.length : Int) := dT; obtain ⟨ad134, e134, hx134_0⟩ := Kd.at_int (Kd.R_reads' HO_8.out).2.2 1 p134 q134; obtain rfl : ad128 = ad134 := (by injection e134); (try simp only [show (1 : Int).toNat = 1 from rfl, Nat.reduceMul, Nat.reduceEqDiff, Go.Addr.add, ↓reduceIte] at hx134_0); have qi134 : (1 < x8_2.length) = True := eq_true (by omega); (try rw [show ((1 : Int)).toNat = 1 from rfl] at hx134_0); replace p134 := eq_true p134; replace q134 := eq_true q134)))
         go_roundg k3
         case measure => have := HK1.out; have := HK2.out; have := HK3.out; omega
         case rel => exact ⟨(wrap64 (x13_3 + 1)), eR, H', ⟨by have := HK1.out; have := HK2.out; have := HK3.out; omega⟩, ⟨by (with_reducible repeat (first | apply Kd.R_alloc | apply Kd.R_drewN | apply Kd.R_drew)); exact HO_8.out⟩, ⟨pH HB⟩⟩
       rw [if_pos c39] at H
       have c39b0 : decide ((wrap64 (x13_3 - (wrap64 (9 * (rd x8_2 0))))) < (wrap64 (6 * (rd x8_2 1)))) = true := decide_eq_true c39
       clear c39
       by_cases c40 : (Int.tmod (wrap64 (x13_3 - (wrap64 (9 * (rd x8_2 0))))) 6) = 5
       rotate_left
       · rw [if_neg c40] at H
         have c40b0 : ((Int.tmod (wrap64 (x13_3 - (wrap64 (9 * (rd x8_2 0))))) 6) == 5) = false := beq_eq_false_iff_ne.mpr c40
         have c40b1 : ((Int.tmod (wrap64 (x13_3 - (wrap64 (9 * (rd x8_2 0))))) 6) != 5) = true := bne_iff_ne.mpr c40
         have H' := AM H
         clear H
         go_wp2_with (first | (go_at_call 32; (with_reducible refine (spec_l6number.calls k3 _ _ l0 (wrap64 (x9_2 + (wrap64 (4 * x13_3)))) 4 t131 _ ?side1 ?side2 A32.out).mono ?_); (case side1 => exact cB HR0 HB); (case side2 => exact HC0.out); rintro e w' ⟨rfl, ⟨nd, rfl⟩⟩; (try first | exact ⟨rfl, _, World.drewN_drewN _ _ _⟩ | exact ⟨rfl, _, Eq.trans (World.drewN_drewN _ _ _) (congrArg (World.drewN _) (Nat.add_assoc _ _ _))⟩)) | (go_at_call 50; (with_reducible refine (spec_l2finite.calls ((t131) % 4294967296) true _ A34.out).mono ?_); rintro e w' ⟨rfl, ⟨nd, rfl⟩⟩; (try first | exact ⟨rfl, _, World.drewN_drewN _ _ _⟩ | exact ⟨rfl, _, Eq.trans (World.drewN_drewN _ _ _) (congrArg (World.drewN _) (Nat.add_assoc _ _ _))⟩); have p133 : 0 ≤ (0 : Int) := (by omega); have q133 : 0 < (x8_2.length : Int) := dT; obtain ⟨ad133, e133, hx133_0⟩ := Kd.at_int (Kd.R_reads' HO_8.out).2.2 0 p133 q133; obtain rfl : ad128 = ad133 := (by injection e133); have qi133 : (0 < x8_2.length) = True := eq_true (by omega); (try rw [show ((0 : Int)).toNat = 0 from rfl] at hx133_0); (try rw [Addr.add_zero'] at hx133_0); replace p133 := eq_true p133; replace q133 := eq_true q133; have p134 : 0 ≤ (1 : Int) := (by omega); have q134 : 1 < (x8_2.length : Int) := dT; obtain ⟨ad134, e134, hx134_0⟩ := Kd.at_int (Kd.R_reads' HO_8.out).2.2 1 p134 q134; obtain rfl : ad128 = ad134 := (by injection e134); (try simp only [show (1 : Int).toNat = 1 from rfl, Nat.reduceMul, Nat.reduceEqDiff, Go.Addr.add, ↓reduceIte] at hx134_0); have qi134 : (1 < x8_2.length) = True := eq_true (by omega); (try rw [show ((1 : Int)).toNat = 1 from rfl] at hx134_0); replace p134 := eq_true p134; replace q134 := eq_true q134))
         repeat (go_quiet (first | (go_at_call 32; (with_reducible refine (spec_l6number.calls k3 _ _ l0 (wrap64 (x9_2 + (wrap64 (4 * x13_3)))) 4 t131 _ ?side1 ?side2 A32.out).mono ?_); (case side1 => exact cB HR0 HB); (case side2 => exact HC0.out); rintro e w' ⟨rfl, ⟨nd, rfl⟩⟩; (try first | exact ⟨rfl, _, World.drewN_drewN _ _ _⟩ | exact ⟨rfl, _, Eq.trans (World.drewN_drewN _ _ _) (congrArg (World.drewN _) (Nat.add_assoc _ _ _))⟩)) | (go_at_call 50; (with_reducible refine (spec_l2finite.calls ((t131) % 4294967296) true _ A34.out).mono ?_); rintro e w' ⟨rfl, ⟨nd, rfl⟩⟩; (try first | exact ⟨rfl, _, World.drewN_drewN _ _ _⟩ | exact ⟨rfl, _, Eq.trans (World.drewN_drewN _ _ _) (congrArg (World.drewN _) (Nat.add_assoc _ _ _))⟩); have p133 : 0 ≤ (0 : Int) := (by omega); have q133 : 0 < (x8_2.length : Int) := dT; obtain ⟨ad133, e133, hx133_0⟩ := Kd.at_int (Kd.R_reads' HO_8.out).2.2 0 p133 q133; obtain rfl : ad128 = ad133 := (by injection e133); have qi133 : (0 < x8_2.length) = True := eq_true (by omega); (try rw [show ((0 : Int)).toNat = 0 from rfl] at hx133_0); (try rw [Addr.add_zero'] at hx133_0); replace p133 := eq_true p133; replace q133 := eq_true q133; have p134 : 0 ≤ (1 : Int) := (by omega); have q134 : 1 < (x8_2.length : Int) := dT; obtain ⟨ad134, e134, hx134_0⟩ := Kd.at_int (Kd.R_reads' HO_8.out).2.2 1 p134 q134; obtain rfl : ad128 = ad134 := (by injection e134); (try simp only [show (1 : Int).toNat = 1 from rfl, Nat.reduceMul, Nat.reduceEqDiff, Go.Addr.add, ↓reduceIte] at hx134_0); have qi134 : (1 < x8_2.length) = True := eq_true (by omega); (try rw [show ((1 : Int)).toNat = 1 from rfl] at hx134_0); replace p134 := eq_true p134; replace q134 := eq_true q134)); try go_wp2_with (first | (go_at_call 32; (with_reducible refine (spec_l6number.calls k3 _ _ l0 (wrap64 (x9_2 + (wrap64 (4 * x13_3)))) 4 t131 _ ?side1 ?side2 A32.out).mono ?_); (case side1 => exact cB HR0 HB); (case side2 => exact HC0.out); rintro e w' ⟨rfl, ⟨nd, rfl⟩⟩; (try first | exact ⟨rfl, _, World.drewN_drewN _ _ _⟩ | exact ⟨rfl, _, Eq.trans (World.drewN_drewN _ _ _) (congrArg (World.drewN _) (Nat.add_assoc _ _ _))⟩)) | (go_at_call 50; (with_reducible refine (spec_l2finite.calls ((t131) % 4294967296) true _ A34.out).mono ?_); rintro e w' ⟨rfl, ⟨nd, rfl⟩⟩; (try first | exact ⟨rfl, _, World.drewN_drewN _ _ _⟩ | exact ⟨rfl, _, Eq.trans (World.drewN_drewN _ _ _) (congrArg (World.drewN _) (Nat.add_assoc _ _ _))⟩); have p133 : 0 ≤ (0 : Int) := (by omega); have q133 : 0 < (x8_2.length : Int) := dT; obtain ⟨ad133, e133, hx133_0⟩ := Kd.at_int (Kd.R_reads' HO_8.out).2.2 0 p133 q133; obtain rfl : ad128 = ad133 := (by injection e133); have qi133 : (0 < x8_2.length) = True := eq_true (by omega); (try rw [show ((0 : Int)).toNat = 0 from rfl] at hx133_0); (try rw [Addr.add_zero'] at hx133_0); replace p133 := eq_true p133; replace q133 := eq_true q133; have p134 : 0 ≤ (1 : Int) := (by omega); have q134 : 1 < (x8_2.length : Int) := dT; obtain ⟨ad134, e134, hx134_0⟩ := Kd.at_int (Kd.R_reads' HO_8.out).2.2 1 p134 q134; obtain rfl : ad128 = ad134 := (by injection e134); (try simp only [show (1 : Int).toNat = 1 from rfl, Nat.reduceMul, Nat.reduceEqDiff, Go.Addr.add, ↓reduceIte] at hx134_0); have qi134 : (1 < x8_2.length) = True := eq_true (by omega); (try rw [show ((1 : Int)).toNat = 1 from rfl] at hx134_0); replace p134 := eq_true p134; replace q134 := eq_true q134)))
         go_roundg k3
         case measure => have := HK1.out; have := HK2.out; have := HK3.out; omega
         case rel => exact ⟨(wrap64 (x13_3 + 1)), eR, H', ⟨by have := HK1.out; have := HK2.out; have := HK3.out; omega⟩, ⟨by (with_reducible repeat (first | apply Kd.R_alloc | apply Kd.R_drewN | apply Kd.R_drew)); exact HO_8.out⟩, ⟨pH HB⟩⟩
       rw [if_pos c40] at H
       have c40b0 : ((Int.tmod (wrap64 (x13_3 - (wrap64 (9 * (rd x8_2 0))))) 6) == 5) = true := beq_iff_eq.mpr c40
       have c40b1 : ((Int.tmod (wrap64 (x13_3 - (wrap64 (9 * (rd x8_2 0))))) 6) != 5) = false := bne_eq_false_iff_eq.mpr c40
       clear c40
       replace H := Option.bind_eq_some_iff.mp H
       obtain ⟨⟨t135, t136, t137⟩, A410, H⟩ := H
       (try dsimp only at H)
       have A41 := AM A410; clear A410
       replace H := Option.bind_eq_some_iff.mp H
       obtain ⟨t138, A420, H⟩ := H
       (try dsimp only at H)
       have A42 := AM A420; clear A420
       by_cases c43 : t138 = true
       · subst c43
         have H1 : (some (7, wrap64 ((wrap64 (x9_2 + (wrap64 (4 * x13_3)))) - 8))) = some (r1, r2) := by rw [if_pos rfl] at H; exact H
         clear H; have H := H1; clear H1
         simp only [Option.some.injEq, Prod.mk.injEq] at H
         obtain ⟨rfl, rfl⟩ := H
         go_wp2_with (first | (go_at_call 32; (with_reducible refine (spec_l6number.calls k3 _ _ l0 (wrap64 (x9_2 + (wrap64 (4 * x13_3)))) 4 t131 _ ?side1 ?side2 A32.out).mono ?_); (case side1 => exact cB HR0 HB); (case side2 => exact HC0.out); rintro e w' ⟨rfl, ⟨nd, rfl⟩⟩; (try first | exact ⟨rfl, _, World.drewN_drewN _ _ _⟩ | exact ⟨rfl, _, Eq.trans (World.drewN_drewN _ _ _) (congrArg (World.drewN _) (Nat.add_assoc _ _ _))⟩)) | (go_at_call 50; (with_reducible refine (spec_l2finite.calls ((t131) % 4294967296) true _ A34.out).mono ?_); rintro e w' ⟨rfl, ⟨nd, rfl⟩⟩; (try first | exact ⟨rfl, _, World.drewN_drewN _ _ _⟩ | exact ⟨rfl, _, Eq.trans (World.drewN_drewN _ _ _) (congrArg (World.drewN _) (Nat.add_assoc _ _ _))⟩); have p133 : 0 ≤ (0 : Int) := (by omega); have q133 : 0 < (x8_2.length : Int) := dT; obtain ⟨ad133, e133, hx133_0⟩ := Kd.at_int (Kd.R_reads' HO_8.out).2.2 0 p133 q133; obtain rfl : ad128 = ad133 := (by injection e133); have qi133 : (0 < x8_2.length) = True := eq_true (by omega); (try rw [show ((0 : Int)).toNat = 0 from rfl] at hx133_0); (try rw [Addr.add_zero'] at hx133_0); replace p133 := eq_true p133; replace q133 := eq_true q133; have p134 : 0 ≤ (1 : Int) := (by omega); have q134 : 1 < (x8_2.length : Int) := dT; obtain ⟨ad134, e134, hx134_0⟩ := Kd.at_int (Kd.R_reads' HO_8.out).2.2 1 p134 q134; obtain rfl : ad128 = ad134 := (by injection e134); (try simp only [show (1 : Int).toNat = 1 from rfl, Nat.reduceMul, Nat.reduceEqDiff, Go.Addr.add, ↓reduceIte] at hx134_0); have qi134 : (1 < x8_2.length) = True := eq_true (by omega); (try rw [show ((1 : Int)).toNat = 1 from rfl] at hx134_0); replace p134 := eq_true p134; replace q134 := eq_true q134) | (go_at_call 33; (with_reducible refine (spec_l6pointAt.calls k3 _ _ l0 (wrap64 ((wrap64 (x9_2 + (wrap64 (4 * x13_3)))) - 8)) t135 t136 t137 _ ?side1 ?side2 A41.out).mono ?_); (case side1 => repeat (first | exact (Kd.C_below HR0.out (pH HB)) | (with_reducible refine Kd.C_alloc ?_ _) | (with_reducible refine Kd.C_drewN ?_ _) | (with_reducible refine Kd.C_drew ?_))); (case side2 => exact HC0.out); rintro e w44 ⟨rfl, hb⟩; replace HO_8 := AM (Kd.R_below (pR HO_8) hb); replace HB := AM (below_step (pH HB) hb); (try clear hb); (try clear hb2); (try clear hk); (try clear hi)) | (go_at_call 51; (with_reducible refine (spec_l3noWay.calls t135 t136 t137 true _ A42.out).mono ?_); rintro e w45 ⟨rfl, hb⟩; replace HO_8 := AM (Kd.R_below (pR HO_8) hb); replace HB := AM (below_step (pH HB) hb); (try clear hb); (try clear hb2); (try clear hk); (try clear hi)))
         repeat (go_quiet (first | (go_at_call 32; (with_reducible refine (spec_l6number.calls k3 _ _ l0 (wrap64 (x9_2 + (wrap64 (4 * x13_3)))) 4 t131 _ ?side1 ?side2 A32.out).mono ?_); (case side1 => exact cB HR0 HB); (case side2 => exact HC0.out); rintro e w' ⟨rfl, ⟨nd, rfl⟩⟩; (try first | exact ⟨rfl, _, World.drewN_drewN _ _ _⟩ | exact ⟨rfl, _, Eq.trans (World.drewN_drewN _ _ _) (congrArg (World.drewN _) (Nat.add_assoc _ _ _))⟩)) | (go_at_call 50; (with_reducible refine (spec_l2finite.calls ((t131) % 4294967296) true _ A34.out).mono ?_); rintro e w' ⟨rfl, ⟨nd, rfl⟩⟩; (try first | exact ⟨rfl, _, World.drewN_drewN _ _ _⟩ | exact ⟨rfl, _, Eq.trans (World.drewN_drewN _ _ _) (congrArg (World.drewN _) (Nat.add_assoc _ _ _))⟩); have p133 : 0 ≤ (0 : Int) := (by omega); have q133 : 0 < (x8_2.length : Int) := dT; obtain ⟨ad133, e133, hx133_0⟩ := Kd.at_int (Kd.R_reads' HO_8.out).2.2 0 p133 q133; obtain rfl : ad128 = ad133 := (by injection e133); have qi133 : (0 < x8_2.length) = True := eq_true (by omega); (try rw [show ((0 : Int)).toNat = 0 from rfl] at hx133_0); (try rw [Addr.add_zero'] at hx133_0); replace p133 := eq_true p133; replace q133 := eq_true q133; have p134 : 0 ≤ (1 : Int) := (by omega); have q134 : 1 < (x8_2.length : Int) := dT; obtain ⟨ad134, e134, hx134_0⟩ := Kd.at_int (Kd.R_reads' HO_8.out).2.2 1 p134 q134; obtain rfl : ad128 = ad134 := (by injection e134); (try simp only [show (1 : Int).toNat = 1 from rfl, Nat.reduceMul, Nat.reduceEqDiff, Go.Addr.add, ↓reduceIte] at hx134_0); have qi134 : (1 < x8_2.length) = True := eq_true (by omega); (try rw [show ((1 : Int)).toNat = 1 from rfl] at hx134_0); replace p134 := eq_true p134; replace q134 := eq_true q134) | (go_at_call 33; (with_reducible refine (spec_l6pointAt.calls k3 _ _ l0 (wrap64 ((wrap64 (x9_2 + (wrap64 (4 * x13_3)))) - 8)) t135 t136 t137 _ ?side1 ?side2 A41.out).mono ?_); (case side1 => repeat (first | exact (Kd.C_below HR0.out (pH HB)) | (with_reducible refine Kd.C_alloc ?_ _) | (with_reducible refine Kd.C_drewN ?_ _) | (with_reducible refine Kd.C_drew ?_))); (case side2 => exact HC0.out); rintro e w44 ⟨rfl, hb⟩; replace HO_8 := AM (Kd.R_below (pR HO_8) hb); replace HB := AM (below_step (pH HB) hb); (try clear hb); (try clear hb2); (try clear hk); (try clear hi)) | (go_at_call 51; (with_reducible refine (spec_l3noWay.calls t135 t136 t137 true _ A42.out).mono ?_); rintro e w45 ⟨rfl, hb⟩; replace HO_8 := AM (Kd.R_below (pR HO_8) hb); replace HB := AM (below_step (pH HB) hb); (try clear hb); (try clear hb2); (try clear hk); (try clear hi))); try go_wp2_with (first | (go_at_call 32; (with_reducible refine (spec_l6number.calls k3 _ _ l0 (wrap64 (x9_2 + (wrap64 (4 * x13_3)))) 4 t131 _ ?side1 ?side2 A32.out).mono ?_); (case side1 => exact cB HR0 HB); (case side2 => exact HC0.out); rintro e w' ⟨rfl, ⟨nd, rfl⟩⟩; (try first | exact ⟨rfl, _, World.drewN_drewN _ _ _⟩ | exact ⟨rfl, _, Eq.trans (World.drewN_drewN _ _ _) (congrArg (World.drewN _) (Nat.add_assoc _ _ _))⟩)) | (go_at_call 50; (with_reducible refine (spec_l2finite.calls ((t131) % 4294967296) true _ A34.out).mono ?_); rintro e w' ⟨rfl, ⟨nd, rfl⟩⟩; (try first | exact ⟨rfl, _, World.drewN_drewN _ _ _⟩ | exact ⟨rfl, _, Eq.trans (World.drewN_drewN _ _ _) (congrArg (World.drewN _) (Nat.add_assoc _ _ _))⟩); have p133 : 0 ≤ (0 : Int) := (by omega); have q133 : 0 < (x8_2.length : Int) := dT; obtain ⟨ad133, e133, hx133_0⟩ := Kd.at_int (Kd.R_reads' HO_8.out).2.2 0 p133 q133; obtain rfl : ad128 = ad133 := (by injection e133); have qi133 : (0 < x8_2.length) = True := eq_true (by omega); (try rw [show ((0 : Int)).toNat = 0 from rfl] at hx133_0); (try rw [Addr.add_zero'] at hx133_0); replace p133 := eq_true p133; replace q133 := eq_true q133; have p134 : 0 ≤ (1 : Int) := (by omega); have q134 : 1 < (x8_2.length : Int) := dT; obtain ⟨ad134, e134, hx134_0⟩ := Kd.at_int (Kd.R_reads' HO_8.out).2.2 1 p134 q134; obtain rfl : ad128 = ad134 := (by injection e134); (try simp only [show (1 : Int).toNat = 1 from rfl, Nat.reduceMul, Nat.reduceEqDiff, Go.Addr.add, ↓reduceIte] at hx134_0); have qi134 : (1 < x8_2.length) = True := eq_true (by omega); (try rw [show ((1 : Int)).toNat = 1 from rfl] at hx134_0); replace p134 := eq_true p134; replace q134 := eq_true q134) | (go_at_call 33; (with_reducible refine (spec_l6pointAt.calls k3 _ _ l0 (wrap64 ((wrap64 (x9_2 + (wrap64 (4 * x13_3)))) - 8)) t135 t136 t137 _ ?side1 ?side2 A41.out).mono ?_); (case side1 => repeat (first | exact (Kd.C_below HR0.out (pH HB)) | (with_reducible refine Kd.C_alloc ?_ _) | (with_reducible refine Kd.C_drewN ?_ _) | (with_reducible refine Kd.C_drew ?_))); (case side2 => exact HC0.out); rintro e w44 ⟨rfl, hb⟩; replace HO_8 := AM (Kd.R_below (pR HO_8) hb); replace HB := AM (below_step (pH HB) hb); (try clear hb); (try clear hb2); (try clear hk); (try clear hi)) | (go_at_call 51; (with_reducible refine (spec_l3noWay.calls t135 t136 t137 true _ A42.out).mono ?_); rintro e w45 ⟨rfl, hb⟩; replace HO_8 := AM (Kd.R_below (pR HO_8) hb); replace HB := AM (below_step (pH HB) hb); (try clear hb); (try clear hb2); (try clear hk); (try clear hi))))
         go_ret2
         exact ⟨eW, pH HB⟩
       replace c43 := Bool.eq_false_iff.mpr c43
       subst c43
       have H1 : (spec_l6fault.l2 k3 l0 x8_2 x9_2 (wrap64 ((wrap64 ((wrap64 (9 * (rd x8_2 0))) + (wrap64 (6 * (rd x8_2 1))))) + (wrap64 (3 * (rd x8_2 2))))) (wrap64 (x13_3 + 1))) = some (r1, r2) := by rw [if_neg (show ¬ (false = true) by decide)] at H; exact H
       clear H; have H := H1; clear H1
       have H' := AM H
       clear H
       go_wp2_with (first | (go_at_call 32; (with_reducible refine (spec_l6number.calls k3 _ _ l0 (wrap64 (x9_2 + (wrap64 (4 * x13_3)))) 4 t131 _ ?side1 ?side2 A32.out).mono ?_); (case side1 => exact cB HR0 HB); (case side2 => exact HC0.out); rintro e w' ⟨rfl, ⟨nd, rfl⟩⟩; (try first | exact ⟨rfl, _, World.drewN_drewN _ _ _⟩ | exact ⟨rfl, _, Eq.trans (World.drewN_drewN _ _ _) (congrArg (World.drewN _) (Nat.add_assoc _ _ _))⟩)) | (go_at_call 50; (with_reducible refine (spec_l2finite.calls ((t131) % 4294967296) true _ A34.out).mono ?_); rintro e w' ⟨rfl, ⟨nd, rfl⟩⟩; (try first | exact ⟨rfl, _, World.drewN_drewN _ _ _⟩ | exact ⟨rfl, _, Eq.trans (World.drewN_drewN _ _ _) (congrArg (World.drewN _) (Nat.add_assoc _ _ _))⟩); have p133 : 0 ≤ (0 : Int) := (by omega); have q133 : 0 < (x8_2.length : Int) := dT; obtain ⟨ad133, e133, hx133_0⟩ := Kd.at_int (Kd.R_reads' HO_8.out).2.2 0 p133 q133; obtain rfl : ad128 = ad133 := (by injection e133); have qi133 : (0 < x8_2.length) = True := eq_true (by omega); (try rw [show ((0 : Int)).toNat = 0 from rfl] at hx133_0); (try rw [Addr.add_zero'] at hx133_0); replace p133 := eq_true p133; replace q133 := eq_true q133; have p134 : 0 ≤ (1 : Int) := (by omega); have q134 : 1 < (x8_2.length : Int) := dT; obtain ⟨ad134, e134, hx134_0⟩ := Kd.at_int (Kd.R_reads' HO_8.out).2.2 1 p134 q134; obtain rfl : ad128 = ad134 := (by injection e134); (try simp only [show (1 : Int).toNat = 1 from rfl, Nat.reduceMul, Nat.reduceEqDiff, Go.Addr.add, ↓reduceIte] at hx134_0); have qi134 : (1 < x8_2.length) = True := eq_true (by omega); (try rw [show ((1 : Int)).toNat = 1 from rfl] at hx134_0); replace p134 := eq_true p134; replace q134 := eq_true q134) | (go_at_call 33; (with_reducible refine (spec_l6pointAt.calls k3 _ _ l0 (wrap64 ((wrap64 (x9_2 + (wrap64 (4 * x13_3)))) - 8)) t135 t136 t137 _ ?side1 ?side2 A41.out).mono ?_); (case side1 => repeat (first | exact (Kd.C_below HR0.out (pH HB)) | (with_reducible refine Kd.C_alloc ?_ _) | (with_reducible refine Kd.C_drewN ?_ _) | (with_reducible refine Kd.C_drew ?_))); (case side2 => exact HC0.out); rintro e w46 ⟨rfl, hb⟩; replace HO_8 := AM (Kd.R_below (pR HO_8) hb); replace HB := AM (below_step (pH HB) hb); (try clear hb); (try clear hb2); (try clear hk); (try clear hi)) | (go_at_call 51; (with_reducible refine (spec_l3noWay.calls t135 t136 t137 false _ A42.out).mono ?_); rintro e w47 ⟨rfl, hb⟩; replace HO_8 := AM (Kd.R_below (pR HO_8) hb); replace HB := AM (below_step (pH HB) hb); (try clear hb); (try clear hb2); (try clear hk); (try clear hi)))
       repeat (go_quiet (first | (go_at_call 32; (with_reducible refine (spec_l6number.calls k3 _ _ l0 (wrap64 (x9_2 + (wrap64 (4 * x13_3)))) 4 t131 _ ?side1 ?side2 A32.out).mono ?_); (case side1 => exact cB HR0 HB); (case side2 => exact HC0.out); rintro e w' ⟨rfl, ⟨nd, rfl⟩⟩; (try first | exact ⟨rfl, _, World.drewN_drewN _ _ _⟩ | exact ⟨rfl, _, Eq.trans (World.drewN_drewN _ _ _) (congrArg (World.drewN _) (Nat.add_assoc _ _ _))⟩)) | (go_at_call 50; (with_reducible refine (spec_l2finite.calls ((t131) % 4294967296) true _ A34.out).mono ?_); rintro e w' ⟨rfl, ⟨nd, rfl⟩⟩; (try first | exact ⟨rfl, _, World.drewN_drewN _ _ _⟩ | exact ⟨rfl, _, Eq.trans (World.drewN_drewN _ _ _) (congrArg (World.drewN _) (Nat.add_assoc _ _ _))⟩); have p133 : 0 ≤ (0 : Int) := (by omega); have q133 : 0 < (x8_2.length : Int) := dT; obtain ⟨ad133, e133, hx133_0⟩ := Kd.at_int (Kd.R_reads' HO_8.out).2.2 0 p133 q133; obtain rfl : ad128 = ad133 := (by injection e133); have qi133 : (0 < x8_2.length) = True := eq_true (by omega); (try rw [show ((0 : Int)).toNat = 0 from rfl] at hx133_0); (try rw [Addr.add_zero'] at hx133_0); replace p133 := eq_true p133; replace q133 := eq_true q133; have p134 : 0 ≤ (1 : Int) := (by omega); have q134 : 1 < (x8_2.length : Int) := dT; obtain ⟨ad134, e134, hx134_0⟩ := Kd.at_int (Kd.R_reads' HO_8.out).2.2 1 p134 q134; obtain rfl : ad128 = ad134 := (by injection e134); (try simp only [show (1 : Int).toNat = 1 from rfl, Nat.reduceMul, Nat.reduceEqDiff, Go.Addr.add, ↓reduceIte] at hx134_0); have qi134 : (1 < x8_2.length) = True := eq_true (by omega); (try rw [show ((1 : Int)).toNat = 1 from rfl] at hx134_0); replace p134 := eq_true p134; replace q134 := eq_true q134) | (go_at_call 33; (with_reducible refine (spec_l6pointAt.calls k3 _ _ l0 (wrap64 ((wrap64 (x9_2 + (wrap64 (4 * x13_3)))) - 8)) t135 t136 t137 _ ?side1 ?side2 A41.out).mono ?_); (case side1 => repeat (first | exact (Kd.C_below HR0.out (pH HB)) | (with_reducible refine Kd.C_alloc ?_ _) | (with_reducible refine Kd.C_drewN ?_ _) | (with_reducible refine Kd.C_drew ?_))); (case side2 => exact HC0.out); rintro e w46 ⟨rfl, hb⟩; replace HO_8 := AM (Kd.R_below (pR HO_8) hb); replace HB := AM (below_step (pH HB) hb); (try clear hb); (try clear hb2); (try clear hk); (try clear hi)) | (go_at_call 51; (with_reducible refine (spec_l3noWay.calls t135 t136 t137 false _ A42.out).mono ?_); rintro e w47 ⟨rfl, hb⟩; replace HO_8 := AM (Kd.R_below (pR HO_8) hb); replace HB := AM (below_step (pH HB) hb); (try clear hb); (try clear hb2); (try clear hk); (try clear hi))); try go_wp2_with (first | (go_at_call 32; (with_reducible refine (spec_l6number.calls k3 _ _ l0 (wrap64 (x9_2 + (wrap64 (4 * x13_3)))) 4 t131 _ ?side1 ?side2 A32.out).mono ?_); (case side1 => exact cB HR0 HB); (case side2 => exact HC0.out); rintro e w' ⟨rfl, ⟨nd, rfl⟩⟩; (try first | exact ⟨rfl, _, World.drewN_drewN _ _ _⟩ | exact ⟨rfl, _, Eq.trans (World.drewN_drewN _ _ _) (congrArg (World.drewN _) (Nat.add_assoc _ _ _))⟩)) | (go_at_call 50; (with_reducible refine (spec_l2finite.calls ((t131) % 4294967296) true _ A34.out).mono ?_); rintro e w' ⟨rfl, ⟨nd, rfl⟩⟩; (try first | exact ⟨rfl, _, World.drewN_drewN _ _ _⟩ | exact ⟨rfl, _, Eq.trans (World.drewN_drewN _ _ _) (congrArg (World.drewN _) (Nat.add_assoc _ _ _))⟩); have p133 : 0 ≤ (0 : Int) := (by omega); have q133 : 0 < (x8_2.length : Int) := dT; obtain ⟨ad133, e133, hx133_0⟩ := Kd.at_int (Kd.R_reads' HO_8.out).2.2 0 p133 q133; obtain rfl : ad128 = ad133 := (by injection e133); have qi133 : (0 < x8_2.length) = True := eq_true (by omega); (try rw [show ((0 : Int)).toNat = 0 from rfl] at hx133_0); (try rw [Addr.add_zero'] at hx133_0); replace p133 := eq_true p133; replace q133 := eq_true q133; have p134 : 0 ≤ (1 : Int) := (by omega); have q134 : 1 < (x8_2.length : Int) := dT; obtain ⟨ad134, e134, hx134_0⟩ := Kd.at_int (Kd.R_reads' HO_8.out).2.2 1 p134 q134; obtain rfl : ad128 = ad134 := (by injection e134); (try simp only [show (1 : Int).toNat = 1 from rfl, Nat.reduceMul, Nat.reduceEqDiff, Go.Addr.add, ↓reduceIte] at hx134_0); have qi134 : (1 < x8_2.length) = True := eq_true (by omega); (try rw [show ((1 : Int)).toNat = 1 from rfl] at hx134_0); replace p134 := eq_true p134; replace q134 := eq_true q134) | (go_at_call 33; (with_reducible refine (spec_l6pointAt.calls k3 _ _ l0 (wrap64 ((wrap64 (x9_2 + (wrap64 (4 * x13_3)))) - 8)) t135 t136 t137 _ ?side1 ?side2 A41.out).mono ?_); (case side1 => repeat (first | exact (Kd.C_below HR0.out (pH HB)) | (with_reducible refine Kd.C_alloc ?_ _) | (with_reducible refine Kd.C_drewN ?_ _) | (with_reducible refine Kd.C_drew ?_))); (case side2 => exact HC0.out); rintro e w46 ⟨rfl, hb⟩; replace HO_8 := AM (Kd.R_below (pR HO_8) hb); replace HB := AM (below_step (pH HB) hb); (try clear hb); (try clear hb2); (try clear hk); (try clear hi)) | (go_at_call 51; (with_reducible refine (spec_l3noWay.calls t135 t136 t137 false _ A42.out).mono ?_); rintro e w47 ⟨rfl, hb⟩; replace HO_8 := AM (Kd.R_below (pR HO_8) hb); replace HB := AM (below_step (pH HB) hb); (try clear hb); (try clear hb2); (try clear hk); (try clear hi))))
       go_roundg k3
       case measure => have := HK1.out; have := HK2.out; have := HK3.out; omega
       case rel => exact ⟨(wrap64 (x13_3 + 1)), eR, H', ⟨by have := HK1.out; have := HK2.out; have := HK3.out; omega⟩, ⟨by (with_reducible repeat (first | apply Kd.R_alloc | apply Kd.R_drewN | apply Kd.R_drew)); exact HO_8.out⟩, ⟨pH HB⟩⟩
end Go.Proofs.YtcpdeenhjodmfaaDoor.QDecodeScene
