-- Written by wip/tools/mkprint.py (my program) out of the translation, for this claim. Not trusted: Lean checks it.
import Derived.Test.YtcpdeenhjodmfaaDoorQDecodeScenex0
namespace Go.Proofs.YtcpdeenhjodmfaaDoor.QDecodeScene
open Go.RowKit Go.Proofs.YtcpdeenhjodmfaaDoorW.PrintWords Go.Proofs.YtcpdeenhjodmfaaDoorW.PrintLast Go.Proofs.YtcpdeenhjodmfaaDoorW.PrintMore
attribute [local go_sem] max2_int min2_int max_two min_two max_three min_three max_four min_four   -- for this text's walks alone
set_option maxHeartbeats 8000000
set_option maxRecDepth 100000
set_option linter.unusedVariables false
set_option linter.unusedSimpArgs false

/-! ### laws_heldTriS: function 42 -/
def laws_heldTriS.l0 : Nat → List (S70) → Int → Int → Option (Int)
 | 0, _, _, _ => none
 | k + 1, x0, x1, x5 => if x5 < (x0.length : Int) then (if 0 ≤ x5 then (if ((rd_T70 x0 x5).f0.f0) = ((x1) % 4294967296) then (if ((rd_T70 x0 x5).f0.f1) = ((wrap64 (x1 + 1)) % 4294967296) then (if ((rd_T70 x0 x5).f0.f2) = ((wrap64 ((wrap64 (x1 + 1)) + 1)) % 4294967296) then (if ((rd_T70 x0 x5).f1.f0) = ((wrap64 ((wrap64 ((wrap64 (x1 + 1)) + 1)) + 1)) % 4294967296) then (if ((rd_T70 x0 x5).f1.f1) = ((wrap64 ((wrap64 ((wrap64 ((wrap64 (x1 + 1)) + 1)) + 1)) + 1)) % 4294967296) then (if ((rd_T70 x0 x5).f1.f2) = ((wrap64 ((wrap64 ((wrap64 ((wrap64 ((wrap64 (x1 + 1)) + 1)) + 1)) + 1)) + 1)) % 4294967296) then (if ((rd_T70 x0 x5).f2.f0) = ((wrap64 ((wrap64 ((wrap64 ((wrap64 ((wrap64 ((wrap64 (x1 + 1)) + 1)) + 1)) + 1)) + 1)) + 1)) % 4294967296) then (if ((rd_T70 x0 x5).f2.f1) = ((wrap64 ((wrap64 ((wrap64 ((wrap64 ((wrap64 ((wrap64 ((wrap64 (x1 + 1)) + 1)) + 1)) + 1)) + 1)) + 1)) + 1)) % 4294967296) then (if ((rd_T70 x0 x5).f2.f2) = ((wrap64 ((wrap64 ((wrap64 ((wrap64 ((wrap64 ((wrap64 ((wrap64 ((wrap64 (x1 + 1)) + 1)) + 1)) + 1)) + 1)) + 1)) + 1)) + 1)) % 4294967296) then (laws_heldTriS.l0 k x0 (wrap64 ((wrap64 ((wrap64 ((wrap64 ((wrap64 ((wrap64 ((wrap64 ((wrap64 ((wrap64 (x1 + 1)) + 1)) + 1)) + 1)) + 1)) + 1)) + 1)) + 1)) + 1)) (wrap64 (x5 + 1))) else (some (-1))) else (some (-1))) else (some (-1))) else (some (-1))) else (some (-1))) else (some (-1))) else (some (-1))) else (some (-1))) else (some (-1))) else (none)) else (some x1)
def laws_heldTriS.f (k : Nat) (l0 : List (S70)) (a1 : Int) : Option (Int) := laws_heldTriS.l0 k l0 a1 0
theorem laws_heldTriS.mono_l : ∀ k, (∀ y0 y1 y2, LeO (laws_heldTriS.l0 k y0 y1 y2) (laws_heldTriS.l0 (k + 1) y0 y1 y2))
 | 0 => fun _ _ _ r h => by simp [laws_heldTriS.l0] at h
 | k + 1 => by
  have ih0 := laws_heldTriS.mono_l k
  · intro y0 y1 y2
    unfold laws_heldTriS.l0
    repeat' with_reducible first | exact ih0 _ _ _ | exact LeO.refl _ | exact LeO.none _ | refine LeO.ite ?_ ?_ | refine LeO.bind ?_ (fun _ => ?_)
theorem laws_heldTriS.mono : ∀ a0 a1 k, LeO (laws_heldTriS.f k a0 a1) (laws_heldTriS.f (k + 1) a0 a1) := by
 intro a0 a1 k
 have ih0 := laws_heldTriS.mono_l k
 unfold laws_heldTriS.f
 repeat' with_reducible first | exact ih0 _ _ _ | exact LeO.refl _ | exact LeO.none _ | refine LeO.ite ?_ ?_ | refine LeO.bind ?_ (fun _ => ?_)
theorem laws_heldTriS.calls (k : Nat) (A0 : Option Addr) (c0 : Nat) (l0 : List (S70)) (a1 : Int) (r : Int) (w : World) (hr0 : Kd.C k70 w A0 l0.length l0) (hc0 : l0.length ≤ c0) (h : laws_heldTriS.f k l0 a1 = some r) :
 Calls Tryd.prog 42 #[.slice A0 l0.length c0, .int .i64 a1] w fun e w' => e = .returned (.int .i64 r) ∧ Drawn0 w w' := by
 have HR0 := AM hr0; have HC0 := AM hc0; clear hr0 hc0
 have H : (laws_heldTriS.l0 k l0 a1 0) = some r := h
 clear h
 have H' := AM H
 clear H
 go_enter Tryd.func42, Tryd.ntmps42
 go_wp2
 go_loopg [1, 5] k (fun kq v1 v5 w' => ∃ (x1_1 : Int) (x5_1 : Int), v1 = .int .i64 x1_1 ∧ v5 = .int .i64 x5_1 ∧ Aside0 (laws_heldTriS.l0 kq l0 x1_1 x5_1 = some r) ∧ Aside0 (kq ≤ k) ∧ Drawn0 w w')
 case atStart => exact ⟨(a1), (0), eR, eR, H', ⟨Nat.le_refl _⟩, by repeat (first | exact Drawn0.refl _ | apply Drawn0.step)⟩
 case round =>
  clear H'
  try clear p2
  obtain ⟨x1_1, x5_1, rfl, rfl, HA, HK1, ⟨m1, rfl⟩⟩ := hrel
  cases gk with
  | zero => exact absurd HA.out (by simp [laws_heldTriS.l0])
  | succ k1 =>
   have H := HA.out; clear HA
   simp only [laws_heldTriS.l0] at H
   by_cases c3 : x5_1 < (l0.length : Int)
   rotate_left
   · rw [if_neg c3] at H
     have c3b0 : decide (x5_1 < (l0.length : Int)) = false := decide_eq_false c3
     clear c3
     obtain rfl := Option.some.inj H
     go_wp2
     go_ret
     exact ⟨by first | rfl | (simp; done) | (simp [*]; done), by repeat (first | exact Drawn0.refl _ | apply Drawn0.step)⟩

   rw [if_pos c3] at H
   have c3b0 : decide (x5_1 < (l0.length : Int)) = true := decide_eq_true c3
   clear c3
   by_cases c4 : 0 ≤ x5_1
   rotate_left
   · rw [if_neg c4] at H
     exact absurd H (by simp)
   rw [if_pos c4] at H
   have c4b0 : decide (0 ≤ x5_1) = true := decide_eq_true c4
   clear c4
   by_cases c5 : ((rd_T70 l0 x5_1).f0.f0) = ((x1_1) % 4294967296)
   rotate_left
   · rw [if_neg c5] at H
     have c5b0 : (((rd_T70 l0 x5_1).f0.f0) == ((x1_1) % 4294967296)) = false := beq_eq_false_iff_ne.mpr c5
     have c5b1 : (((rd_T70 l0 x5_1).f0.f0) != ((x1_1) % 4294967296)) = true := bne_iff_ne.mpr c5
     obtain rfl := Option.some.inj H
     have p245 : 0 ≤ (x5_1 : Int) := dT
     have q245 : x5_1 < (l0.length : Int) := dT
     obtain ⟨ad245, e245, hx245_0, hx245_1, hx245_2, hx245_3, hx245_4, hx245_5, hx245_6, hx245_7, hx245_8⟩ := at_T70 HR0.out x5_1 p245 q245
     cases e245
     replace p245 := eq_true p245; replace q245 := eq_true q245
     go_wp2
     go_ret
     exact ⟨by first | rfl | (simp; done) | (simp [*]; done), by repeat (first | exact Drawn0.refl _ | apply Drawn0.step)⟩
   rw [if_pos c5] at H
   have c5b0 : (((rd_T70 l0 x5_1).f0.f0) == ((x1_1) % 4294967296)) = true := beq_iff_eq.mpr c5
   have c5b1 : (((rd_T70 l0 x5_1).f0.f0) != ((x1_1) % 4294967296)) = false := bne_eq_false_iff_eq.mpr c5
   clear c5
   by_cases c6 : ((rd_T70 l0 x5_1).f0.f1) = ((wrap64 (x1_1 + 1)) % 4294967296)
   rotate_left
   · rw [if_neg c6] at H
     have c6b0 : (((rd_T70 l0 x5_1).f0.f1) == ((wrap64 (x1_1 + 1)) % 4294967296)) = false := beq_eq_false_iff_ne.mpr c6
     have c6b1 : (((rd_T70 l0 x5_1).f0.f1) != ((wrap64 (x1_1 + 1)) % 4294967296)) = true := bne_iff_ne.mpr c6
     obtain rfl := Option.some.inj H
     have p245 : 0 ≤ (x5_1 : Int) := dT
     have q245 : x5_1 < (l0.length : Int) := dT
     obtain ⟨ad245, e245, hx245_0, hx245_1, hx245_2, hx245_3, hx245_4, hx245_5, hx245_6, hx245_7, hx245_8⟩ := at_T70 HR0.out x5_1 p245 q245
     cases e245
     replace p245 := eq_true p245; replace q245 := eq_true q245
     have p246 : 0 ≤ (x5_1 : Int) := dT
     have q246 : x5_1 < (l0.length : Int) := dT
     obtain ⟨ad246, e246, hx246_0, hx246_1, hx246_2, hx246_3, hx246_4, hx246_5, hx246_6, hx246_7, hx246_8⟩ := at_T70 HR0.out x5_1 p246 q246
     obtain rfl : ad245 = ad246 := (by injection e246)
     replace p246 := eq_true p246; replace q246 := eq_true q246
     go_wp2
     go_ret
     exact ⟨by first | rfl | (simp; done) | (simp [*]; done), by repeat (first | exact Drawn0.refl _ | apply Drawn0.step)⟩
   rw [if_pos c6] at H
   have c6b0 : (((rd_T70 l0 x5_1).f0.f1) == ((wrap64 (x1_1 + 1)) % 4294967296)) = true := beq_iff_eq.mpr c6
   have c6b1 : (((rd_T70 l0 x5_1).f0.f1) != ((wrap64 (x1_1 + 1)) % 4294967296)) = false := bne_eq_false_iff_eq.mpr c6
   clear c6
   by_cases c7 : ((rd_T70 l0 x5_1).f0.f2) = ((wrap64 ((wrap64 (x1_1 + 1)) + 1)) % 4294967296)
   rotate_left
   · rw [if_neg c7] at H
     have c7b0 : (((rd_T70 l0 x5_1).f0.f2) == ((wrap64 ((wrap64 (x1_1 + 1)) + 1)) % 4294967296)) = false := beq_eq_false_iff_ne.mpr c7
     have c7b1 : (((rd_T70 l0 x5_1).f0.f2) != ((wrap64 ((wrap64 (x1_1 + 1)) + 1)) % 4294967296)) = true := bne_iff_ne.mpr c7
     obtain rfl := Option.some.inj H
     have p245 : 0 ≤ (x5_1 : Int) := dT
     have q245 : x5_1 < (l0.length : Int) := dT
     obtain ⟨ad245, e245, hx245_0, hx245_1, hx245_2, hx245_3, hx245_4, hx245_5, hx245_6, hx245_7, hx245_8⟩ := at_T70 HR0.out x5_1 p245 q245
     cases e245
     replace p245 := eq_true p245; replace q245 := eq_true q245
     have p246 : 0 ≤ (x5_1 : Int) := dT
     have q246 : x5_1 < (l0.length : Int) := dT
     obtain ⟨ad246, e246, hx246_0, hx246_1, hx246_2, hx246_3, hx246_4, hx246_5, hx246_6, hx246_7, hx246_8⟩ := at_T70 HR0.out x5_1 p246 q246
     obtain rfl : ad245 = ad246 := (by injection e246)
     replace p246 := eq_true p246; replace q246 := eq_true q246
     have p247 : 0 ≤ (x5_1 : Int) := dT
     have q247 : x5_1 < (l0.length : Int) := dT
     obtain ⟨ad247, e247, hx247_0, hx247_1, hx247_2, hx247_3, hx247_4, hx247_5, hx247_6, hx247_7, hx247_8⟩ := at_T70 HR0.out x5_1 p247 q247
     obtain rfl : ad245 = ad247 := (by injection e247)
     replace p247 := eq_true p247; replace q247 := eq_true q247
     go_wp2
     go_ret
     exact ⟨by first | rfl | (simp; done) | (simp [*]; done), by repeat (first | exact Drawn0.refl _ | apply Drawn0.step)⟩
   rw [if_pos c7] at H
   have c7b0 : (((rd_T70 l0 x5_1).f0.f2) == ((wrap64 ((wrap64 (x1_1 + 1)) + 1)) % 4294967296)) = true := beq_iff_eq.mpr c7
   have c7b1 : (((rd_T70 l0 x5_1).f0.f2) != ((wrap64 ((wrap64 (x1_1 + 1)) + 1)) % 4294967296)) = false := bne_eq_false_iff_eq.mpr c7
   clear c7
   by_cases c8 : ((rd_T70 l0 x5_1).f1.f0) = ((wrap64 ((wrap64 ((wrap64 (x1_1 + 1)) + 1)) + 1)) % 4294967296)
   rotate_left
   · rw [if_neg c8] at H
     have c8b0 : (((rd_T70 l0 x5_1).f1.f0) == ((wrap64 ((wrap64 ((wrap64 (x1_1 + 1)) + 1)) + 1)) % 4294967296)) = false := beq_eq_false_iff_ne.mpr c8
     have c8b1 : (((rd_T70 l0 x5_1).f1.f0) != ((wrap64 ((wrap64 ((wrap64 (x1_1 + 1)) + 1)) + 1)) % 4294967296)) = true := bne_iff_ne.mpr c8
     obtain rfl := Option.some.inj H
     have p245 : 0 ≤ (x5_1 : Int) := dT
     have q245 : x5_1 < (l0.length : Int) := dT
     obtain ⟨ad245, e245, hx245_0, hx245_1, hx245_2, hx245_3, hx245_4, hx245_5, hx245_6, hx245_7, hx245_8⟩ := at_T70 HR0.out x5_1 p245 q245
     cases e245
     replace p245 := eq_true p245; replace q245 := eq_true q245
     have p246 : 0 ≤ (x5_1 : Int) := dT
     have q246 : x5_1 < (l0.length : Int) := dT
     obtain ⟨ad246, e246, hx246_0, hx246_1, hx246_2, hx246_3, hx246_4, hx246_5, hx246_6, hx246_7, hx246_8⟩ := at_T70 HR0.out x5_1 p246 q246
     obtain rfl : ad245 = ad246 := (by injection e246)
     replace p246 := eq_true p246; replace q246 := eq_true q246
     have p247 : 0 ≤ (x5_1 : Int) := dT
     have q247 : x5_1 < (l0.length : Int) := dT
     obtain ⟨ad247, e247, hx247_0, hx247_1, hx247_2, hx247_3, hx247_4, hx247_5, hx247_6, hx247_7, hx247_8⟩ := at_T70 HR0.out x5_1 p247 q247
     obtain rfl : ad245 = ad247 := (by injection e247)
     replace p247 := eq_true p247; replace q247 := eq_true q247
     have p248 : 0 ≤ (x5_1 : Int) := dT
     have q248 : x5_1 < (l0.length : Int) := dT
     obtain ⟨ad248, e248, hx248_0, hx248_1, hx248_2, hx248_3, hx248_4, hx248_5, hx248_6, hx248_7, hx248_8⟩ := at_T70 HR0.out x5_1 p248 q248
     obtain rfl : ad245 = ad248 := (by injection e248)
     replace p248 := eq_true p248; replace q248 := eq_true q248
     go_wp2
     go_ret
     exact ⟨by first | rfl | (simp; done) | (simp [*]; done), by repeat (first | exact Drawn0.refl _ | apply Drawn0.step)⟩
   rw [if_pos c8] at H
   have c8b0 : (((rd_T70 l0 x5_1).f1.f0) == ((wrap64 ((wrap64 ((wrap64 (x1_1 + 1)) + 1)) + 1)) % 4294967296)) = true := beq_iff_eq.mpr c8
   have c8b1 : (((rd_T70 l0 x5_1).f1.f0) != ((wrap64 ((wrap64 ((wrap64 (x1_1 + 1)) + 1)) + 1)) % 4294967296)) = false := bne_eq_false_iff_eq.mpr c8
   clear c8
   by_cases c9 : ((rd_T70 l0 x5_1).f1.f1) = ((wrap64 ((wrap64 ((wrap64 ((wrap64 (x1_1 + 1)) + 1)) + 1)) + 1)) % 4294967296)
   rotate_left
   · rw [if_neg c9] at H
     have c9b0 : (((rd_T70 l0 x5_1).f1.f1) == ((wrap64 ((wrap64 ((wrap64 ((wrap64 (x1_1 + 1)) + 1)) + 1)) + 1)) % 4294967296)) = false := beq_eq_false_iff_ne.mpr c9
     have c9b1 : (((rd_T70 l0 x5_1).f1.f1) != ((wrap64 ((wrap64 ((wrap64 ((wrap64 (x1_1 + 1)) + 1)) + 1)) + 1)) % 4294967296)) = true := bne_iff_ne.mpr c9
     obtain rfl := Option.some.inj H
     have p245 : 0 ≤ (x5_1 : Int) := dT
     have q245 : x5_1 < (l0.length : Int) := dT
     obtain ⟨ad245, e245, hx245_0, hx245_1, hx245_2, hx245_3, hx245_4, hx245_5, hx245_6, hx245_7, hx245_8⟩ := at_T70 HR0.out x5_1 p245 q245
     cases e245
     replace p245 := eq_true p245; replace q245 := eq_true q245
     have p246 : 0 ≤ (x5_1 : Int) := dT
     have q246 : x5_1 < (l0.length : Int) := dT
     obtain ⟨ad246, e246, hx246_0, hx246_1, hx246_2, hx246_3, hx246_4, hx246_5, hx246_6, hx246_7, hx246_8⟩ := at_T70 HR0.out x5_1 p246 q246
     obtain rfl : ad245 = ad246 := (by injection e246)
     replace p246 := eq_true p246; replace q246 := eq_true q246
     have p247 : 0 ≤ (x5_1 : Int) := dT
     have q247 : x5_1 < (l0.length : Int) := dT
     obtain ⟨ad247, e247, hx247_0, hx247_1, hx247_2, hx247_3, hx247_4, hx247_5, hx247_6, hx247_7, hx247_8⟩ := at_T70 HR0.out x5_1 p247 q247
     obtain rfl : ad245 = ad247 := (by injection e247)
     replace p247 := eq_true p247; replace q247 := eq_true q247
     have p248 : 0 ≤ (x5_1 : Int) := dT
     have q248 : x5_1 < (l0.length : Int) := dT
     obtain ⟨ad248, e248, hx248_0, hx248_1, hx248_2, hx248_3, hx248_4, hx248_5, hx248_6, hx248_7, hx248_8⟩ := at_T70 HR0.out x5_1 p248 q248
     obtain rfl : ad245 = ad248 := (by injection e248)
     replace p248 := eq_true p248; replace q248 := eq_true q248
     have p249 : 0 ≤ (x5_1 : Int) := dT
     have q249 : x5_1 < (l0.length : Int) := dT
     obtain ⟨ad249, e249, hx249_0, hx249_1, hx249_2, hx249_3, hx249_4, hx249_5, hx249_6, hx249_7, hx249_8⟩ := at_T70 HR0.out x5_1 p249 q249
     obtain rfl : ad245 = ad249 := (by injection e249)
     replace p249 := eq_true p249; replace q249 := eq_true q249
     go_wp2
     go_ret
     exact ⟨by first | rfl | (simp; done) | (simp [*]; done), by repeat (first | exact Drawn0.refl _ | apply Drawn0.step)⟩
   rw [if_pos c9] at H
   have c9b0 : (((rd_T70 l0 x5_1).f1.f1) == ((wrap64 ((wrap64 ((wrap64 ((wrap64 (x1_1 + 1)) + 1)) + 1)) + 1)) % 4294967296)) = true := beq_iff_eq.mpr c9
   have c9b1 : (((rd_T70 l0 x5_1).f1.f1) != ((wrap64 ((wrap64 ((wrap64 ((wrap64 (x1_1 + 1)) + 1)) + 1)) + 1)) % 4294967296)) = false := bne_eq_false_iff_eq.mpr c9
   clear c9
   by_cases c10 : ((rd_T70 l0 x5_1).f1.f2) = ((wrap64 ((wrap64 ((wrap64 ((wrap64 ((wrap64 (x1_1 + 1)) + 1)) + 1)) + 1)) + 1)) % 4294967296)
   rotate_left
   · rw [if_neg c10] at H
     have c10b0 : (((rd_T70 l0 x5_1).f1.f2) == ((wrap64 ((wrap64 ((wrap64 ((wrap64 ((wrap64 (x1_1 + 1)) + 1)) + 1)) + 1)) + 1)) % 4294967296)) = false := beq_eq_false_iff_ne.mpr c10
     have c10b1 : (((rd_T70 l0 x5_1).f1.f2) != ((wrap64 ((wrap64 ((wrap64 ((wrap64 ((wrap64 (x1_1 + 1)) + 1)) + 1)) + 1)) + 1)) % 4294967296)) = true := bne_iff_ne.mpr c10
     obtain rfl := Option.some.inj H
     have p245 : 0 ≤ (x5_1 : Int) := dT
     have q245 : x5_1 < (l0.length : Int) := dT
     obtain ⟨ad245, e245, hx245_0, hx245_1, hx245_2, hx245_3, hx245_4, hx245_5, hx245_6, hx245_7, hx245_8⟩ := at_T70 HR0.out x5_1 p245 q245
     cases e245
     replace p245 := eq_true p245; replace q245 := eq_true q245
     have p246 : 0 ≤ (x5_1 : Int) := dT
     have q246 : x5_1 < (l0.length : Int) := dT
     obtain ⟨ad246, e246, hx246_0, hx246_1, hx246_2, hx246_3, hx246_4, hx246_5, hx246_6, hx246_7, hx246_8⟩ := at_T70 HR0.out x5_1 p246 q246
     obtain rfl : ad245 = ad246 := (by injection e246)
     replace p246 := eq_true p246; replace q246 := eq_true q246
     have p247 : 0 ≤ (x5_1 : Int) := dT
     have q247 : x5_1 < (l0.length : Int) := dT
     obtain ⟨ad247, e247, hx247_0, hx247_1, hx247_2, hx247_3, hx247_4, hx247_5, hx247_6, hx247_7, hx247_8⟩ := at_T70 HR0.out x5_1 p247 q247
     obtain rfl : ad245 = ad247 := (by injection e247)
     replace p247 := eq_true p247; replace q247 := eq_true q247
     have p248 : 0 ≤ (x5_1 : Int) := dT
     have q248 : x5_1 < (l0.length : Int) := dT
     obtain ⟨ad248, e248, hx248_0, hx248_1, hx248_2, hx248_3, hx248_4, hx248_5, hx248_6, hx248_7, hx248_8⟩ := at_T70 HR0.out x5_1 p248 q248
     obtain rfl : ad245 = ad248 := (by injection e248)
     replace p248 := eq_true p248; replace q248 := eq_true q248
     have p249 : 0 ≤ (x5_1 : Int) := dT
     have q249 : x5_1 < (l0.length : Int) := dT
     obtain ⟨ad249, e249, hx249_0, hx249_1, hx249_2, hx249_3, hx249_4, hx249_5, hx249_6, hx249_7, hx249_8⟩ := at_T70 HR0.out x5_1 p249 q249
     obtain rfl : ad245 = ad249 := (by injection e249)
     replace p249 := eq_true p249; replace q249 := eq_true q249
     have p250 : 0 ≤ (x5_1 : Int) := dT
     have q250 : x5_1 < (l0.length : Int) := dT
     obtain ⟨ad250, e250, hx250_0, hx250_1, hx250_2, hx250_3, hx250_4, hx250_5, hx250_6, hx250_7, hx250_8⟩ := at_T70 HR0.out x5_1 p250 q250
     obtain rfl : ad245 = ad250 := (by injection e250)
     replace p250 := eq_true p250; replace q250 := eq_true q250
     go_wp2
     go_ret
     exact ⟨by first | rfl | (simp; done) | (simp [*]; done), by repeat (first | exact Drawn0.refl _ | apply Drawn0.step)⟩
   rw [if_pos c10] at H
   have c10b0 : (((rd_T70 l0 x5_1).f1.f2) == ((wrap64 ((wrap64 ((wrap64 ((wrap64 ((wrap64 (x1_1 + 1)) + 1)) + 1)) + 1)) + 1)) % 4294967296)) = true := beq_iff_eq.mpr c10
   have c10b1 : (((rd_T70 l0 x5_1).f1.f2) != ((wrap64 ((wrap64 ((wrap64 ((wrap64 ((wrap64 (x1_1 + 1)) + 1)) + 1)) + 1)) + 1)) % 4294967296)) = false := bne_eq_false_iff_eq.mpr c10
   clear c10
   by_cases c11 : ((rd_T70 l0 x5_1).f2.f0) = ((wrap64 ((wrap64 ((wrap64 ((wrap64 ((wrap64 ((wrap64 (x1_1 + 1)) + 1)) + 1)) + 1)) + 1)) + 1)) % 4294967296)
   rotate_left
   · rw [if_neg c11] at H
     have c11b0 : (((rd_T70 l0 x5_1).f2.f0) == ((wrap64 ((wrap64 ((wrap64 ((wrap64 ((wrap64 ((wrap64 (x1_1 + 1)) + 1)) + 1)) + 1)) + 1)) + 1)) % 4294967296)) = false := beq_eq_false_iff_ne.mpr c11
     have c11b1 : (((rd_T70 l0 x5_1).f2.f0) != ((wrap64 ((wrap64 ((wrap64 ((wrap64 ((wrap64 ((wrap64 (x1_1 + 1)) + 1)) + 1)) + 1)) + 1)) + 1)) % 4294967296)) = true := bne_iff_ne.mpr c11
     obtain rfl := Option.some.inj H
     have p245 : 0 ≤ (x5_1 : Int) := dT
     have q245 : x5_1 < (l0.length : Int) := dT
     obtain ⟨ad245, e245, hx245_0, hx245_1, hx245_2, hx245_3, hx245_4, hx245_5, hx245_6, hx245_7, hx245_8⟩ := at_T70 HR0.out x5_1 p245 q245
     cases e245
     replace p245 := eq_true p245; replace q245 := eq_true q245
     have p246 : 0 ≤ (x5_1 : Int) := dT
     have q246 : x5_1 < (l0.length : Int) := dT
     obtain ⟨ad246, e246, hx246_0, hx246_1, hx246_2, hx246_3, hx246_4, hx246_5, hx246_6, hx246_7, hx246_8⟩ := at_T70 HR0.out x5_1 p246 q246
     obtain rfl : ad245 = ad246 := (by injection e246)
     replace p246 := eq_true p246; replace q246 := eq_true q246
     have p247 : 0 ≤ (x5_1 : Int) := dT
     have q247 : x5_1 < (l0.length : Int) := dT
     obtain ⟨ad247, e247, hx247_0, hx247_1, hx247_2, hx247_3, hx247_4, hx247_5, hx247_6, hx247_7, hx247_8⟩ := at_T70 HR0.out x5_1 p247 q247
     obtain rfl : ad245 = ad247 := (by injection e247)
     replace p247 := eq_true p247; replace q247 := eq_true q247
     have p248 : 0 ≤ (x5_1 : Int) := dT
     have q248 : x5_1 < (l0.length : Int) := dT
     obtain ⟨ad248, e248, hx248_0, hx248_1, hx248_2, hx248_3, hx248_4, hx248_5, hx248_6, hx248_7, hx248_8⟩ := at_T70 HR0.out x5_1 p248 q248
     obtain rfl : ad245 = ad248 := (by injection e248)
     replace p248 := eq_true p248; replace q248 := eq_true q248
     have p249 : 0 ≤ (x5_1 : Int) := dT
     have q249 : x5_1 < (l0.length : Int) := dT
     obtain ⟨ad249, e249, hx249_0, hx249_1, hx249_2, hx249_3, hx249_4, hx249_5, hx249_6, hx249_7, hx249_8⟩ := at_T70 HR0.out x5_1 p249 q249
     obtain rfl : ad245 = ad249 := (by injection e249)
     replace p249 := eq_true p249; replace q249 := eq_true q249
     have p250 : 0 ≤ (x5_1 : Int) := dT
     have q250 : x5_1 < (l0.length : Int) := dT
     obtain ⟨ad250, e250, hx250_0, hx250_1, hx250_2, hx250_3, hx250_4, hx250_5, hx250_6, hx250_7, hx250_8⟩ := at_T70 HR0.out x5_1 p250 q250
     obtain rfl : ad245 = ad250 := (by injection e250)
     replace p250 := eq_true p250; replace q250 := eq_true q250
     have p251 : 0 ≤ (x5_1 : Int) := dT
     have q251 : x5_1 < (l0.length : Int) := dT
     obtain ⟨ad251, e251, hx251_0, hx251_1, hx251_2, hx251_3, hx251_4, hx251_5, hx251_6, hx251_7, hx251_8⟩ := at_T70 HR0.out x5_1 p251 q251
     obtain rfl : ad245 = ad251 := (by injection e251)
     replace p251 := eq_true p251; replace q251 := eq_true q251
     go_wp2
     go_ret
     exact ⟨by first | rfl | (simp; done) | (simp [*]; done), by repeat (first | exact Drawn0.refl _ | apply Drawn0.step)⟩
   rw [if_pos c11] at H
   have c11b0 : (((rd_T70 l0 x5_1).f2.f0) == ((wrap64 ((wrap64 ((wrap64 ((wrap64 ((wrap64 ((wrap64 (x1_1 + 1)) + 1)) + 1)) + 1)) + 1)) + 1)) % 4294967296)) = true := beq_iff_eq.mpr c11
   have c11b1 : (((rd_T70 l0 x5_1).f2.f0) != ((wrap64 ((wrap64 ((wrap64 ((wrap64 ((wrap64 ((wrap64 (x1_1 + 1)) + 1)) + 1)) + 1)) + 1)) + 1)) % 4294967296)) = false := bne_eq_false_iff_eq.mpr c11
   clear c11
   by_cases c12 : ((rd_T70 l0 x5_1).f2.f1) = ((wrap64 ((wrap64 ((wrap64 ((wrap64 ((wrap64 ((wrap64 ((wrap64 (x1_1 + 1)) + 1)) + 1)) + 1)) + 1)) + 1)) + 1)) % 4294967296)
   rotate_left
   · rw [if_neg c12] at H
     have c12b0 : (((rd_T70 l0 x5_1).f2.f1) == ((wrap64 ((wrap64 ((wrap64 ((wrap64 ((wrap64 ((wrap64 ((wrap64 (x1_1 + 1)) + 1)) + 1)) + 1)) + 1)) + 1)) + 1)) % 4294967296)) = false := beq_eq_false_iff_ne.mpr c12
     have c12b1 : (((rd_T70 l0 x5_1).f2.f1) != ((wrap64 ((wrap64 ((wrap64 ((wrap64 ((wrap64 ((wrap64 ((wrap64 (x1_1 + 1)) + 1)) + 1)) + 1)) + 1)) + 1)) + 1)) % 4294967296)) = true := bne_iff_ne.mpr c12
     obtain rfl := Option.some.inj H
     have p245 : 0 ≤ (x5_1 : Int) := dT
     have q245 : x5_1 < (l0.length : Int) := dT
     obtain ⟨ad245, e245, hx245_0, hx245_1, hx245_2, hx245_3, hx245_4, hx245_5, hx245_6, hx245_7, hx245_8⟩ := at_T70 HR0.out x5_1 p245 q245
     cases e245
     replace p245 := eq_true p245; replace q245 := eq_true q245
     have p246 : 0 ≤ (x5_1 : Int) := dT
     have q246 : x5_1 < (l0.length : Int) := dT
     obtain ⟨ad246, e246, hx246_0, hx246_1, hx246_2, hx246_3, hx246_4, hx246_5, hx246_6, hx246_7, hx246_8⟩ := at_T70 HR0.out x5_1 p246 q246
     obtain rfl : ad245 = ad246 := (by injection e246)
     replace p246 := eq_true p246; replace q246 := eq_true q246
     have p247 : 0 ≤ (x5_1 : Int) := dT
     have q247 : x5_1 < (l0.length : Int) := dT
     obtain ⟨ad247, e247, hx247_0, hx247_1, hx247_2, hx247_3, hx247_4, hx247_5, hx247_6, hx247_7, hx247_8⟩ := at_T70 HR0.out x5_1 p247 q247
     obtain rfl : ad245 = ad247 := (by injection e247)
     replace p247 := eq_true p247; replace q247 := eq_true q247
     have p248 : 0 ≤ (x5_1 : Int) := dT
     have q248 : x5_1 < (l0.length : Int) := dT
     obtain ⟨ad248, e248, hx248_0, hx248_1, hx248_2, hx248_3, hx248_4, hx248_5, hx248_6, hx248_7, hx248_8⟩ := at_T70 HR0.out x5_1 p248 q248
     obtain rfl : ad245 = ad248 := (by injection e248)
     replace p248 := eq_true p248; replace q248 := eq_true q248
     have p249 : 0 ≤ (x5_1 : Int) := dT
     have q249 : x5_1 < (l0.length : Int) := dT
     obtain ⟨ad249, e249, hx249_0, hx249_1, hx249_2, hx249_3, hx249_4, hx249_5, hx249_6, hx249_7, hx249_8⟩ := at_T70 HR0.out x5_1 p249 q249
     obtain rfl : ad245 = ad249 := (by injection e249)
     replace p249 := eq_true p249; replace q249 := eq_true q249
     have p250 : 0 ≤ (x5_1 : Int) := dT
     have q250 : x5_1 < (l0.length : Int) := dT
     obtain ⟨ad250, e250, hx250_0, hx250_1, hx250_2, hx250_3, hx250_4, hx250_5, hx250_6, hx250_7, hx250_8⟩ := at_T70 HR0.out x5_1 p250 q250
     obtain rfl : ad245 = ad250 := (by injection e250)
     replace p250 := eq_true p250; replace q250 := eq_true q250
     have p251 : 0 ≤ (x5_1 : Int) := dT
     have q251 : x5_1 < (l0.length : Int) := dT
     obtain ⟨ad251, e251, hx251_0, hx251_1, hx251_2, hx251_3, hx251_4, hx251_5, hx251_6, hx251_7, hx251_8⟩ := at_T70 HR0.out x5_1 p251 q251
     obtain rfl : ad245 = ad251 := (by injection e251)
     replace p251 := eq_true p251; replace q251 := eq_true q251
     have p252 : 0 ≤ (x5_1 : Int) := dT
     have q252 : x5_1 < (l0.length : Int) := dT
     obtain ⟨ad252, e252, hx252_0, hx252_1, hx252_2, hx252_3, hx252_4, hx252_5, hx252_6, hx252_7, hx252_8⟩ := at_T70 HR0.out x5_1 p252 q252
     obtain rfl : ad245 = ad252 := (by injection e252)
     replace p252 := eq_true p252; replace q252 := eq_true q252
     go_wp2
     go_ret
     exact ⟨by first | rfl | (simp; done) | (simp [*]; done), by repeat (first | exact Drawn0.refl _ | apply Drawn0.step)⟩
   rw [if_pos c12] at H
   have c12b0 : (((rd_T70 l0 x5_1).f2.f1) == ((wrap64 ((wrap64 ((wrap64 ((wrap64 ((wrap64 ((wrap64 ((wrap64 (x1_1 + 1)) + 1)) + 1)) + 1)) + 1)) + 1)) + 1)) % 4294967296)) = true := beq_iff_eq.mpr c12
   have c12b1 : (((rd_T70 l0 x5_1).f2.f1) != ((wrap64 ((wrap64 ((wrap64 ((wrap64 ((wrap64 ((wrap64 ((wrap64 (x1_1 + 1)) + 1)) + 1)) + 1)) + 1)) + 1)) + 1)) % 4294967296)) = false := bne_eq_false_iff_eq.mpr c12
   clear c12
   by_cases c13 : ((rd_T70 l0 x5_1).f2.f2) = ((wrap64 ((wrap64 ((wrap64 ((wrap64 ((wrap64 ((wrap64 ((wrap64 ((wrap64 (x1_1 + 1)) + 1)) + 1)) + 1)) + 1)) + 1)) + 1)) + 1)) % 4294967296)
   rotate_left
   · rw [if_neg c13] at H
     have c13b0 : (((rd_T70 l0 x5_1).f2.f2) == ((wrap64 ((wrap64 ((wrap64 ((wrap64 ((wrap64 ((wrap64 ((wrap64 ((wrap64 (x1_1 + 1)) + 1)) + 1)) + 1)) + 1)) + 1)) + 1)) + 1)) % 4294967296)) = false := beq_eq_false_iff_ne.mpr c13
     have c13b1 : (((rd_T70 l0 x5_1).f2.f2) != ((wrap64 ((wrap64 ((wrap64 ((wrap64 ((wrap64 ((wrap64 ((wrap64 ((wrap64 (x1_1 + 1)) + 1)) + 1)) + 1)) + 1)) + 1)) + 1)) + 1)) % 4294967296)) = true := bne_iff_ne.mpr c13
     obtain rfl := Option.some.inj H
     have p245 : 0 ≤ (x5_1 : Int) := dT
     have q245 : x5_1 < (l0.length : Int) := dT
     obtain ⟨ad245, e245, hx245_0, hx245_1, hx245_2, hx245_3, hx245_4, hx245_5, hx245_6, hx245_7, hx245_8⟩ := at_T70 HR0.out x5_1 p245 q245
     cases e245
     replace p245 := eq_true p245; replace q245 := eq_true q245
     have p246 : 0 ≤ (x5_1 : Int) := dT
     have q246 : x5_1 < (l0.length : Int) := dT
     obtain ⟨ad246, e246, hx246_0, hx246_1, hx246_2, hx246_3, hx246_4, hx246_5, hx246_6, hx246_7, hx246_8⟩ := at_T70 HR0.out x5_1 p246 q246
     obtain rfl : ad245 = ad246 := (by injection e246)
     replace p246 := eq_true p246; replace q246 := eq_true q246
     have p247 : 0 ≤ (x5_1 : Int) := dT
     have q247 : x5_1 < (l0.length : Int) := dT
     obtain ⟨ad247, e247, hx247_0, hx247_1, hx247_2, hx247_3, hx247_4, hx247_5, hx247_6, hx247_7, hx247_8⟩ := at_T70 HR0.out x5_1 p247 q247
     obtain rfl : ad245 = ad247 := (by injection e247)
     replace p247 := eq_true p247; replace q247 := eq_true q247
     have p248 : 0 ≤ (x5_1 : Int) := dT
     have q248 : x5_1 < (l0.length : Int) := dT
     obtain ⟨ad248, e248, hx248_0, hx248_1, hx248_2, hx248_3, hx248_4, hx248_5, hx248_6, hx248_7, hx248_8⟩ := at_T70 HR0.out x5_1 p248 q248
     obtain rfl : ad245 = ad248 := (by injection e248)
     replace p248 := eq_true p248; replace q248 := eq_true q248
     have p249 : 0 ≤ (x5_1 : Int) := dT
     have q249 : x5_1 < (l0.length : Int) := dT
     obtain ⟨ad249, e249, hx249_0, hx249_1, hx249_2, hx249_3, hx249_4, hx249_5, hx249_6, hx249_7, hx249_8⟩ := at_T70 HR0.out x5_1 p249 q249
     obtain rfl : ad245 = ad249 := (by injection e249)
     replace p249 := eq_true p249; replace q249 := eq_true q249
     have p250 : 0 ≤ (x5_1 : Int) := dT
     have q250 : x5_1 < (l0.length : Int) := dT
     obtain ⟨ad250, e250, hx250_0, hx250_1, hx250_2, hx250_3, hx250_4, hx250_5, hx250_6, hx250_7, hx250_8⟩ := at_T70 HR0.out x5_1 p250 q250
     obtain rfl : ad245 = ad250 := (by injection e250)
     replace p250 := eq_true p250; replace q250 := eq_true q250
     have p251 : 0 ≤ (x5_1 : Int) := dT
     have q251 : x5_1 < (l0.length : Int) := dT
     obtain ⟨ad251, e251, hx251_0, hx251_1, hx251_2, hx251_3, hx251_4, hx251_5, hx251_6, hx251_7, hx251_8⟩ := at_T70 HR0.out x5_1 p251 q251
     obtain rfl : ad245 = ad251 := (by injection e251)
     replace p251 := eq_true p251; replace q251 := eq_true q251
     have p252 : 0 ≤ (x5_1 : Int) := dT
     have q252 : x5_1 < (l0.length : Int) := dT
     obtain ⟨ad252, e252, hx252_0, hx252_1, hx252_2, hx252_3, hx252_4, hx252_5, hx252_6, hx252_7, hx252_8⟩ := at_T70 HR0.out x5_1 p252 q252
     obtain rfl : ad245 = ad252 := (by injection e252)
     replace p252 := eq_true p252; replace q252 := eq_true q252
     have p253 : 0 ≤ (x5_1 : Int) := dT
     have q253 : x5_1 < (l0.length : Int) := dT
     obtain ⟨ad253, e253, hx253_0, hx253_1, hx253_2, hx253_3, hx253_4, hx253_5, hx253_6, hx253_7, hx253_8⟩ := at_T70 HR0.out x5_1 p253 q253
     obtain rfl : ad245 = ad253 := (by injection e253)
     replace p253 := eq_true p253; replace q253 := eq_true q253
     go_wp2
     go_ret
     exact ⟨by first | rfl | (simp; done) | (simp [*]; done), by repeat (first | exact Drawn0.refl _ | apply Drawn0.step)⟩
   rw [if_pos c13] at H
   have c13b0 : (((rd_T70 l0 x5_1).f2.f2) == ((wrap64 ((wrap64 ((wrap64 ((wrap64 ((wrap64 ((wrap64 ((wrap64 ((wrap64 (x1_1 + 1)) + 1)) + 1)) + 1)) + 1)) + 1)) + 1)) + 1)) % 4294967296)) = true := beq_iff_eq.mpr c13
   have c13b1 : (((rd_T70 l0 x5_1).f2.f2) != ((wrap64 ((wrap64 ((wrap64 ((wrap64 ((wrap64 ((wrap64 ((wrap64 ((wrap64 (x1_1 + 1)) + 1)) + 1)) + 1)) + 1)) + 1)) + 1)) + 1)) % 4294967296)) = false := bne_eq_false_iff_eq.mpr c13
   clear c13
   have H' := AM H
   clear H
   have p245 : 0 ≤ (x5_1 : Int) := dT
   have q245 : x5_1 < (l0.length : Int) := dT
   obtain ⟨ad245, e245, hx245_0, hx245_1, hx245_2, hx245_3, hx245_4, hx245_5, hx245_6, hx245_7, hx245_8⟩ := at_T70 HR0.out x5_1 p245 q245
   cases e245
   replace p245 := eq_true p245; replace q245 := eq_true q245
   have p246 : 0 ≤ (x5_1 : Int) := dT
   have q246 : x5_1 < (l0.length : Int) := dT
   obtain ⟨ad246, e246, hx246_0, hx246_1, hx246_2, hx246_3, hx246_4, hx246_5, hx246_6, hx246_7, hx246_8⟩ := at_T70 HR0.out x5_1 p246 q246
   obtain rfl : ad245 = ad246 := (by injection e246)
   replace p246 := eq_true p246; replace q246 := eq_true q246
   have p247 : 0 ≤ (x5_1 : Int) := dT
   have q247 : x5_1 < (l0.length : Int) := dT
   obtain ⟨ad247, e247, hx247_0, hx247_1, hx247_2, hx247_3, hx247_4, hx247_5, hx247_6, hx247_7, hx247_8⟩ := at_T70 HR0.out x5_1 p247 q247
   obtain rfl : ad245 = ad247 := (by injection e247)
   replace p247 := eq_true p247; replace q247 := eq_true q247
   have p248 : 0 ≤ (x5_1 : Int) := dT
   have q248 : x5_1 < (l0.length : Int) := dT
   obtain ⟨ad248, e248, hx248_0, hx248_1, hx248_2, hx248_3, hx248_4, hx248_5, hx248_6, hx248_7, hx248_8⟩ := at_T70 HR0.out x5_1 p248 q248
   obtain rfl : ad245 = ad248 := (by injection e248)
   replace p248 := eq_true p248; replace q248 := eq_true q248
   have p249 : 0 ≤ (x5_1 : Int) := dT
   have q249 : x5_1 < (l0.length : Int) := dT
   obtain ⟨ad249, e249, hx249_0, hx249_1, hx249_2, hx249_3, hx249_4, hx249_5, hx249_6, hx249_7, hx249_8⟩ := at_T70 HR0.out x5_1 p249 q249
   obtain rfl : ad245 = ad249 := (by injection e249)
   replace p249 := eq_true p249; replace q249 := eq_true q249
   have p250 : 0 ≤ (x5_1 : Int) := dT
   have q250 : x5_1 < (l0.length : Int) := dT
   obtain ⟨ad250, e250, hx250_0, hx250_1, hx250_2, hx250_3, hx250_4, hx250_5, hx250_6, hx250_7, hx250_8⟩ := at_T70 HR0.out x5_1 p250 q250
   obtain rfl : ad245 = ad250 := (by injection e250)
   replace p250 := eq_true p250; replace q250 := eq_true q250
   have p251 : 0 ≤ (x5_1 : Int) := dT
   have q251 : x5_1 < (l0.length : Int) := dT
   obtain ⟨ad251, e251, hx251_0, hx251_1, hx251_2, hx251_3, hx251_4, hx251_5, hx251_6, hx251_7, hx251_8⟩ := at_T70 HR0.out x5_1 p251 q251
   obtain rfl : ad245 = ad251 := (by injection e251)
   replace p251 := eq_true p251; replace q251 := eq_true q251
   have p252 : 0 ≤ (x5_1 : Int) := dT
   have q252 : x5_1 < (l0.length : Int) := dT
   obtain ⟨ad252, e252, hx252_0, hx252_1, hx252_2, hx252_3, hx252_4, hx252_5, hx252_6, hx252_7, hx252_8⟩ := at_T70 HR0.out x5_1 p252 q252
   obtain rfl : ad245 = ad252 := (by injection e252)
   replace p252 := eq_true p252; replace q252 := eq_true q252
   have p253 : 0 ≤ (x5_1 : Int) := dT
   have q253 : x5_1 < (l0.length : Int) := dT
   obtain ⟨ad253, e253, hx253_0, hx253_1, hx253_2, hx253_3, hx253_4, hx253_5, hx253_6, hx253_7, hx253_8⟩ := at_T70 HR0.out x5_1 p253 q253
   obtain rfl : ad245 = ad253 := (by injection e253)
   replace p253 := eq_true p253; replace q253 := eq_true q253
   go_wp2
   go_roundg k1
   case measure => have := HK1.out; omega
   case rel => exact ⟨(wrap64 ((wrap64 ((wrap64 ((wrap64 ((wrap64 ((wrap64 ((wrap64 ((wrap64 ((wrap64 (x1_1 + 1)) + 1)) + 1)) + 1)) + 1)) + 1)) + 1)) + 1)) + 1)), (wrap64 (x5_1 + 1)), eR, eR, H', ⟨by have := HK1.out; omega⟩, by repeat (first | exact Drawn0.refl _ | apply Drawn0.step)⟩
/-! ### laws_heldRayS: function 43 -/
def laws_heldRayS.l0 : Nat → List (S72) → Int → Int → Option (Int)
 | 0, _, _, _ => none
 | k + 1, x0, x1, x5 => if x5 < (x0.length : Int) then (if 0 ≤ x5 then (if ((rd_T72 x0 x5).f0.f0) = ((x1) % 4294967296) then (if ((rd_T72 x0 x5).f0.f1) = ((wrap64 (x1 + 1)) % 4294967296) then (if ((rd_T72 x0 x5).f0.f2) = ((wrap64 ((wrap64 (x1 + 1)) + 1)) % 4294967296) then (if ((rd_T72 x0 x5).f1.f0) = ((wrap64 ((wrap64 ((wrap64 (x1 + 1)) + 1)) + 1)) % 4294967296) then (if ((rd_T72 x0 x5).f1.f1) = ((wrap64 ((wrap64 ((wrap64 ((wrap64 (x1 + 1)) + 1)) + 1)) + 1)) % 4294967296) then (if ((rd_T72 x0 x5).f1.f2) = ((wrap64 ((wrap64 ((wrap64 ((wrap64 ((wrap64 (x1 + 1)) + 1)) + 1)) + 1)) + 1)) % 4294967296) then (laws_heldRayS.l0 k x0 (wrap64 ((wrap64 ((wrap64 ((wrap64 ((wrap64 ((wrap64 (x1 + 1)) + 1)) + 1)) + 1)) + 1)) + 1)) (wrap64 (x5 + 1))) else (some (-1))) else (some (-1))) else (some (-1))) else (some (-1))) else (some (-1))) else (some (-1))) else (none)) else (some x1)
def laws_heldRayS.f (k : Nat) (l0 : List (S72)) (a1 : Int) : Option (Int) := laws_heldRayS.l0 k l0 a1 0
theorem laws_heldRayS.mono_l : ∀ k, (∀ y0 y1 y2, LeO (laws_heldRayS.l0 k y0 y1 y2) (laws_heldRayS.l0 (k + 1) y0 y1 y2))
 | 0 => fun _ _ _ r h => by simp [laws_heldRayS.l0] at h
 | k + 1 => by
  have ih0 := laws_heldRayS.mono_l k
  · intro y0 y1 y2
    unfold laws_heldRayS.l0
    repeat' with_reducible first | exact ih0 _ _ _ | exact LeO.refl _ | exact LeO.none _ | refine LeO.ite ?_ ?_ | refine LeO.bind ?_ (fun _ => ?_)
theorem laws_heldRayS.mono : ∀ a0 a1 k, LeO (laws_heldRayS.f k a0 a1) (laws_heldRayS.f (k + 1) a0 a1) := by
 intro a0 a1 k
 have ih0 := laws_heldRayS.mono_l k
 unfold laws_heldRayS.f
 repeat' with_reducible first | exact ih0 _ _ _ | exact LeO.refl _ | exact LeO.none _ | refine LeO.ite ?_ ?_ | refine LeO.bind ?_ (fun _ => ?_)
theorem laws_heldRayS.calls (k : Nat) (A0 : Option Addr) (c0 : Nat) (l0 : List (S72)) (a1 : Int) (r : Int) (w : World) (hr0 : Kd.C k72 w A0 l0.length l0) (hc0 : l0.length ≤ c0) (h : laws_heldRayS.f k l0 a1 = some r) :
 Calls Tryd.prog 43 #[.slice A0 l0.length c0, .int .i64 a1] w fun e w' => e = .returned (.int .i64 r) ∧ Drawn0 w w' := by
 have HR0 := AM hr0; have HC0 := AM hc0; clear hr0 hc0
 have H : (laws_heldRayS.l0 k l0 a1 0) = some r := h
 clear h
 have H' := AM H
 clear H
 go_enter Tryd.func43, Tryd.ntmps43
 go_wp2
 go_loopg [1, 5] k (fun kq v1 v5 w' => ∃ (x1_1 : Int) (x5_1 : Int), v1 = .int .i64 x1_1 ∧ v5 = .int .i64 x5_1 ∧ Aside0 (laws_heldRayS.l0 kq l0 x1_1 x5_1 = some r) ∧ Aside0 (kq ≤ k) ∧ Drawn0 w w')
 case atStart => exact ⟨(a1), (0), eR, eR, H', ⟨Nat.le_refl _⟩, by repeat (first | exact Drawn0.refl _ | apply Drawn0.step)⟩
 case round =>
  clear H'
  try clear p2
  obtain ⟨x1_1, x5_1, rfl, rfl, HA, HK1, ⟨m1, rfl⟩⟩ := hrel
  cases gk with
  | zero => exact absurd HA.out (by simp [laws_heldRayS.l0])
  | succ k1 =>
   have H := HA.out; clear HA
   simp only [laws_heldRayS.l0] at H
   by_cases c3 : x5_1 < (l0.length : Int)
   rotate_left
   · rw [if_neg c3] at H
     have c3b0 : decide (x5_1 < (l0.length : Int)) = false := decide_eq_false c3
     clear c3
     obtain rfl := Option.some.inj H
     go_wp2
     go_ret
     exact ⟨by first | rfl | (simp; done) | (simp [*]; done), by repeat (first | exact Drawn0.refl _ | apply Drawn0.step)⟩

   rw [if_pos c3] at H
   have c3b0 : decide (x5_1 < (l0.length : Int)) = true := decide_eq_true c3
   clear c3
   by_cases c4 : 0 ≤ x5_1
   rotate_left
   · rw [if_neg c4] at H
     exact absurd H (by simp)
   rw [if_pos c4] at H
   have c4b0 : decide (0 ≤ x5_1) = true := decide_eq_true c4
   clear c4
   by_cases c5 : ((rd_T72 l0 x5_1).f0.f0) = ((x1_1) % 4294967296)
   rotate_left
   · rw [if_neg c5] at H
     have c5b0 : (((rd_T72 l0 x5_1).f0.f0) == ((x1_1) % 4294967296)) = false := beq_eq_false_iff_ne.mpr c5
     have c5b1 : (((rd_T72 l0 x5_1).f0.f0) != ((x1_1) % 4294967296)) = true := bne_iff_ne.mpr c5
     obtain rfl := Option.some.inj H
     have p254 : 0 ≤ (x5_1 : Int) := dT
     have q254 : x5_1 < (l0.length : Int) := dT
     obtain ⟨ad254, e254, hx254_0, hx254_1, hx254_2, hx254_3, hx254_4, hx254_5⟩ := at_T72 HR0.out x5_1 p254 q254
     cases e254
     replace p254 := eq_true p254; replace q254 := eq_true q254
     go_wp2
     go_ret
     exact ⟨by first | rfl | (simp; done) | (simp [*]; done), by repeat (first | exact Drawn0.refl _ | apply Drawn0.step)⟩
   rw [if_pos c5] at H
   have c5b0 : (((rd_T72 l0 x5_1).f0.f0) == ((x1_1) % 4294967296)) = true := beq_iff_eq.mpr c5
   have c5b1 : (((rd_T72 l0 x5_1).f0.f0) != ((x1_1) % 4294967296)) = false := bne_eq_false_iff_eq.mpr c5
   clear c5
   by_cases c6 : ((rd_T72 l0 x5_1).f0.f1) = ((wrap64 (x1_1 + 1)) % 4294967296)
   rotate_left
   · rw [if_neg c6] at H
     have c6b0 : (((rd_T72 l0 x5_1).f0.f1) == ((wrap64 (x1_1 + 1)) % 4294967296)) = false := beq_eq_false_iff_ne.mpr c6
     have c6b1 : (((rd_T72 l0 x5_1).f0.f1) != ((wrap64 (x1_1 + 1)) % 4294967296)) = true := bne_iff_ne.mpr c6
     obtain rfl := Option.some.inj H
     have p254 : 0 ≤ (x5_1 : Int) := dT
     have q254 : x5_1 < (l0.length : Int) := dT
     obtain ⟨ad254, e254, hx254_0, hx254_1, hx254_2, hx254_3, hx254_4, hx254_5⟩ := at_T72 HR0.out x5_1 p254 q254
     cases e254
     replace p254 := eq_true p254; replace q254 := eq_true q254
     have p255 : 0 ≤ (x5_1 : Int) := dT
     have q255 : x5_1 < (l0.length : Int) := dT
     obtain ⟨ad255, e255, hx255_0, hx255_1, hx255_2, hx255_3, hx255_4, hx255_5⟩ := at_T72 HR0.out x5_1 p255 q255
     obtain rfl : ad254 = ad255 := (by injection e255)
     replace p255 := eq_true p255; replace q255 := eq_true q255
     go_wp2
     go_ret
     exact ⟨by first | rfl | (simp; done) | (simp [*]; done), by repeat (first | exact Drawn0.refl _ | apply Drawn0.step)⟩
   rw [if_pos c6] at H
   have c6b0 : (((rd_T72 l0 x5_1).f0.f1) == ((wrap64 (x1_1 + 1)) % 4294967296)) = true := beq_iff_eq.mpr c6
   have c6b1 : (((rd_T72 l0 x5_1).f0.f1) != ((wrap64 (x1_1 + 1)) % 4294967296)) = false := bne_eq_false_iff_eq.mpr c6
   clear c6
   by_cases c7 : ((rd_T72 l0 x5_1).f0.f2) = ((wrap64 ((wrap64 (x1_1 + 1)) + 1)) % 4294967296)
   rotate_left
   · rw [if_neg c7] at H
     have c7b0 : (((rd_T72 l0 x5_1).f0.f2) == ((wrap64 ((wrap64 (x1_1 + 1)) + 1)) % 4294967296)) = false := beq_eq_false_iff_ne.mpr c7
     have c7b1 : (((rd_T72 l0 x5_1).f0.f2) != ((wrap64 ((wrap64 (x1_1 + 1)) + 1)) % 4294967296)) = true := bne_iff_ne.mpr c7
     obtain rfl := Option.some.inj H
     have p254 : 0 ≤ (x5_1 : Int) := dT
     have q254 : x5_1 < (l0.length : Int) := dT
     obtain ⟨ad254, e254, hx254_0, hx254_1, hx254_2, hx254_3, hx254_4, hx254_5⟩ := at_T72 HR0.out x5_1 p254 q254
     cases e254
     replace p254 := eq_true p254; replace q254 := eq_true q254
     have p255 : 0 ≤ (x5_1 : Int) := dT
     have q255 : x5_1 < (l0.length : Int) := dT
     obtain ⟨ad255, e255, hx255_0, hx255_1, hx255_2, hx255_3, hx255_4, hx255_5⟩ := at_T72 HR0.out x5_1 p255 q255
     obtain rfl : ad254 = ad255 := (by injection e255)
     replace p255 := eq_true p255; replace q255 := eq_true q255
     have p256 : 0 ≤ (x5_1 : Int) := dT
     have q256 : x5_1 < (l0.length : Int) := dT
     obtain ⟨ad256, e256, hx256_0, hx256_1, hx256_2, hx256_3, hx256_4, hx256_5⟩ := at_T72 HR0.out x5_1 p256 q256
     obtain rfl : ad254 = ad256 := (by injection e256)
     replace p256 := eq_true p256; replace q256 := eq_true q256
     go_wp2
     go_ret
     exact ⟨by first | rfl | (simp; done) | (simp [*]; done), by repeat (first | exact Drawn0.refl _ | apply Drawn0.step)⟩
   rw [if_pos c7] at H
   have c7b0 : (((rd_T72 l0 x5_1).f0.f2) == ((wrap64 ((wrap64 (x1_1 + 1)) + 1)) % 4294967296)) = true := beq_iff_eq.mpr c7
   have c7b1 : (((rd_T72 l0 x5_1).f0.f2) != ((wrap64 ((wrap64 (x1_1 + 1)) + 1)) % 4294967296)) = false := bne_eq_false_iff_eq.mpr c7
   clear c7
   by_cases c8 : ((rd_T72 l0 x5_1).f1.f0) = ((wrap64 ((wrap64 ((wrap64 (x1_1 + 1)) + 1)) + 1)) % 4294967296)
   rotate_left
   · rw [if_neg c8] at H
     have c8b0 : (((rd_T72 l0 x5_1).f1.f0) == ((wrap64 ((wrap64 ((wrap64 (x1_1 + 1)) + 1)) + 1)) % 4294967296)) = false := beq_eq_false_iff_ne.mpr c8
     have c8b1 : (((rd_T72 l0 x5_1).f1.f0) != ((wrap64 ((wrap64 ((wrap64 (x1_1 + 1)) + 1)) + 1)) % 4294967296)) = true := bne_iff_ne.mpr c8
     obtain rfl := Option.some.inj H
     have p254 : 0 ≤ (x5_1 : Int) := dT
     have q254 : x5_1 < (l0.length : Int) := dT
     obtain ⟨ad254, e254, hx254_0, hx254_1, hx254_2, hx254_3, hx254_4, hx254_5⟩ := at_T72 HR0.out x5_1 p254 q254
     cases e254
     replace p254 := eq_true p254; replace q254 := eq_true q254
     have p255 : 0 ≤ (x5_1 : Int) := dT
     have q255 : x5_1 < (l0.length : Int) := dT
     obtain ⟨ad255, e255, hx255_0, hx255_1, hx255_2, hx255_3, hx255_4, hx255_5⟩ := at_T72 HR0.out x5_1 p255 q255
     obtain rfl : ad254 = ad255 := (by injection e255)
     replace p255 := eq_true p255; replace q255 := eq_true q255
     have p256 : 0 ≤ (x5_1 : Int) := dT
     have q256 : x5_1 < (l0.length : Int) := dT
     obtain ⟨ad256, e256, hx256_0, hx256_1, hx256_2, hx256_3, hx256_4, hx256_5⟩ := at_T72 HR0.out x5_1 p256 q256
     obtain rfl : ad254 = ad256 := (by injection e256)
     replace p256 := eq_true p256; replace q256 := eq_true q256
     have p257 : 0 ≤ (x5_1 : Int) := dT
     have q257 : x5_1 < (l0.length : Int) := dT
     obtain ⟨ad257, e257, hx257_0, hx257_1, hx257_2, hx257_3, hx257_4, hx257_5⟩ := at_T72 HR0.out x5_1 p257 q257
     obtain rfl : ad254 = ad257 := (by injection e257)
     replace p257 := eq_true p257; replace q257 := eq_true q257
     go_wp2
     go_ret
     exact ⟨by first | rfl | (simp; done) | (simp [*]; done), by repeat (first | exact Drawn0.refl _ | apply Drawn0.step)⟩
   rw [if_pos c8] at H
   have c8b0 : (((rd_T72 l0 x5_1).f1.f0) == ((wrap64 ((wrap64 ((wrap64 (x1_1 + 1)) + 1)) + 1)) % 4294967296)) = true := beq_iff_eq.mpr c8
   have c8b1 : (((rd_T72 l0 x5_1).f1.f0) != ((wrap64 ((wrap64 ((wrap64 (x1_1 + 1)) + 1)) + 1)) % 4294967296)) = false := bne_eq_false_iff_eq.mpr c8
   clear c8
   by_cases c9 : ((rd_T72 l0 x5_1).f1.f1) = ((wrap64 ((wrap64 ((wrap64 ((wrap64 (x1_1 + 1)) + 1)) + 1)) + 1)) % 4294967296)
   rotate_left
   · rw [if_neg c9] at H
     have c9b0 : (((rd_T72 l0 x5_1).f1.f1) == ((wrap64 ((wrap64 ((wrap64 ((wrap64 (x1_1 + 1)) + 1)) + 1)) + 1)) % 4294967296)) = false := beq_eq_false_iff_ne.mpr c9
     have c9b1 : (((rd_T72 l0 x5_1).f1.f1) != ((wrap64 ((wrap64 ((wrap64 ((wrap64 (x1_1 + 1)) + 1)) + 1)) + 1)) % 4294967296)) = true := bne_iff_ne.mpr c9
     obtain rfl := Option.some.inj H
     have p254 : 0 ≤ (x5_1 : Int) := dT
     have q254 : x5_1 < (l0.length : Int) := dT
     obtain ⟨ad254, e254, hx254_0, hx254_1, hx254_2, hx254_3, hx254_4, hx254_5⟩ := at_T72 HR0.out x5_1 p254 q254
     cases e254
     replace p254 := eq_true p254; replace q254 := eq_true q254
     have p255 : 0 ≤ (x5_1 : Int) := dT
     have q255 : x5_1 < (l0.length : Int) := dT
     obtain ⟨ad255, e255, hx255_0, hx255_1, hx255_2, hx255_3, hx255_4, hx255_5⟩ := at_T72 HR0.out x5_1 p255 q255
     obtain rfl : ad254 = ad255 := (by injection e255)
     replace p255 := eq_true p255; replace q255 := eq_true q255
     have p256 : 0 ≤ (x5_1 : Int) := dT
     have q256 : x5_1 < (l0.length : Int) := dT
     obtain ⟨ad256, e256, hx256_0, hx256_1, hx256_2, hx256_3, hx256_4, hx256_5⟩ := at_T72 HR0.out x5_1 p256 q256
     obtain rfl : ad254 = ad256 := (by injection e256)
     replace p256 := eq_true p256; replace q256 := eq_true q256
     have p257 : 0 ≤ (x5_1 : Int) := dT
     have q257 : x5_1 < (l0.length : Int) := dT
     obtain ⟨ad257, e257, hx257_0, hx257_1, hx257_2, hx257_3, hx257_4, hx257_5⟩ := at_T72 HR0.out x5_1 p257 q257
     obtain rfl : ad254 = ad257 := (by injection e257)
     replace p257 := eq_true p257; replace q257 := eq_true q257
     have p258 : 0 ≤ (x5_1 : Int) := dT
     have q258 : x5_1 < (l0.length : Int) := dT
     obtain ⟨ad258, e258, hx258_0, hx258_1, hx258_2, hx258_3, hx258_4, hx258_5⟩ := at_T72 HR0.out x5_1 p258 q258
     obtain rfl : ad254 = ad258 := (by injection e258)
     replace p258 := eq_true p258; replace q258 := eq_true q258
     go_wp2
     go_ret
     exact ⟨by first | rfl | (simp; done) | (simp [*]; done), by repeat (first | exact Drawn0.refl _ | apply Drawn0.step)⟩
   rw [if_pos c9] at H
   have c9b0 : (((rd_T72 l0 x5_1).f1.f1) == ((wrap64 ((wrap64 ((wrap64 ((wrap64 (x1_1 + 1)) + 1)) + 1)) + 1)) % 4294967296)) = true := beq_iff_eq.mpr c9
   have c9b1 : (((rd_T72 l0 x5_1).f1.f1) != ((wrap64 ((wrap64 ((wrap64 ((wrap64 (x1_1 + 1)) + 1)) + 1)) + 1)) % 4294967296)) = false := bne_eq_false_iff_eq.mpr c9
   clear c9
   by_cases c10 : ((rd_T72 l0 x5_1).f1.f2) = ((wrap64 ((wrap64 ((wrap64 ((wrap64 ((wrap64 (x1_1 + 1)) + 1)) + 1)) + 1)) + 1)) % 4294967296)
   rotate_left
   · rw [if_neg c10] at H
     have c10b0 : (((rd_T72 l0 x5_1).f1.f2) == ((wrap64 ((wrap64 ((wrap64 ((wrap64 ((wrap64 (x1_1 + 1)) + 1)) + 1)) + 1)) + 1)) % 4294967296)) = false := beq_eq_false_iff_ne.mpr c10
     have c10b1 : (((rd_T72 l0 x5_1).f1.f2) != ((wrap64 ((wrap64 ((wrap64 ((wrap64 ((wrap64 (x1_1 + 1)) + 1)) + 1)) + 1)) + 1)) % 4294967296)) = true := bne_iff_ne.mpr c10
     obtain rfl := Option.some.inj H
     have p254 : 0 ≤ (x5_1 : Int) := dT
     have q254 : x5_1 < (l0.length : Int) := dT
     obtain ⟨ad254, e254, hx254_0, hx254_1, hx254_2, hx254_3, hx254_4, hx254_5⟩ := at_T72 HR0.out x5_1 p254 q254
     cases e254
     replace p254 := eq_true p254; replace q254 := eq_true q254
     have p255 : 0 ≤ (x5_1 : Int) := dT
     have q255 : x5_1 < (l0.length : Int) := dT
     obtain ⟨ad255, e255, hx255_0, hx255_1, hx255_2, hx255_3, hx255_4, hx255_5⟩ := at_T72 HR0.out x5_1 p255 q255
     obtain rfl : ad254 = ad255 := (by injection e255)
     replace p255 := eq_true p255; replace q255 := eq_true q255
     have p256 : 0 ≤ (x5_1 : Int) := dT
     have q256 : x5_1 < (l0.length : Int) := dT
     obtain ⟨ad256, e256, hx256_0, hx256_1, hx256_2, hx256_3, hx256_4, hx256_5⟩ := at_T72 HR0.out x5_1 p256 q256
     obtain rfl : ad254 = ad256 := (by injection e256)
     replace p256 := eq_true p256; replace q256 := eq_true q256
     have p257 : 0 ≤ (x5_1 : Int) := dT
     have q257 : x5_1 < (l0.length : Int) := dT
     obtain ⟨ad257, e257, hx257_0, hx257_1, hx257_2, hx257_3, hx257_4, hx257_5⟩ := at_T72 HR0.out x5_1 p257 q257
     obtain rfl : ad254 = ad257 := (by injection e257)
     replace p257 := eq_true p257; replace q257 := eq_true q257
     have p258 : 0 ≤ (x5_1 : Int) := dT
     have q258 : x5_1 < (l0.length : Int) := dT
     obtain ⟨ad258, e258, hx258_0, hx258_1, hx258_2, hx258_3, hx258_4, hx258_5⟩ := at_T72 HR0.out x5_1 p258 q258
     obtain rfl : ad254 = ad258 := (by injection e258)
     replace p258 := eq_true p258; replace q258 := eq_true q258
     have p259 : 0 ≤ (x5_1 : Int) := dT
     have q259 : x5_1 < (l0.length : Int) := dT
     obtain ⟨ad259, e259, hx259_0, hx259_1, hx259_2, hx259_3, hx259_4, hx259_5⟩ := at_T72 HR0.out x5_1 p259 q259
     obtain rfl : ad254 = ad259 := (by injection e259)
     replace p259 := eq_true p259; replace q259 := eq_true q259
     go_wp2
     go_ret
     exact ⟨by first | rfl | (simp; done) | (simp [*]; done), by repeat (first | exact Drawn0.refl _ | apply Drawn0.step)⟩
   rw [if_pos c10] at H
   have c10b0 : (((rd_T72 l0 x5_1).f1.f2) == ((wrap64 ((wrap64 ((wrap64 ((wrap64 ((wrap64 (x1_1 + 1)) + 1)) + 1)) + 1)) + 1)) % 4294967296)) = true := beq_iff_eq.mpr c10
   have c10b1 : (((rd_T72 l0 x5_1).f1.f2) != ((wrap64 ((wrap64 ((wrap64 ((wrap64 ((wrap64 (x1_1 + 1)) + 1)) + 1)) + 1)) + 1)) % 4294967296)) = false := bne_eq_false_iff_eq.mpr c10
   clear c10
   have H' := AM H
   clear H
   have p254 : 0 ≤ (x5_1 : Int) := dT
   have q254 : x5_1 < (l0.length : Int) := dT
   obtain ⟨ad254, e254, hx254_0, hx254_1, hx254_2, hx254_3, hx254_4, hx254_5⟩ := at_T72 HR0.out x5_1 p254 q254
   cases e254
   replace p254 := eq_true p254; replace q254 := eq_true q254
   have p255 : 0 ≤ (x5_1 : Int) := dT
   have q255 : x5_1 < (l0.length : Int) := dT
   obtain ⟨ad255, e255, hx255_0, hx255_1, hx255_2, hx255_3, hx255_4, hx255_5⟩ := at_T72 HR0.out x5_1 p255 q255
   obtain rfl : ad254 = ad255 := (by injection e255)
   replace p255 := eq_true p255; replace q255 := eq_true q255
   have p256 : 0 ≤ (x5_1 : Int) := dT
   have q256 : x5_1 < (l0.length : Int) := dT
   obtain ⟨ad256, e256, hx256_0, hx256_1, hx256_2, hx256_3, hx256_4, hx256_5⟩ := at_T72 HR0.out x5_1 p256 q256
   obtain rfl : ad254 = ad256 := (by injection e256)
   replace p256 := eq_true p256; replace q256 := eq_true q256
   have p257 : 0 ≤ (x5_1 : Int) := dT
   have q257 : x5_1 < (l0.length : Int) := dT
   obtain ⟨ad257, e257, hx257_0, hx257_1, hx257_2, hx257_3, hx257_4, hx257_5⟩ := at_T72 HR0.out x5_1 p257 q257
   obtain rfl : ad254 = ad257 := (by injection e257)
   replace p257 := eq_true p257; replace q257 := eq_true q257
   have p258 : 0 ≤ (x5_1 : Int) := dT
   have q258 : x5_1 < (l0.length : Int) := dT
   obtain ⟨ad258, e258, hx258_0, hx258_1, hx258_2, hx258_3, hx258_4, hx258_5⟩ := at_T72 HR0.out x5_1 p258 q258
   obtain rfl : ad254 = ad258 := (by injection e258)
   replace p258 := eq_true p258; replace q258 := eq_true q258
   have p259 : 0 ≤ (x5_1 : Int) := dT
   have q259 : x5_1 < (l0.length : Int) := dT
   obtain ⟨ad259, e259, hx259_0, hx259_1, hx259_2, hx259_3, hx259_4, hx259_5⟩ := at_T72 HR0.out x5_1 p259 q259
   obtain rfl : ad254 = ad259 := (by injection e259)
   replace p259 := eq_true p259; replace q259 := eq_true q259
   go_wp2
   go_roundg k1
   case measure => have := HK1.out; omega
   case rel => exact ⟨(wrap64 ((wrap64 ((wrap64 ((wrap64 ((wrap64 ((wrap64 (x1_1 + 1)) + 1)) + 1)) + 1)) + 1)) + 1)), (wrap64 (x5_1 + 1)), eR, eR, H', ⟨by have := HK1.out; omega⟩, by repeat (first | exact Drawn0.refl _ | apply Drawn0.step)⟩
/-! ### laws_heldPointS: function 44 -/
def laws_heldPointS.l0 : Nat → List (S67) → Int → Int → Option (Int)
 | 0, _, _, _ => none
 | k + 1, x0, x1, x5 => if x5 < (x0.length : Int) then (if 0 ≤ x5 then (if ((rd_T67 x0 x5).f0) = ((x1) % 4294967296) then (if ((rd_T67 x0 x5).f1) = ((wrap64 (x1 + 1)) % 4294967296) then (if ((rd_T67 x0 x5).f2) = ((wrap64 ((wrap64 (x1 + 1)) + 1)) % 4294967296) then (laws_heldPointS.l0 k x0 (wrap64 ((wrap64 ((wrap64 (x1 + 1)) + 1)) + 1)) (wrap64 (x5 + 1))) else (some (-1))) else (some (-1))) else (some (-1))) else (none)) else (some x1)
def laws_heldPointS.f (k : Nat) (l0 : List (S67)) (a1 : Int) : Option (Int) := laws_heldPointS.l0 k l0 a1 0
theorem laws_heldPointS.mono_l : ∀ k, (∀ y0 y1 y2, LeO (laws_heldPointS.l0 k y0 y1 y2) (laws_heldPointS.l0 (k + 1) y0 y1 y2))
 | 0 => fun _ _ _ r h => by simp [laws_heldPointS.l0] at h
 | k + 1 => by
  have ih0 := laws_heldPointS.mono_l k
  · intro y0 y1 y2
    unfold laws_heldPointS.l0
    repeat' with_reducible first | exact ih0 _ _ _ | exact LeO.refl _ | exact LeO.none _ | refine LeO.ite ?_ ?_ | refine LeO.bind ?_ (fun _ => ?_)
theorem laws_heldPointS.mono : ∀ a0 a1 k, LeO (laws_heldPointS.f k a0 a1) (laws_heldPointS.f (k + 1) a0 a1) := by
 intro a0 a1 k
 have ih0 := laws_heldPointS.mono_l k
 unfold laws_heldPointS.f
 repeat' with_reducible first | exact ih0 _ _ _ | exact LeO.refl _ | exact LeO.none _ | refine LeO.ite ?_ ?_ | refine LeO.bind ?_ (fun _ => ?_)
theorem laws_heldPointS.calls (k : Nat) (A0 : Option Addr) (c0 : Nat) (l0 : List (S67)) (a1 : Int) (r : Int) (w : World) (hr0 : Kd.C k67 w A0 l0.length l0) (hc0 : l0.length ≤ c0) (h : laws_heldPointS.f k l0 a1 = some r) :
 Calls Tryd.prog 44 #[.slice A0 l0.length c0, .int .i64 a1] w fun e w' => e = .returned (.int .i64 r) ∧ Drawn0 w w' := by
 have HR0 := AM hr0; have HC0 := AM hc0; clear hr0 hc0
 have H : (laws_heldPointS.l0 k l0 a1 0) = some r := h
 clear h
 have H' := AM H
 clear H
 go_enter Tryd.func44, Tryd.ntmps44
 go_wp2
 go_loopg [1, 5] k (fun kq v1 v5 w' => ∃ (x1_1 : Int) (x5_1 : Int), v1 = .int .i64 x1_1 ∧ v5 = .int .i64 x5_1 ∧ Aside0 (laws_heldPointS.l0 kq l0 x1_1 x5_1 = some r) ∧ Aside0 (kq ≤ k) ∧ Drawn0 w w')
 case atStart => exact ⟨(a1), (0), eR, eR, H', ⟨Nat.le_refl _⟩, by repeat (first | exact Drawn0.refl _ | apply Drawn0.step)⟩
 case round =>
  clear H'
  try clear p2
  obtain ⟨x1_1, x5_1, rfl, rfl, HA, HK1, ⟨m1, rfl⟩⟩ := hrel
  cases gk with
  | zero => exact absurd HA.out (by simp [laws_heldPointS.l0])
  | succ k1 =>
   have H := HA.out; clear HA
   simp only [laws_heldPointS.l0] at H
   by_cases c3 : x5_1 < (l0.length : Int)
   rotate_left
   · rw [if_neg c3] at H
     have c3b0 : decide (x5_1 < (l0.length : Int)) = false := decide_eq_false c3
     clear c3
     obtain rfl := Option.some.inj H
     go_wp2
     go_ret
     exact ⟨by first | rfl | (simp; done) | (simp [*]; done), by repeat (first | exact Drawn0.refl _ | apply Drawn0.step)⟩

   rw [if_pos c3] at H
   have c3b0 : decide (x5_1 < (l0.length : Int)) = true := decide_eq_true c3
   clear c3
   by_cases c4 : 0 ≤ x5_1
   rotate_left
   · rw [if_neg c4] at H
     exact absurd H (by simp)
   rw [if_pos c4] at H
   have c4b0 : decide (0 ≤ x5_1) = true := decide_eq_true c4
   clear c4
   by_cases c5 : ((rd_T67 l0 x5_1).f0) = ((x1_1) % 4294967296)
   rotate_left
   · rw [if_neg c5] at H
     have c5b0 : (((rd_T67 l0 x5_1).f0) == ((x1_1) % 4294967296)) = false := beq_eq_false_iff_ne.mpr c5
     have c5b1 : (((rd_T67 l0 x5_1).f0) != ((x1_1) % 4294967296)) = true := bne_iff_ne.mpr c5
     obtain rfl := Option.some.inj H
     have p260 : 0 ≤ (x5_1 : Int) := dT
     have q260 : x5_1 < (l0.length : Int) := dT
     obtain ⟨ad260, e260, hx260_0, hx260_1, hx260_2⟩ := at_T67 HR0.out x5_1 p260 q260
     cases e260
     replace p260 := eq_true p260; replace q260 := eq_true q260
     go_wp2
     go_ret
     exact ⟨by first | rfl | (simp; done) | (simp [*]; done), by repeat (first | exact Drawn0.refl _ | apply Drawn0.step)⟩
   rw [if_pos c5] at H
   have c5b0 : (((rd_T67 l0 x5_1).f0) == ((x1_1) % 4294967296)) = true := beq_iff_eq.mpr c5
   have c5b1 : (((rd_T67 l0 x5_1).f0) != ((x1_1) % 4294967296)) = false := bne_eq_false_iff_eq.mpr c5
   clear c5
   by_cases c6 : ((rd_T67 l0 x5_1).f1) = ((wrap64 (x1_1 + 1)) % 4294967296)
   rotate_left
   · rw [if_neg c6] at H
     have c6b0 : (((rd_T67 l0 x5_1).f1) == ((wrap64 (x1_1 + 1)) % 4294967296)) = false := beq_eq_false_iff_ne.mpr c6
     have c6b1 : (((rd_T67 l0 x5_1).f1) != ((wrap64 (x1_1 + 1)) % 4294967296)) = true := bne_iff_ne.mpr c6
     obtain rfl := Option.some.inj H
     have p260 : 0 ≤ (x5_1 : Int) := dT
     have q260 : x5_1 < (l0.length : Int) := dT
     obtain ⟨ad260, e260, hx260_0, hx260_1, hx260_2⟩ := at_T67 HR0.out x5_1 p260 q260
     cases e260
     replace p260 := eq_true p260; replace q260 := eq_true q260
     have p261 : 0 ≤ (x5_1 : Int) := dT
     have q261 : x5_1 < (l0.length : Int) := dT
     obtain ⟨ad261, e261, hx261_0, hx261_1, hx261_2⟩ := at_T67 HR0.out x5_1 p261 q261
     obtain rfl : ad260 = ad261 := (by injection e261)
     replace p261 := eq_true p261; replace q261 := eq_true q261
     go_wp2
     go_ret
     exact ⟨by first | rfl | (simp; done) | (simp [*]; done), by repeat (first | exact Drawn0.refl _ | apply Drawn0.step)⟩
   rw [if_pos c6] at H
   have c6b0 : (((rd_T67 l0 x5_1).f1) == ((wrap64 (x1_1 + 1)) % 4294967296)) = true := beq_iff_eq.mpr c6
   have c6b1 : (((rd_T67 l0 x5_1).f1) != ((wrap64 (x1_1 + 1)) % 4294967296)) = false := bne_eq_false_iff_eq.mpr c6
   clear c6
   by_cases c7 : ((rd_T67 l0 x5_1).f2) = ((wrap64 ((wrap64 (x1_1 + 1)) + 1)) % 4294967296)
   rotate_left
   · rw [if_neg c7] at H
     have c7b0 : (((rd_T67 l0 x5_1).f2) == ((wrap64 ((wrap64 (x1_1 + 1)) + 1)) % 4294967296)) = false := beq_eq_false_iff_ne.mpr c7
     have c7b1 : (((rd_T67 l0 x5_1).f2) != ((wrap64 ((wrap64 (x1_1 + 1)) + 1)) % 4294967296)) = true := bne_iff_ne.mpr c7
     obtain rfl := Option.some.inj H
     have p260 : 0 ≤ (x5_1 : Int) := dT
     have q260 : x5_1 < (l0.length : Int) := dT
     obtain ⟨ad260, e260, hx260_0, hx260_1, hx260_2⟩ := at_T67 HR0.out x5_1 p260 q260
     cases e260
     replace p260 := eq_true p260; replace q260 := eq_true q260
     have p261 : 0 ≤ (x5_1 : Int) := dT
     have q261 : x5_1 < (l0.length : Int) := dT
     obtain ⟨ad261, e261, hx261_0, hx261_1, hx261_2⟩ := at_T67 HR0.out x5_1 p261 q261
     obtain rfl : ad260 = ad261 := (by injection e261)
     replace p261 := eq_true p261; replace q261 := eq_true q261
     have p262 : 0 ≤ (x5_1 : Int) := dT
     have q262 : x5_1 < (l0.length : Int) := dT
     obtain ⟨ad262, e262, hx262_0, hx262_1, hx262_2⟩ := at_T67 HR0.out x5_1 p262 q262
     obtain rfl : ad260 = ad262 := (by injection e262)
     replace p262 := eq_true p262; replace q262 := eq_true q262
     go_wp2
     go_ret
     exact ⟨by first | rfl | (simp; done) | (simp [*]; done), by repeat (first | exact Drawn0.refl _ | apply Drawn0.step)⟩
   rw [if_pos c7] at H
   have c7b0 : (((rd_T67 l0 x5_1).f2) == ((wrap64 ((wrap64 (x1_1 + 1)) + 1)) % 4294967296)) = true := beq_iff_eq.mpr c7
   have c7b1 : (((rd_T67 l0 x5_1).f2) != ((wrap64 ((wrap64 (x1_1 + 1)) + 1)) % 4294967296)) = false := bne_eq_false_iff_eq.mpr c7
   clear c7
   have H' := AM H
   clear H
   have p260 : 0 ≤ (x5_1 : Int) := dT
   have q260 : x5_1 < (l0.length : Int) := dT
   obtain ⟨ad260, e260, hx260_0, hx260_1, hx260_2⟩ := at_T67 HR0.out x5_1 p260 q260
   cases e260
   replace p260 := eq_true p260; replace q260 := eq_true q260
   have p261 : 0 ≤ (x5_1 : Int) := dT
   have q261 : x5_1 < (l0.length : Int) := dT
   obtain ⟨ad261, e261, hx261_0, hx261_1, hx261_2⟩ := at_T67 HR0.out x5_1 p261 q261
   obtain rfl : ad260 = ad261 := (by injection e261)
   replace p261 := eq_true p261; replace q261 := eq_true q261
   have p262 : 0 ≤ (x5_1 : Int) := dT
   have q262 : x5_1 < (l0.length : Int) := dT
   obtain ⟨ad262, e262, hx262_0, hx262_1, hx262_2⟩ := at_T67 HR0.out x5_1 p262 q262
   obtain rfl : ad260 = ad262 := (by injection e262)
   replace p262 := eq_true p262; replace q262 := eq_true q262
   go_wp2
   go_roundg k1
   case measure => have := HK1.out; omega
   case rel => exact ⟨(wrap64 ((wrap64 ((wrap64 (x1_1 + 1)) + 1)) + 1)), (wrap64 (x5_1 + 1)), eR, eR, H', ⟨by have := HK1.out; omega⟩, by repeat (first | exact Drawn0.refl _ | apply Drawn0.step)⟩
end Go.Proofs.YtcpdeenhjodmfaaDoor.QDecodeScene
