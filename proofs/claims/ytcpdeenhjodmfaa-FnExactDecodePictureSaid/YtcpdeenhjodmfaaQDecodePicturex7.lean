-- Written by wip/tools/mkprint.py (my program) out of the translation, for this claim. Not trusted: Lean checks it.
import Derived.Test.YtcpdeenhjodmfaaQDecodePicturex0
import Derived.Test.YtcpdeenhjodmfaaQDecodePicturex1
import Derived.Test.YtcpdeenhjodmfaaQDecodePicturex4
import Derived.Test.YtcpdeenhjodmfaaQDecodePicturex5
import Derived.Test.YtcpdeenhjodmfaaQDecodePicturex6
namespace Go.Proofs.Ytcpdeenhjodmfaa.QDecodePicture
open Go.RowKit Go.Proofs.YtcpdeenhjodmfaaW.PrintWords Go.Proofs.YtcpdeenhjodmfaaW.PrintLast Go.Proofs.YtcpdeenhjodmfaaW.PrintMore
attribute [local go_sem] max2_int min2_int max_two min_two max_three min_three max_four min_four   -- for this text's walks alone
set_option linter.unusedVariables false
set_option linter.unusedSimpArgs false

/-! ### laws_heldIntS: function 83 -/
def laws_heldIntS.l0 : Nat → List Int → Int → Int → Option (Int)
 | 0, _, _, _ => none
 | k + 1, x0, x1, x5 => if x5 < (x0.length : Int) then (if 0 ≤ x5 then (if (rd x0 x5) = x1 then (laws_heldIntS.l0 k x0 (wrap64 (x1 + 1)) (wrap64 (x5 + 1))) else (some (-1))) else (none)) else (some x1)
def laws_heldIntS.f (k : Nat) (l0 : List Int) (a1 : Int) : Option (Int) := laws_heldIntS.l0 k l0 a1 0
theorem laws_heldIntS.mono_l : ∀ k, (∀ y0 y1 y2, LeO (laws_heldIntS.l0 k y0 y1 y2) (laws_heldIntS.l0 (k + 1) y0 y1 y2))
 | 0 => fun _ _ _ r h => by simp [laws_heldIntS.l0] at h
 | k + 1 => by
  have ih0 := laws_heldIntS.mono_l k
  · intro y0 y1 y2
    unfold laws_heldIntS.l0
    repeat' with_reducible first | exact ih0 _ _ _ | exact LeO.refl _ | exact LeO.none _ | refine LeO.ite ?_ ?_ | refine LeO.bind ?_ (fun _ => ?_)
theorem laws_heldIntS.mono : ∀ a0 a1 k, LeO (laws_heldIntS.f k a0 a1) (laws_heldIntS.f (k + 1) a0 a1) := by
 intro a0 a1 k
 have ih0 := laws_heldIntS.mono_l k
 unfold laws_heldIntS.f
 repeat' with_reducible first | exact ih0 _ _ _ | exact LeO.refl _ | exact LeO.none _ | refine LeO.ite ?_ ?_ | refine LeO.bind ?_ (fun _ => ?_)
set_option maxHeartbeats 8000000 in
set_option maxRecDepth 100000 in
theorem laws_heldIntS.calls (k : Nat) (A0 : Option Addr) (c0 : Nat) (l0 : List Int) (a1 : Int) (r : Int) (w : World) (hr0 : Kd.C (Kd.int .i64) w A0 l0.length l0) (hc0 : l0.length ≤ c0) (h : laws_heldIntS.f k l0 a1 = some r) :
 Calls Try.prog 83 #[.slice A0 l0.length c0, .int .i64 a1] w fun e w' => e = .returned (.int .i64 r) ∧ Drawn0 w w' := by
 have HR0 := AM hr0; have HC0 := AM hc0; clear hr0 hc0
 have H : (laws_heldIntS.l0 k l0 a1 0) = some r := h
 clear h
 have H' := AM H
 clear H
 go_enter Try.func83, Try.ntmps83
 go_wp2
 go_loopg [1, 5] k (fun kq v1 v5 w' => ∃ (x1_1 : Int) (x5_1 : Int), v1 = .int .i64 x1_1 ∧ v5 = .int .i64 x5_1 ∧ Aside0 (laws_heldIntS.l0 kq l0 x1_1 x5_1 = some r) ∧ Aside0 (kq ≤ k) ∧ Drawn0 w w')
 case atStart => exact ⟨(a1), (0), (by first | rfl | (simp; done) | (simp [*]; done)), (by first | rfl | (simp; done) | (simp [*]; done)), H', ⟨Nat.le_refl _⟩, by repeat (first | exact Drawn0.refl _ | apply Drawn0.step)⟩
 case round =>
  clear H'
  try clear p2
  obtain ⟨x1_1, x5_1, rfl, rfl, HA, HK1, ⟨m1, rfl⟩⟩ := hrel
  cases gk with
  | zero => exact absurd HA.out (by simp [laws_heldIntS.l0])
  | succ k1 =>
   have H := HA.out; clear HA
   simp only [laws_heldIntS.l0] at H
   by_cases c3 : x5_1 < (l0.length : Int)
   rotate_left
   · rw [if_neg c3] at H
     have c3b0 : decide (x5_1 < (l0.length : Int)) = false := decide_eq_false c3
     clear c3
     obtain rfl := Option.some.inj H
     go_wp2
     go_ret
     exact ⟨by first | rfl | (simp; done) | (simp [*]; done), by repeat (first | exact Drawn0.refl _ | apply Drawn0.step)⟩

   rw [if_pos c3] at H
   have c3b0 : decide (x5_1 < (l0.length : Int)) = true := decide_eq_true c3
   clear c3
   by_cases c4 : 0 ≤ x5_1
   rotate_left
   · rw [if_neg c4] at H
     exact absurd H (by simp)
   rw [if_pos c4] at H
   have c4b0 : decide (0 ≤ x5_1) = true := decide_eq_true c4
   clear c4
   by_cases c5 : (rd l0 x5_1) = x1_1
   rotate_left
   · rw [if_neg c5] at H
     have c5b0 : ((rd l0 x5_1) == x1_1) = false := beq_eq_false_iff_ne.mpr c5
     have c5b1 : ((rd l0 x5_1) != x1_1) = true := bne_iff_ne.mpr c5
     obtain rfl := Option.some.inj H
     have p206 : 0 ≤ (x5_1 : Int) := of_decide_eq_true (by first | (with_reducible assumption) | assumption)
     have q206 : x5_1 < (l0.length : Int) := of_decide_eq_true (by first | (with_reducible assumption) | assumption)
     obtain ⟨ad206, e206, hx206_0⟩ := Kd.at_int HR0.out x5_1 p206 q206
     cases e206
     replace p206 := eq_true p206; replace q206 := eq_true q206
     go_wp2
     go_ret
     exact ⟨by first | rfl | (simp; done) | (simp [*]; done), by repeat (first | exact Drawn0.refl _ | apply Drawn0.step)⟩
   rw [if_pos c5] at H
   have c5b0 : ((rd l0 x5_1) == x1_1) = true := beq_iff_eq.mpr c5
   have c5b1 : ((rd l0 x5_1) != x1_1) = false := bne_eq_false_iff_eq.mpr c5
   clear c5
   have H' := AM H
   clear H
   have p206 : 0 ≤ (x5_1 : Int) := of_decide_eq_true (by first | (with_reducible assumption) | assumption)
   have q206 : x5_1 < (l0.length : Int) := of_decide_eq_true (by first | (with_reducible assumption) | assumption)
   obtain ⟨ad206, e206, hx206_0⟩ := Kd.at_int HR0.out x5_1 p206 q206
   cases e206
   replace p206 := eq_true p206; replace q206 := eq_true q206
   go_wp2
   go_roundg k1
   case measure => have := HK1.out; omega
   case rel => exact ⟨(wrap64 (x1_1 + 1)), (wrap64 (x5_1 + 1)), (by first | rfl | (simp; done) | (simp [*]; done)), (by first | rfl | (simp; done) | (simp [*]; done)), H', ⟨by have := HK1.out; omega⟩, by repeat (first | exact Drawn0.refl _ | apply Drawn0.step)⟩
/-! ### laws_heldBoolS: function 84 -/
def laws_heldBoolS.l0 : Nat → List Bool → Int → Int → Option (Int)
 | 0, _, _, _ => none
 | k + 1, x0, x1, x5 => if x5 < (x0.length : Int) then (if 0 ≤ x5 then (if ((rdOf false x0 x5) != ((Int.tmod x1 3) == 0)) = true then (some (-1)) else (laws_heldBoolS.l0 k x0 (wrap64 (x1 + 1)) (wrap64 (x5 + 1)))) else (none)) else (some x1)
def laws_heldBoolS.f (k : Nat) (l0 : List Bool) (a1 : Int) : Option (Int) := laws_heldBoolS.l0 k l0 a1 0
theorem laws_heldBoolS.mono_l : ∀ k, (∀ y0 y1 y2, LeO (laws_heldBoolS.l0 k y0 y1 y2) (laws_heldBoolS.l0 (k + 1) y0 y1 y2))
 | 0 => fun _ _ _ r h => by simp [laws_heldBoolS.l0] at h
 | k + 1 => by
  have ih0 := laws_heldBoolS.mono_l k
  · intro y0 y1 y2
    unfold laws_heldBoolS.l0
    repeat' with_reducible first | exact ih0 _ _ _ | exact LeO.refl _ | exact LeO.none _ | refine LeO.ite ?_ ?_ | refine LeO.bind ?_ (fun _ => ?_)
theorem laws_heldBoolS.mono : ∀ a0 a1 k, LeO (laws_heldBoolS.f k a0 a1) (laws_heldBoolS.f (k + 1) a0 a1) := by
 intro a0 a1 k
 have ih0 := laws_heldBoolS.mono_l k
 unfold laws_heldBoolS.f
 repeat' with_reducible first | exact ih0 _ _ _ | exact LeO.refl _ | exact LeO.none _ | refine LeO.ite ?_ ?_ | refine LeO.bind ?_ (fun _ => ?_)
set_option maxHeartbeats 8000000 in
set_option maxRecDepth 100000 in
theorem laws_heldBoolS.calls (k : Nat) (A0 : Option Addr) (c0 : Nat) (l0 : List Bool) (a1 : Int) (r : Int) (w : World) (hr0 : Kd.C Kd.bool w A0 l0.length l0) (hc0 : l0.length ≤ c0) (h : laws_heldBoolS.f k l0 a1 = some r) :
 Calls Try.prog 84 #[.slice A0 l0.length c0, .int .i64 a1] w fun e w' => e = .returned (.int .i64 r) ∧ Drawn0 w w' := by
 have HR0 := AM hr0; have HC0 := AM hc0; clear hr0 hc0
 have H : (laws_heldBoolS.l0 k l0 a1 0) = some r := h
 clear h
 have H' := AM H
 clear H
 go_enter Try.func84, Try.ntmps84
 go_wp2
 go_loopg [1, 5] k (fun kq v1 v5 w' => ∃ (x1_1 : Int) (x5_1 : Int), v1 = .int .i64 x1_1 ∧ v5 = .int .i64 x5_1 ∧ Aside0 (laws_heldBoolS.l0 kq l0 x1_1 x5_1 = some r) ∧ Aside0 (kq ≤ k) ∧ Drawn0 w w')
 case atStart => exact ⟨(a1), (0), (by first | rfl | (simp; done) | (simp [*]; done)), (by first | rfl | (simp; done) | (simp [*]; done)), H', ⟨Nat.le_refl _⟩, by repeat (first | exact Drawn0.refl _ | apply Drawn0.step)⟩
 case round =>
  clear H'
  try clear p2
  obtain ⟨x1_1, x5_1, rfl, rfl, HA, HK1, ⟨m1, rfl⟩⟩ := hrel
  cases gk with
  | zero => exact absurd HA.out (by simp [laws_heldBoolS.l0])
  | succ k1 =>
   have H := HA.out; clear HA
   simp only [laws_heldBoolS.l0] at H
   by_cases c3 : x5_1 < (l0.length : Int)
   rotate_left
   · rw [if_neg c3] at H
     have c3b0 : decide (x5_1 < (l0.length : Int)) = false := decide_eq_false c3
     clear c3
     obtain rfl := Option.some.inj H
     go_wp2
     go_ret
     exact ⟨by first | rfl | (simp; done) | (simp [*]; done), by repeat (first | exact Drawn0.refl _ | apply Drawn0.step)⟩

   rw [if_pos c3] at H
   have c3b0 : decide (x5_1 < (l0.length : Int)) = true := decide_eq_true c3
   clear c3
   by_cases c4 : 0 ≤ x5_1
   rotate_left
   · rw [if_neg c4] at H
     exact absurd H (by simp)
   rw [if_pos c4] at H
   have c4b0 : decide (0 ≤ x5_1) = true := decide_eq_true c4
   clear c4
   by_cases c5 : ((rdOf false l0 x5_1) != ((Int.tmod x1_1 3) == 0)) = true
   · rw [if_pos c5] at H
     have c5b0 : ((rdOf false l0 x5_1) != ((Int.tmod x1_1 3) == 0)) = true := c5
     (try (have c5b1 : decide ((rdOf false l0 x5_1) = ((Int.tmod x1_1 3) == 0)) = false := by simpa using c5))
     (try (have c5b2 : ((rdOf false l0 x5_1) == ((Int.tmod x1_1 3) == 0)) = false := by simpa using c5))
     (try (have c5b3 : ¬ ((rdOf false l0 x5_1) = ((Int.tmod x1_1 3) == 0)) := by simpa using c5))
     clear c5
     obtain rfl := Option.some.inj H
     have p207 : 0 ≤ (x5_1 : Int) := of_decide_eq_true (by first | (with_reducible assumption) | assumption)
     have q207 : x5_1 < (l0.length : Int) := of_decide_eq_true (by first | (with_reducible assumption) | assumption)
     obtain ⟨ad207, e207, hx207_0⟩ := Kd.at_bool HR0.out x5_1 p207 q207
     cases e207
     replace p207 := eq_true p207; replace q207 := eq_true q207
     go_wp2
     go_ret
     exact ⟨by first | rfl | (simp; done) | (simp [*]; done), by repeat (first | exact Drawn0.refl _ | apply Drawn0.step)⟩
   rw [if_neg c5] at H
   have c5b0 : ((rdOf false l0 x5_1) != ((Int.tmod x1_1 3) == 0)) = false := by simpa using c5
   (try (have c5b1 : decide ((rdOf false l0 x5_1) = ((Int.tmod x1_1 3) == 0)) = true := by simpa using c5))
   (try (have c5b2 : ((rdOf false l0 x5_1) == ((Int.tmod x1_1 3) == 0)) = true := by simpa using c5))
   clear c5
   have H' := AM H
   clear H
   have p207 : 0 ≤ (x5_1 : Int) := of_decide_eq_true (by first | (with_reducible assumption) | assumption)
   have q207 : x5_1 < (l0.length : Int) := of_decide_eq_true (by first | (with_reducible assumption) | assumption)
   obtain ⟨ad207, e207, hx207_0⟩ := Kd.at_bool HR0.out x5_1 p207 q207
   cases e207
   replace p207 := eq_true p207; replace q207 := eq_true q207
   go_wp2
   go_roundg k1
   case measure => have := HK1.out; omega
   case rel => exact ⟨(wrap64 (x1_1 + 1)), (wrap64 (x5_1 + 1)), (by first | rfl | (simp; done) | (simp [*]; done)), (by first | rfl | (simp; done) | (simp [*]; done)), H', ⟨by have := HK1.out; omega⟩, by repeat (first | exact Drawn0.refl _ | apply Drawn0.step)⟩
/-! ### laws_heldPicture: function 36 -/
def laws_heldPicture.f (k : Nat) (l0_0 : List Int) (a0_1 : Int) (l0_2 : List Bool) (a1 : Int) : Option (Int) := (laws_heldIntS.f k l0_0 a1).bind fun t209 => (if t209 < 0 then (some (-1)) else ((laws_heldBoolS.f k l0_2 t209).bind fun t210 => (if t210 < 0 then (some (-1)) else (some t210))))
theorem laws_heldPicture.mono : ∀ a0 a1 a2 a3 k, LeO (laws_heldPicture.f k a0 a1 a2 a3) (laws_heldPicture.f (k + 1) a0 a1 a2 a3) := by
 intro a0 a1 a2 a3 k
 unfold laws_heldPicture.f
 repeat' with_reducible first | exact laws_heldBoolS.mono _ _ _ | exact laws_heldIntS.mono _ _ _ | exact LeO.refl _ | exact LeO.none _ | refine LeO.ite ?_ ?_ | refine LeO.bind ?_ (fun _ => ?_)
set_option maxHeartbeats 8000000 in
set_option maxRecDepth 100000 in
theorem laws_heldPicture.calls (k : Nat) (A0_0 : Option Addr) (c0_0 : Nat) (l0_0 : List Int) (a0_1 : Int) (A0_2 : Option Addr) (c0_2 : Nat) (l0_2 : List Bool) (a1 : Int) (r : Int) (w : World) (hr0_0 : Kd.C (Kd.int .i64) w A0_0 l0_0.length l0_0) (hc0_0 : l0_0.length ≤ c0_0) (hr0_2 : Kd.C Kd.bool w A0_2 l0_2.length l0_2) (hc0_2 : l0_2.length ≤ c0_2) (h : laws_heldPicture.f k l0_0 a0_1 l0_2 a1 = some r) :
 Calls Try.prog 36 #[.agg #[.slice A0_0 l0_0.length c0_0, .int .i64 a0_1, .slice A0_2 l0_2.length c0_2], .int .i64 a1] w fun e w' => e = .returned (.int .i64 r) ∧ Below w.heap.size w w' := by
 have hu43 := Try.underlying43; have HR0_0 := AM hr0_0; have HC0_0 := AM hc0_0; clear hr0_0 hc0_0; have HR0_2 := AM hr0_2; have HC0_2 := AM hc0_2; clear hr0_2 hc0_2; have HB := AM (Below.refl w.heap.size w)
 have H : ((laws_heldIntS.f k l0_0 a1).bind fun t209 => (if t209 < 0 then (some (-1)) else ((laws_heldBoolS.f k l0_2 t209).bind fun t210 => (if t210 < 0 then (some (-1)) else (some t210))))) = some r := h
 clear h
 replace H := Option.bind_eq_some_iff.mp H
 obtain ⟨t209, A30, H⟩ := H
 (try dsimp only at H)
 have A3 := AM A30; clear A30
 by_cases c4 : t209 < 0
 · rw [if_pos c4] at H
   have c4b0 : decide (t209 < 0) = true := decide_eq_true c4
   clear c4
   obtain rfl := Option.some.inj H
   go_enter Try.func36, Try.ntmps36
   go_wp2_with (first | ((with_reducible refine gate_dst (N := 2) rfl ?_); refine box_event ?hg (N := 2) ?hd (cs := #[.slice A0_0 l0_0.length c0_0, .int .i64 a0_1, .slice A0_2 l0_2.length c0_2]) (t := 43) ?hr ?_; (case hd => rfl); (case hg => rfl); (case hr => first | (go_simp; done) | (go_simp; rfl)); intro gb208 hg w5 hbox hb; have BK208 := AM (hbox); have GW208 := gH HB hg; have GE208 := gH HB hg; replace HB := AM (below_step (pH HB) hb); clear hb hbox hg; have ⟨hcz6_0, hcz6_1, hcz6_2, hfz6_0, hfz6_1, hfz6_2⟩ := z3 BK208) | ((with_reducible refine gate_callee (f := 83) rfl ?_); refine goesL_ (some 8) rfl rfl Try.func83 (by kernel_rfl) rfl #[.slice A0_0 l0_0.length c0_0, .int .i64 a1] rfl (by (try simp only [List.map_toArray, List.map_cons, List.map_nil]); first | done | rfl | (simp only [List.length_drop, List.length_take]; rfl)) ?_; (with_reducible refine (laws_heldIntS.calls k _ _ l0_0 a1 t209 _ ?side1 ?side2 A3.out).mono ?_); (case side1 => exact cB HR0_0 HB); (case side2 => exact HC0_0.out); rintro e w' ⟨rfl, ⟨nd, rfl⟩⟩; refine ⟨_, rfl, ?_⟩))
   go_ret
   exact ⟨by first | rfl | (simp [errW_none, errW_some] <;> rfl) | (simp [*, errW_none, errW_some] <;> rfl), pH HB⟩
 rw [if_neg c4] at H
 have c4b0 : decide (t209 < 0) = false := decide_eq_false c4
 clear c4
 replace H := Option.bind_eq_some_iff.mp H
 obtain ⟨t210, A70, H⟩ := H
 (try dsimp only at H)
 have A7 := AM A70; clear A70
 by_cases c8 : t210 < 0
 · rw [if_pos c8] at H
   have c8b0 : decide (t210 < 0) = true := decide_eq_true c8
   clear c8
   obtain rfl := Option.some.inj H
   go_enter Try.func36, Try.ntmps36
   go_wp2_with (first | ((with_reducible refine gate_dst (N := 2) rfl ?_); refine box_event ?hg (N := 2) ?hd (cs := #[.slice A0_0 l0_0.length c0_0, .int .i64 a0_1, .slice A0_2 l0_2.length c0_2]) (t := 43) ?hr ?_; (case hd => rfl); (case hg => rfl); (case hr => first | (go_simp; done) | (go_simp; rfl)); intro gb208 hg w9 hbox hb; have BK208 := AM (hbox); have GW208 := gH HB hg; have GE208 := gH HB hg; replace HB := AM (below_step (pH HB) hb); clear hb hbox hg; have ⟨hcz10_0, hcz10_1, hcz10_2, hfz10_0, hfz10_1, hfz10_2⟩ := z3 BK208) | ((with_reducible refine gate_callee (f := 83) rfl ?_); refine goesL_ (some 8) rfl rfl Try.func83 (by kernel_rfl) rfl #[.slice A0_0 l0_0.length c0_0, .int .i64 a1] rfl (by (try simp only [List.map_toArray, List.map_cons, List.map_nil]); first | done | rfl | (simp only [List.length_drop, List.length_take]; rfl)) ?_; (with_reducible refine (laws_heldIntS.calls k _ _ l0_0 a1 t209 _ ?side1 ?side2 A3.out).mono ?_); (case side1 => exact cB HR0_0 HB); (case side2 => exact HC0_0.out); rintro e w' ⟨rfl, ⟨nd, rfl⟩⟩; refine ⟨_, rfl, ?_⟩) | ((with_reducible refine gate_callee (f := 84) rfl ?_); refine goesL_ (some 14) rfl rfl Try.func84 (by kernel_rfl) rfl #[.slice A0_2 l0_2.length c0_2, .int .i64 t209] rfl (by (try simp only [List.map_toArray, List.map_cons, List.map_nil]); first | done | rfl | (simp only [List.length_drop, List.length_take]; rfl)) ?_; (with_reducible refine (laws_heldBoolS.calls k _ _ l0_2 t209 t210 _ ?side1 ?side2 A7.out).mono ?_); (case side1 => repeat (first | exact (Kd.C_below HR0_2.out (pH HB)) | (with_reducible refine Kd.C_alloc ?_ _) | (with_reducible refine Kd.C_drewN ?_ _) | (with_reducible refine Kd.C_drew ?_))); (case side2 => exact HC0_2.out); rintro e w' ⟨rfl, ⟨nd, rfl⟩⟩; refine ⟨_, rfl, ?_⟩))
   go_ret
   exact ⟨by first | rfl | (simp [errW_none, errW_some] <;> rfl) | (simp [*, errW_none, errW_some] <;> rfl), pH HB⟩
 rw [if_neg c8] at H
 have c8b0 : decide (t210 < 0) = false := decide_eq_false c8
 clear c8
 obtain rfl := Option.some.inj H
 go_enter Try.func36, Try.ntmps36
 go_wp2_with (first | ((with_reducible refine gate_dst (N := 2) rfl ?_); refine box_event ?hg (N := 2) ?hd (cs := #[.slice A0_0 l0_0.length c0_0, .int .i64 a0_1, .slice A0_2 l0_2.length c0_2]) (t := 43) ?hr ?_; (case hd => rfl); (case hg => rfl); (case hr => first | (go_simp; done) | (go_simp; rfl)); intro gb208 hg w11 hbox hb; have BK208 := AM (hbox); have GW208 := gH HB hg; have GE208 := gH HB hg; replace HB := AM (below_step (pH HB) hb); clear hb hbox hg; have ⟨hcz12_0, hcz12_1, hcz12_2, hfz12_0, hfz12_1, hfz12_2⟩ := z3 BK208) | ((with_reducible refine gate_callee (f := 83) rfl ?_); refine goesL_ (some 8) rfl rfl Try.func83 (by kernel_rfl) rfl #[.slice A0_0 l0_0.length c0_0, .int .i64 a1] rfl (by (try simp only [List.map_toArray, List.map_cons, List.map_nil]); first | done | rfl | (simp only [List.length_drop, List.length_take]; rfl)) ?_; (with_reducible refine (laws_heldIntS.calls k _ _ l0_0 a1 t209 _ ?side1 ?side2 A3.out).mono ?_); (case side1 => exact cB HR0_0 HB); (case side2 => exact HC0_0.out); rintro e w' ⟨rfl, ⟨nd, rfl⟩⟩; refine ⟨_, rfl, ?_⟩) | ((with_reducible refine gate_callee (f := 84) rfl ?_); refine goesL_ (some 14) rfl rfl Try.func84 (by kernel_rfl) rfl #[.slice A0_2 l0_2.length c0_2, .int .i64 t209] rfl (by (try simp only [List.map_toArray, List.map_cons, List.map_nil]); first | done | rfl | (simp only [List.length_drop, List.length_take]; rfl)) ?_; (with_reducible refine (laws_heldBoolS.calls k _ _ l0_2 t209 t210 _ ?side1 ?side2 A7.out).mono ?_); (case side1 => repeat (first | exact (Kd.C_below HR0_2.out (pH HB)) | (with_reducible refine Kd.C_alloc ?_ _) | (with_reducible refine Kd.C_drewN ?_ _) | (with_reducible refine Kd.C_drew ?_))); (case side2 => exact HC0_2.out); rintro e w' ⟨rfl, ⟨nd, rfl⟩⟩; refine ⟨_, rfl, ?_⟩))
 go_ret
 exact ⟨by first | rfl | (simp [errW_none, errW_some] <;> rfl) | (simp [*, errW_none, errW_some] <;> rfl), pH HB⟩

/-! ### laws_FnExactDecodePicture: function 8 -/
def laws_FnExactDecodePicture.f (k : Nat) (l0 : List Int) : Option (Bool) := if (l0.length : Int) > 1048576 then (some true) else ((laws_toByteS.f k l0).bind fun t211 => ((spec_DecodePicture.f k t211).bind fun bt214 => ((laws_toByteS.f k l0).bind fun t223 => ((impl_DecodePicture.f k t223).bind fun bt226 => ((laws_eqPicture.f k bt226.1 bt226.2.1 bt226.2.2.1 bt214.1 bt214.2.1 bt214.2.2.1).bind fun t235 => (if t235 = true then (if bt226.2.2.2 = bt214.2.2.2 then ((laws_toByteS.f k l0).bind fun t236 => ((laws_eqByteS.f k t223 t236).bind fun t239 => (if t239 = true then ((laws_markByteS.f k t223 1).bind fun bt240 => (if bt240.1 < 0 then (none) else ((laws_eqPicture.f k bt226.1 bt226.2.1 bt226.2.2.1 bt214.1 bt214.2.1 bt214.2.2.1).bind fun t242 => (if t242 = true then ((laws_markPicture.f k bt226.1 bt226.2.1 bt226.2.2.1 1).bind fun bt243 => ((laws_heldPicture.f k bt243.2.1 bt226.2.1 bt243.2.2 1).bind fun t246 => (if t246 < 0 then (none) else (if t246 = bt243.1 then ((laws_toByteS.f k l0).bind fun t247 => ((impl_DecodePicture.f k t247).bind fun bt250 => ((laws_eqPicture.f k bt250.1 bt250.2.1 bt250.2.2.1 bt214.1 bt214.2.1 bt214.2.2.1).bind fun t259 => (if t259 = true then (if bt250.2.2.2 = bt214.2.2.2 then ((laws_heldPicture.f k bt243.2.1 bt226.2.1 bt243.2.2 1).bind fun t260 => (if t260 < 0 then (none) else (if t260 = bt243.1 then (some true) else (none)))) else (none)) else (none))))) else (none))))) else (none))))) else (none)))) else (none)) else (none)))))))
theorem laws_FnExactDecodePicture.mono : ∀ a0 k, LeO (laws_FnExactDecodePicture.f k a0) (laws_FnExactDecodePicture.f (k + 1) a0) := by
 intro a0 k
 unfold laws_FnExactDecodePicture.f
 repeat' with_reducible first | exact impl_DecodePicture.mono _ _ | exact laws_eqByteS.mono _ _ _ | exact laws_eqPicture.mono _ _ _ _ _ _ _ | exact laws_heldPicture.mono _ _ _ _ _ | exact laws_markByteS.mono _ _ _ | exact laws_markPicture.mono _ _ _ _ _ | exact laws_toByteS.mono _ _ | exact spec_DecodePicture.mono _ _ | exact LeO.refl _ | exact LeO.none _ | refine LeO.ite ?_ ?_ | refine LeO.bind ?_ (fun _ => ?_)
set_option maxHeartbeats 8000000 in
set_option maxRecDepth 100000 in
theorem laws_FnExactDecodePicture.calls (k : Nat) (A0 : Option Addr) (c0 : Nat) (l0 : List Int) (r : Bool) (w : World) (hr0 : Kd.C (Kd.int .u8) w A0 l0.length l0) (hc0 : l0.length ≤ c0) (h : laws_FnExactDecodePicture.f k l0 = some r) :
 Calls Try.prog 8 #[.slice A0 l0.length c0] w fun e w' => e = .returned (.bool r) ∧ Below w.heap.size w w' := by
 have hu43 := Try.underlying43; have HR0 := AM hr0; have HC0 := AM hc0; clear hr0 hc0; have HB := AM (Below.refl w.heap.size w)
 have H : (if (l0.length : Int) > 1048576 then (some true) else ((laws_toByteS.f k l0).bind fun t211 => ((spec_DecodePicture.f k t211).bind fun bt214 => ((laws_toByteS.f k l0).bind fun t223 => ((impl_DecodePicture.f k t223).bind fun bt226 => ((laws_eqPicture.f k bt226.1 bt226.2.1 bt226.2.2.1 bt214.1 bt214.2.1 bt214.2.2.1).bind fun t235 => (if t235 = true then (if bt226.2.2.2 = bt214.2.2.2 then ((laws_toByteS.f k l0).bind fun t236 => ((laws_eqByteS.f k t223 t236).bind fun t239 => (if t239 = true then ((laws_markByteS.f k t223 1).bind fun bt240 => (if bt240.1 < 0 then (none) else ((laws_eqPicture.f k bt226.1 bt226.2.1 bt226.2.2.1 bt214.1 bt214.2.1 bt214.2.2.1).bind fun t242 => (if t242 = true then ((laws_markPicture.f k bt226.1 bt226.2.1 bt226.2.2.1 1).bind fun bt243 => ((laws_heldPicture.f k bt243.2.1 bt226.2.1 bt243.2.2 1).bind fun t246 => (if t246 < 0 then (none) else (if t246 = bt243.1 then ((laws_toByteS.f k l0).bind fun t247 => ((impl_DecodePicture.f k t247).bind fun bt250 => ((laws_eqPicture.f k bt250.1 bt250.2.1 bt250.2.2.1 bt214.1 bt214.2.1 bt214.2.2.1).bind fun t259 => (if t259 = true then (if bt250.2.2.2 = bt214.2.2.2 then ((laws_heldPicture.f k bt243.2.1 bt226.2.1 bt243.2.2 1).bind fun t260 => (if t260 < 0 then (none) else (if t260 = bt243.1 then (some true) else (none)))) else (none)) else (none))))) else (none))))) else (none))))) else (none)))) else (none)) else (none)))))))) = some r := h
 clear h
 by_cases c2 : (l0.length : Int) > 1048576
 · rw [if_pos c2] at H
   have c2b0 : decide (1048576 < (l0.length : Int)) = true := decide_eq_true c2
   have c2b1 : decide (1048576 < l0.length) = true := decide_eq_true (by omega)
   clear c2
   obtain rfl := Option.some.inj H
   go_enter Try.func8, Try.ntmps8
   go_wp2
   go_ret
   exact ⟨by first | rfl | (simp [errW_none, errW_some] <;> rfl) | (simp [*, errW_none, errW_some] <;> rfl), pH HB⟩
 rw [if_neg c2] at H
 have c2b0 : decide (1048576 < (l0.length : Int)) = false := decide_eq_false c2
 have c2b1 : decide (1048576 < l0.length) = false := decide_eq_false (by omega)
 clear c2
 replace H := Option.bind_eq_some_iff.mp H
 obtain ⟨t211, A30, H⟩ := H
 (try dsimp only at H)
 have A3 := AM A30; clear A30
 replace H := Option.bind_eq_some_iff.mp H
 obtain ⟨⟨t214, t217, t218, t221⟩, A40, H⟩ := H
 (try dsimp only at H)
 have A4 := AM A40; clear A40
 replace H := Option.bind_eq_some_iff.mp H
 obtain ⟨t223, A50, H⟩ := H
 (try dsimp only at H)
 have A5 := AM A50; clear A50
 replace H := Option.bind_eq_some_iff.mp H
 obtain ⟨⟨t226, t229, t230, t233⟩, A60, H⟩ := H
 (try dsimp only at H)
 have A6 := AM A60; clear A60
 replace H := Option.bind_eq_some_iff.mp H
 obtain ⟨t235, A70, H⟩ := H
 (try dsimp only at H)
 have A7 := AM A70; clear A70
 by_cases c8 : t235 = true
 rotate_left
 · replace c8 := Bool.eq_false_iff.mpr c8
   subst c8
   have H1 : (none) = some r := by rw [if_neg (show ¬ (false = true) by decide)] at H; exact H
   clear H; have H := H1; clear H1
   exact absurd H (by simp)

 subst c8
 have H1 : (if t233 = t221 then ((laws_toByteS.f k l0).bind fun t236 => ((laws_eqByteS.f k t223 t236).bind fun t239 => (if t239 = true then ((laws_markByteS.f k t223 1).bind fun bt240 => (if bt240.1 < 0 then (none) else ((laws_eqPicture.f k t226 t229 t230 t214 t217 t218).bind fun t242 => (if t242 = true then ((laws_markPicture.f k t226 t229 t230 1).bind fun bt243 => ((laws_heldPicture.f k bt243.2.1 t229 bt243.2.2 1).bind fun t246 => (if t246 < 0 then (none) else (if t246 = bt243.1 then ((laws_toByteS.f k l0).bind fun t247 => ((impl_DecodePicture.f k t247).bind fun bt250 => ((laws_eqPicture.f k bt250.1 bt250.2.1 bt250.2.2.1 t214 t217 t218).bind fun t259 => (if t259 = true then (if bt250.2.2.2 = t221 then ((laws_heldPicture.f k bt243.2.1 t229 bt243.2.2 1).bind fun t260 => (if t260 < 0 then (none) else (if t260 = bt243.1 then (some true) else (none)))) else (none)) else (none))))) else (none))))) else (none))))) else (none)))) else (none)) = some r := by rw [if_pos rfl] at H; exact H
 clear H; have H := H1; clear H1
 by_cases c9 : t233 = t221
 rotate_left
 · rw [if_neg c9] at H
   exact absurd H (by simp)
 rw [if_pos c9] at H
 have c9b0 : (t233 == t221) = true := beq_iff_eq.mpr c9
 have c9b1 : (t233 != t221) = false := bne_eq_false_iff_eq.mpr c9
 clear c9
 replace H := Option.bind_eq_some_iff.mp H
 obtain ⟨t236, A100, H⟩ := H
 (try dsimp only at H)
 have A10 := AM A100; clear A100
 replace H := Option.bind_eq_some_iff.mp H
 obtain ⟨t239, A110, H⟩ := H
 (try dsimp only at H)
 have A11 := AM A110; clear A110
 by_cases c12 : t239 = true
 rotate_left
 · replace c12 := Bool.eq_false_iff.mpr c12
   subst c12
   have H1 : (none) = some r := by rw [if_neg (show ¬ (false = true) by decide)] at H; exact H
   clear H; have H := H1; clear H1
   exact absurd H (by simp)
 subst c12
 have H1 : ((laws_markByteS.f k t223 1).bind fun bt240 => (if bt240.1 < 0 then (none) else ((laws_eqPicture.f k t226 t229 t230 t214 t217 t218).bind fun t242 => (if t242 = true then ((laws_markPicture.f k t226 t229 t230 1).bind fun bt243 => ((laws_heldPicture.f k bt243.2.1 t229 bt243.2.2 1).bind fun t246 => (if t246 < 0 then (none) else (if t246 = bt243.1 then ((laws_toByteS.f k l0).bind fun t247 => ((impl_DecodePicture.f k t247).bind fun bt250 => ((laws_eqPicture.f k bt250.1 bt250.2.1 bt250.2.2.1 t214 t217 t218).bind fun t259 => (if t259 = true then (if bt250.2.2.2 = t221 then ((laws_heldPicture.f k bt243.2.1 t229 bt243.2.2 1).bind fun t260 => (if t260 < 0 then (none) else (if t260 = bt243.1 then (some true) else (none)))) else (none)) else (none))))) else (none))))) else (none))))) = some r := by rw [if_pos rfl] at H; exact H
 clear H; have H := H1; clear H1
 replace H := Option.bind_eq_some_iff.mp H
 obtain ⟨⟨t240, t241⟩, A130, H⟩ := H
 (try dsimp only at H)
 have A13 := AM A130; clear A130
 by_cases c14 : t240 < 0
 · rw [if_pos c14] at H
   exact absurd H (by simp)
 rw [if_neg c14] at H
 have c14b0 : decide (t240 < 0) = false := decide_eq_false c14
 clear c14
 replace H := Option.bind_eq_some_iff.mp H
 obtain ⟨t242, A150, H⟩ := H
 (try dsimp only at H)
 have A15 := AM A150; clear A150
 by_cases c16 : t242 = true
 rotate_left
 · replace c16 := Bool.eq_false_iff.mpr c16
   subst c16
   have H1 : (none) = some r := by rw [if_neg (show ¬ (false = true) by decide)] at H; exact H
   clear H; have H := H1; clear H1
   exact absurd H (by simp)
 subst c16
 have H1 : ((laws_markPicture.f k t226 t229 t230 1).bind fun bt243 => ((laws_heldPicture.f k bt243.2.1 t229 bt243.2.2 1).bind fun t246 => (if t246 < 0 then (none) else (if t246 = bt243.1 then ((laws_toByteS.f k l0).bind fun t247 => ((impl_DecodePicture.f k t247).bind fun bt250 => ((laws_eqPicture.f k bt250.1 bt250.2.1 bt250.2.2.1 t214 t217 t218).bind fun t259 => (if t259 = true then (if bt250.2.2.2 = t221 then ((laws_heldPicture.f k bt243.2.1 t229 bt243.2.2 1).bind fun t260 => (if t260 < 0 then (none) else (if t260 = bt243.1 then (some true) else (none)))) else (none)) else (none))))) else (none))))) = some r := by rw [if_pos rfl] at H; exact H
 clear H; have H := H1; clear H1
 replace H := Option.bind_eq_some_iff.mp H
 obtain ⟨⟨t243, t244, t245⟩, A170, H⟩ := H
 (try dsimp only at H)
 have A17 := AM A170; clear A170
 replace H := Option.bind_eq_some_iff.mp H
 obtain ⟨t246, A180, H⟩ := H
 (try dsimp only at H)
 have A18 := AM A180; clear A180
 by_cases c19 : t246 < 0
 · rw [if_pos c19] at H
   exact absurd H (by simp)
 rw [if_neg c19] at H
 have c19b0 : decide (t246 < 0) = false := decide_eq_false c19
 clear c19
 by_cases c20 : t246 = t243
 rotate_left
 · rw [if_neg c20] at H
   exact absurd H (by simp)
 rw [if_pos c20] at H
 have c20b0 : (t246 == t243) = true := beq_iff_eq.mpr c20
 have c20b1 : (t246 != t243) = false := bne_eq_false_iff_eq.mpr c20
 clear c20
 replace H := Option.bind_eq_some_iff.mp H
 obtain ⟨t247, A210, H⟩ := H
 (try dsimp only at H)
 have A21 := AM A210; clear A210
 replace H := Option.bind_eq_some_iff.mp H
 obtain ⟨⟨t250, t253, t254, t257⟩, A220, H⟩ := H
 (try dsimp only at H)
 have A22 := AM A220; clear A220
 replace H := Option.bind_eq_some_iff.mp H
 obtain ⟨t259, A230, H⟩ := H
 (try dsimp only at H)
 have A23 := AM A230; clear A230
 by_cases c24 : t259 = true
 rotate_left
 · replace c24 := Bool.eq_false_iff.mpr c24
   subst c24
   have H1 : (none) = some r := by rw [if_neg (show ¬ (false = true) by decide)] at H; exact H
   clear H; have H := H1; clear H1
   exact absurd H (by simp)
 subst c24
 have H1 : (if t257 = t221 then ((laws_heldPicture.f k t244 t229 t245 1).bind fun t260 => (if t260 < 0 then (none) else (if t260 = t243 then (some true) else (none)))) else (none)) = some r := by rw [if_pos rfl] at H; exact H
 clear H; have H := H1; clear H1
 by_cases c25 : t257 = t221
 rotate_left
 · rw [if_neg c25] at H
   exact absurd H (by simp)
 rw [if_pos c25] at H
 have c25b0 : (t257 == t221) = true := beq_iff_eq.mpr c25
 have c25b1 : (t257 != t221) = false := bne_eq_false_iff_eq.mpr c25
 clear c25
 replace H := Option.bind_eq_some_iff.mp H
 obtain ⟨t260, A260, H⟩ := H
 (try dsimp only at H)
 have A26 := AM A260; clear A260
 by_cases c27 : t260 < 0
 · rw [if_pos c27] at H
   exact absurd H (by simp)
 rw [if_neg c27] at H
 have c27b0 : decide (t260 < 0) = false := decide_eq_false c27
 clear c27
 by_cases c28 : t260 = t243
 rotate_left
 · rw [if_neg c28] at H
   exact absurd H (by simp)
 rw [if_pos c28] at H
 have c28b0 : (t260 == t243) = true := beq_iff_eq.mpr c28
 have c28b1 : (t260 != t243) = false := bne_eq_false_iff_eq.mpr c28
 clear c28
 obtain rfl := Option.some.inj H
 go_enter Try.func8, Try.ntmps8
 go_wp2_with (first | ((with_reducible refine gate_callee (f := 34) rfl ?_); refine goesL_ (some 18) rfl rfl Try.func34 (by kernel_rfl) rfl #[.slice A0 l0.length c0] rfl (by (try simp only [List.map_toArray, List.map_cons, List.map_nil]); first | done | rfl | (simp only [List.length_drop, List.length_take]; rfl)) ?_; (with_reducible refine (laws_toByteS.calls k _ _ l0 t211 _ ?side1 ?side2 A3.out).mono ?_); (case side1 => repeat (first | exact HR0.out | (with_reducible refine Kd.C_alloc ?_ _) | (with_reducible refine Kd.C_drewN ?_ _) | (with_reducible refine Kd.C_drew ?_))); (case side2 => exact HC0.out); rintro e w29 ⟨v212, rfl, ho0, hb⟩; refine ⟨_, rfl, ?_⟩; have HO213 := AM (Kd.R_lower ho0 (below_size (pH HB))); replace HB := AM (below_step (pH HB) hb); (try clear hb); (try clear hb2); (try clear hk); (try clear hi); (try clear ho0); obtain ⟨Ao30, co30, eo30⟩ := Kd.R_slice HO213.out; subst eo30) | ((with_reducible refine gate_callee (f := 33) rfl ?_); refine goesL_ (some 19) rfl rfl Try.func33 (by kernel_rfl) rfl #[.slice Ao30 t211.length co30] rfl (by (try simp only [List.map_toArray, List.map_cons, List.map_nil]); first | done | rfl | (simp only [List.length_drop, List.length_take]; rfl)) ?_; (with_reducible refine (spec_DecodePicture.calls k _ _ t211 t214 t217 t218 t221 _ ?side1 ?side2 A4.out).mono ?_); (case side1 => exact cR HO213); (case side2 => exact (Kd.R_reads' HO213.out).2.1); rintro e w31 ⟨v215, v219, rfl, ho0, ho1, hb⟩; refine ⟨_, rfl, ?_⟩; replace HO213 := AM (Kd.R_below (pR HO213) hb); have HO216 := AM (Kd.R_lower ho0 (below_size (pH HB))); have HO220 := AM (Kd.R_lower ho1 (below_size (pH HB))); replace HB := AM (below_step (pH HB) hb); (try clear hb); (try clear hb2); (try clear hk); (try clear hi); (try clear ho0); (try clear ho1)) | ((with_reducible refine gate_dst (N := 3) rfl ?_); refine box_event ?hg (N := 3) ?hd (cs := #[.slice none 0 0, .int .i64 0, .slice none 0 0]) (t := 43) ?hr ?_; (case hd => rfl); (case hg => rfl); (case hr => first | (go_simp; done) | (go_simp; rfl)); intro gb222 hg w32 hbox hb; replace HO213 := AM (Kd.R_below (pR HO213) hb); replace HO216 := AM (Kd.R_below (pR HO216) hb); replace HO220 := AM (Kd.R_below (pR HO220) hb); have BK222 := AM (hbox); have GW222 := gH HB hg; have GE222 := gH HB hg; replace HB := AM (below_step (pH HB) hb); clear hb hbox hg; obtain ⟨Ao33, co33, eo33⟩ := Kd.R_slice HO216.out; subst eo33; have ⟨hcz34_0, hcz34_1, hcz34_2, hfz34_0, hfz34_1, hfz34_2⟩ := z3 BK222; obtain ⟨Ao35, co35, eo35⟩ := Kd.R_slice HO220.out; subst eo35) | ((with_reducible refine gate_callee (f := 34) rfl ?_); refine goesL_ (some 23) rfl rfl Try.func34 (by kernel_rfl) rfl #[.slice A0 l0.length c0] rfl (by (try simp only [List.map_toArray, List.map_cons, List.map_nil]); first | done | rfl | (simp only [List.length_drop, List.length_take]; rfl)) ?_; (with_reducible refine (laws_toByteS.calls k _ _ l0 t223 _ ?side1 ?side2 A5.out).mono ?_); (case side1 => exact Kd.C_below HR0.out (pH HB)); (case side2 => exact HC0.out); rintro e w36 ⟨v224, rfl, ho0, hb⟩; refine ⟨_, rfl, ?_⟩; replace HO216 := AM (Kd.R_below (by (with_reducible repeat (first | apply Kd.R_alloc | apply Kd.R_drewN | apply Kd.R_drew)); exact (Kd.R_mono (Kd.R_far (p := ⟨gb222, 2, none⟩) (Kd.R_far (p := ⟨gb222, 1, none⟩) (Kd.R_far (p := ⟨gb222, 0, none⟩) (Kd.R_types HO216.out BK222.out (by decide)) (fun _ hk => hk.2) (.slice Ao33 t214.length co33)) (fun _ hk => hk.2) (.int .i64 t217)) (fun _ hk => hk.2) (.slice Ao35 t218.length co35)) (fun _ h_ => h_.1))) hb); replace HO220 := AM (Kd.R_below (by (with_reducible repeat (first | apply Kd.R_alloc | apply Kd.R_drewN | apply Kd.R_drew)); exact (Kd.R_mono (Kd.R_far (p := ⟨gb222, 2, none⟩) (Kd.R_far (p := ⟨gb222, 1, none⟩) (Kd.R_far (p := ⟨gb222, 0, none⟩) (Kd.R_types HO220.out BK222.out (by decide)) (fun _ hk => hk.2) (.slice Ao33 t214.length co33)) (fun _ hk => hk.2) (.int .i64 t217)) (fun _ hk => hk.2) (.slice Ao35 t218.length co35)) (fun _ h_ => h_.1))) hb); have HO225 := AM (Kd.R_lower (Kd.R_new' ho0 (Kd.R_lt (by (with_reducible repeat (first | apply Kd.R_alloc | apply Kd.R_drewN | apply Kd.R_drew)); exact (Kd.R_mono (Kd.R_far (p := ⟨gb222, 2, none⟩) (Kd.R_far (p := ⟨gb222, 1, none⟩) (Kd.R_far (p := ⟨gb222, 0, none⟩) (Kd.R_types HO213.out BK222.out (by decide)) (fun _ hk => hk.2) (.slice Ao33 t214.length co33)) (fun _ hk => hk.2) (.int .i64 t217)) (fun _ hk => hk.2) (.slice Ao35 t218.length co35)) (fun _ h_ => h_.1))))) (below_size (pH HB))); replace HO213 := AM (Kd.R_elder' (by (with_reducible repeat (first | apply Kd.R_alloc | apply Kd.R_drewN | apply Kd.R_drew)); exact (Kd.R_mono (Kd.R_far (p := ⟨gb222, 2, none⟩) (Kd.R_far (p := ⟨gb222, 1, none⟩) (Kd.R_far (p := ⟨gb222, 0, none⟩) (Kd.R_types HO213.out BK222.out (by decide)) (fun _ hk => hk.2) (.slice Ao33 t214.length co33)) (fun _ hk => hk.2) (.int .i64 t217)) (fun _ hk => hk.2) (.slice Ao35 t218.length co35)) (fun _ h_ => h_.1))) (Kd.R_base ho0) hb); replace BK222 := AM (blk_below (g := gb222) (o := .cells #[.slice Ao33 t214.length co33, .int .i64 t217, .slice Ao35 t218.length co35] 43 (0, 0)) (by refine sB ?_; refine blk_put (cs := #[.slice Ao33 t214.length co33, .int .i64 t217, .slice none 0 0]) ?_ 2 _ rfl; refine sB ?_; refine blk_put (cs := #[.slice Ao33 t214.length co33, .int .i64 0, .slice none 0 0]) ?_ 1 _ rfl; refine sB ?_; refine blk_put (cs := #[.slice none 0 0, .int .i64 0, .slice none 0 0]) ?_ 0 _ rfl; refine sB ?_; exact BK222.out) hb); replace HB := AM (below_step (pH HB) hb); (try clear hb); (try clear hb2); (try clear hk); (try clear hi); (try clear ho0); obtain ⟨Ao37, co37, eo37⟩ := Kd.R_slice HO225.out; subst eo37) | ((with_reducible refine gate_callee (f := 35) rfl ?_); refine goesL_ (some 26) rfl rfl Try.func35 (by kernel_rfl) rfl #[.slice Ao37 t223.length co37] rfl (by (try simp only [List.map_toArray, List.map_cons, List.map_nil]); first | done | rfl | (simp only [List.length_drop, List.length_take]; rfl)) ?_; (with_reducible refine (impl_DecodePicture.calls k _ _ t223 t226 t229 t230 t233 _ ?side1 ?side2 A6.out).mono ?_); (case side1 => exact cR HO225); (case side2 => exact (Kd.R_reads' HO225.out).2.1); rintro e w38 ⟨v227, v231, rfl, ho0, ho1, hb⟩; refine ⟨_, rfl, ?_⟩; replace HO213 := AM (Kd.R_below (pR HO213) hb); replace HO225 := AM (Kd.R_below (pR HO225) hb); have HO228 := AM (Kd.R_lower (Kd.R_new' ho0 (Kd.R_lt (pR HO216))) (below_size (pH HB))); replace HO216 := AM (Kd.R_elder' (pR HO216) (Kd.R_base ho0) hb); have HO232 := AM (Kd.R_lower (Kd.R_new' ho1 (Kd.R_lt (pR HO220))) (below_size (pH HB))); replace HO220 := AM (Kd.R_elder' (pR HO220) (Kd.R_base ho1) hb); replace BK222 := bB BK222 hb; replace HB := AM (below_step (pH HB) hb); (try clear hb); (try clear hb2); (try clear hk); (try clear hi); (try clear ho0); (try clear ho1)) | ((with_reducible refine gate_dst (N := 6) rfl ?_); refine box_event ?hg (N := 6) ?hd (cs := #[.slice none 0 0, .int .i64 0, .slice none 0 0]) (t := 43) ?hr ?_; (case hd => rfl); (case hg => rfl); (case hr => first | (go_simp; done) | (go_simp; rfl)); intro gb234 hg w39 hbox hb; replace HO213 := AM (Kd.R_below (pR HO213) hb); replace HO216 := AM (Kd.R_below (pR HO216) hb); replace HO220 := AM (Kd.R_below (pR HO220) hb); replace HO225 := AM (Kd.R_below (pR HO225) hb); replace HO228 := AM (Kd.R_below (pR HO228) hb); replace HO232 := AM (Kd.R_below (pR HO232) hb); have BK234 := AM (hbox); have GW234 := gH HB hg; have GE234 := gH HB hg; replace HB := AM (below_step (pH HB) hb); have NB222_234 := nL BK222 hg; have NB234_222 := nG BK222 hg; replace BK222 := bB BK222 hb; clear hb hbox hg; obtain ⟨Ao40, co40, eo40⟩ := Kd.R_slice HO228.out; subst eo40; have hnb41 := NB234_222.out; have hnc41 := NB222_234.out; have ⟨hcz42_0, hcz42_1, hcz42_2, hfz42_0, hfz42_1, hfz42_2⟩ := z3 BK234; obtain ⟨Ao43, co43, eo43⟩ := Kd.R_slice HO232.out; subst eo43; have ⟨hcz44_0, hcz44_1, hcz44_2, hfz44_0, hfz44_1, hfz44_2⟩ := z3 BK222) | ((with_reducible refine gate_callee (f := 27) rfl ?_); refine goesL_ (some 31) rfl rfl Try.func27 (by kernel_rfl) rfl #[.agg #[.slice Ao40 t226.length co40, .int .i64 t229, .slice Ao43 t230.length co43], .agg #[.slice Ao33 t214.length co33, .int .i64 t217, .slice Ao35 t218.length co35]] rfl (by (try simp only [List.map_toArray, List.map_cons, List.map_nil]); first | done | rfl | (simp only [List.length_drop, List.length_take]; rfl)) ?_; (with_reducible refine (laws_eqPicture.calls k _ _ t226 t229 _ _ t230 _ _ t214 t217 _ _ t218 true _ ?side1 ?side2 ?side3 ?side4 ?side5 ?side6 ?side7 ?side8 A7.out).mono ?_); (case side1 => refine (Kd.R_reads' (e := 3) (base := w.heap.size) (ok := fun k_ => (True ∧ some k_ ≠ (.slice Ao33 t214.length co33 : Value).ownBlock)) (n := t226.length) (c := co40) ?_).2.2; exact (by (with_reducible repeat (first | apply Kd.R_alloc | apply Kd.R_drewN | apply Kd.R_drew)); exact (Kd.R_mono (Kd.R_far (p := ⟨gb234, 2, none⟩) (Kd.R_far (p := ⟨gb234, 1, none⟩) (Kd.R_far (p := ⟨gb234, 0, none⟩) (Kd.R_types HO228.out BK234.out (by decide)) (fun _ hk => hk.2) (.slice Ao40 t226.length co40)) (fun _ hk => hk.2) (.int .i64 t229)) (fun _ hk => hk.2) (.slice Ao43 t230.length co43)) (fun _ h_ => h_.1)))); (case side2 => exact (Kd.R_reads' HO228.out).2.1); (case side3 => refine (Kd.R_reads' (e := 4) (base := w.heap.size) (ok := fun k_ => (True ∧ some k_ ≠ (.slice Ao35 t218.length co35 : Value).ownBlock)) (n := t230.length) (c := co43) ?_).2.2; exact (by (with_reducible repeat (first | apply Kd.R_alloc | apply Kd.R_drewN | apply Kd.R_drew)); exact (Kd.R_mono (Kd.R_far (p := ⟨gb234, 2, none⟩) (Kd.R_far (p := ⟨gb234, 1, none⟩) (Kd.R_far (p := ⟨gb234, 0, none⟩) (Kd.R_types HO232.out BK234.out (by decide)) (fun _ hk => hk.2) (.slice Ao40 t226.length co40)) (fun _ hk => hk.2) (.int .i64 t229)) (fun _ hk => hk.2) (.slice Ao43 t230.length co43)) (fun _ h_ => h_.1)))); (case side4 => exact (Kd.R_reads' HO232.out).2.1); (case side5 => refine (Kd.R_reads' (e := 3) (base := w.heap.size) (ok := fun k_ => (True ∧ some k_ ≠ (.slice Ao40 t226.length co40 : Value).ownBlock)) (n := t214.length) (c := co33) ?_).2.2; exact (by (with_reducible repeat (first | apply Kd.R_alloc | apply Kd.R_drewN | apply Kd.R_drew)); exact (Kd.R_mono (Kd.R_far (p := ⟨gb234, 2, none⟩) (Kd.R_far (p := ⟨gb234, 1, none⟩) (Kd.R_far (p := ⟨gb234, 0, none⟩) (Kd.R_types HO216.out BK234.out (by decide)) (fun _ hk => hk.2) (.slice Ao40 t226.length co40)) (fun _ hk => hk.2) (.int .i64 t229)) (fun _ hk => hk.2) (.slice Ao43 t230.length co43)) (fun _ h_ => h_.1)))); (case side6 => exact (Kd.R_reads' HO216.out).2.1); (case side7 => refine (Kd.R_reads' (e := 4) (base := w.heap.size) (ok := fun k_ => (True ∧ some k_ ≠ (.slice Ao43 t230.length co43 : Value).ownBlock)) (n := t218.length) (c := co35) ?_).2.2; exact (by (with_reducible repeat (first | apply Kd.R_alloc | apply Kd.R_drewN | apply Kd.R_drew)); exact (Kd.R_mono (Kd.R_far (p := ⟨gb234, 2, none⟩) (Kd.R_far (p := ⟨gb234, 1, none⟩) (Kd.R_far (p := ⟨gb234, 0, none⟩) (Kd.R_types HO220.out BK234.out (by decide)) (fun _ hk => hk.2) (.slice Ao40 t226.length co40)) (fun _ hk => hk.2) (.int .i64 t229)) (fun _ hk => hk.2) (.slice Ao43 t230.length co43)) (fun _ h_ => h_.1)))); (case side8 => exact (Kd.R_reads' HO220.out).2.1); rintro e w45 ⟨rfl, hb⟩; refine ⟨_, rfl, ?_⟩; replace HO213 := AM (Kd.R_below (by (with_reducible repeat (first | apply Kd.R_alloc | apply Kd.R_drewN | apply Kd.R_drew)); exact (Kd.R_mono (Kd.R_far (p := ⟨gb234, 2, none⟩) (Kd.R_far (p := ⟨gb234, 1, none⟩) (Kd.R_far (p := ⟨gb234, 0, none⟩) (Kd.R_types HO213.out BK234.out (by decide)) (fun _ hk => hk.2) (.slice Ao40 t226.length co40)) (fun _ hk => hk.2) (.int .i64 t229)) (fun _ hk => hk.2) (.slice Ao43 t230.length co43)) (fun _ h_ => h_.1))) hb); replace HO216 := AM (Kd.R_below (by (with_reducible repeat (first | apply Kd.R_alloc | apply Kd.R_drewN | apply Kd.R_drew)); exact (Kd.R_mono (Kd.R_far (p := ⟨gb234, 2, none⟩) (Kd.R_far (p := ⟨gb234, 1, none⟩) (Kd.R_far (p := ⟨gb234, 0, none⟩) (Kd.R_types HO216.out BK234.out (by decide)) (fun _ hk => hk.2) (.slice Ao40 t226.length co40)) (fun _ hk => hk.2) (.int .i64 t229)) (fun _ hk => hk.2) (.slice Ao43 t230.length co43)) (fun _ h_ => h_.1))) hb); replace HO220 := AM (Kd.R_below (by (with_reducible repeat (first | apply Kd.R_alloc | apply Kd.R_drewN | apply Kd.R_drew)); exact (Kd.R_mono (Kd.R_far (p := ⟨gb234, 2, none⟩) (Kd.R_far (p := ⟨gb234, 1, none⟩) (Kd.R_far (p := ⟨gb234, 0, none⟩) (Kd.R_types HO220.out BK234.out (by decide)) (fun _ hk => hk.2) (.slice Ao40 t226.length co40)) (fun _ hk => hk.2) (.int .i64 t229)) (fun _ hk => hk.2) (.slice Ao43 t230.length co43)) (fun _ h_ => h_.1))) hb); replace HO225 := AM (Kd.R_below (by (with_reducible repeat (first | apply Kd.R_alloc | apply Kd.R_drewN | apply Kd.R_drew)); exact (Kd.R_mono (Kd.R_far (p := ⟨gb234, 2, none⟩) (Kd.R_far (p := ⟨gb234, 1, none⟩) (Kd.R_far (p := ⟨gb234, 0, none⟩) (Kd.R_types HO225.out BK234.out (by decide)) (fun _ hk => hk.2) (.slice Ao40 t226.length co40)) (fun _ hk => hk.2) (.int .i64 t229)) (fun _ hk => hk.2) (.slice Ao43 t230.length co43)) (fun _ h_ => h_.1))) hb); replace HO228 := AM (Kd.R_below (by (with_reducible repeat (first | apply Kd.R_alloc | apply Kd.R_drewN | apply Kd.R_drew)); exact (Kd.R_mono (Kd.R_far (p := ⟨gb234, 2, none⟩) (Kd.R_far (p := ⟨gb234, 1, none⟩) (Kd.R_far (p := ⟨gb234, 0, none⟩) (Kd.R_types HO228.out BK234.out (by decide)) (fun _ hk => hk.2) (.slice Ao40 t226.length co40)) (fun _ hk => hk.2) (.int .i64 t229)) (fun _ hk => hk.2) (.slice Ao43 t230.length co43)) (fun _ h_ => h_.1))) hb); replace HO232 := AM (Kd.R_below (by (with_reducible repeat (first | apply Kd.R_alloc | apply Kd.R_drewN | apply Kd.R_drew)); exact (Kd.R_mono (Kd.R_far (p := ⟨gb234, 2, none⟩) (Kd.R_far (p := ⟨gb234, 1, none⟩) (Kd.R_far (p := ⟨gb234, 0, none⟩) (Kd.R_types HO232.out BK234.out (by decide)) (fun _ hk => hk.2) (.slice Ao40 t226.length co40)) (fun _ hk => hk.2) (.int .i64 t229)) (fun _ hk => hk.2) (.slice Ao43 t230.length co43)) (fun _ h_ => h_.1))) hb); replace BK222 := AM (blk_below (g := gb222) (o := .cells #[.slice Ao33 t214.length co33, .int .i64 t217, .slice Ao35 t218.length co35] 43 (0, 0)) (by refine sB ?_; refine blk_far ?_ NB222_234.out _; refine sB ?_; refine blk_far ?_ NB222_234.out _; refine sB ?_; refine blk_far ?_ NB222_234.out _; refine sB ?_; exact BK222.out) hb); replace BK234 := AM (blk_below (g := gb234) (o := .cells #[.slice Ao40 t226.length co40, .int .i64 t229, .slice Ao43 t230.length co43] 43 (0, 0)) (by refine sB ?_; refine blk_put (cs := #[.slice Ao40 t226.length co40, .int .i64 t229, .slice none 0 0]) ?_ 2 _ rfl; refine sB ?_; refine blk_put (cs := #[.slice Ao40 t226.length co40, .int .i64 0, .slice none 0 0]) ?_ 1 _ rfl; refine sB ?_; refine blk_put (cs := #[.slice none 0 0, .int .i64 0, .slice none 0 0]) ?_ 0 _ rfl; refine sB ?_; exact BK234.out) hb); replace HB := AM (below_step (pH HB) hb); (try clear hb); (try clear hb2); (try clear hk); (try clear hi)) | ((with_reducible refine gate_callee (f := 34) rfl ?_); refine goesL_ (some 40) rfl rfl Try.func34 (by kernel_rfl) rfl #[.slice A0 l0.length c0] rfl (by (try simp only [List.map_toArray, List.map_cons, List.map_nil]); first | done | rfl | (simp only [List.length_drop, List.length_take]; rfl)) ?_; (with_reducible refine (laws_toByteS.calls k _ _ l0 t236 _ ?side1 ?side2 A10.out).mono ?_); (case side1 => exact cB HR0 HB); (case side2 => exact HC0.out); rintro e w46 ⟨v237, rfl, ho0, hb⟩; refine ⟨_, rfl, ?_⟩; replace HO216 := AM (Kd.R_below (pR HO216) hb); replace HO220 := AM (Kd.R_below (pR HO220) hb); replace HO228 := AM (Kd.R_below (pR HO228) hb); replace HO232 := AM (Kd.R_below (pR HO232) hb); have HO238 := AM (Kd.R_lower (Kd.R_new' (Kd.R_new' ho0 (Kd.R_lt (pR HO213))) (Kd.R_lt (pR HO225))) (below_size (pH HB))); replace HO213 := AM (Kd.R_elder' (pR HO213) (Kd.R_base ho0) hb); replace HO225 := AM (Kd.R_elder' (pR HO225) (Kd.R_base ho0) hb); replace BK222 := bB BK222 hb; replace BK234 := bB BK234 hb; replace HB := AM (below_step (pH HB) hb); (try clear hb); (try clear hb2); (try clear hk); (try clear hi); (try clear ho0); obtain ⟨Ao47, co47, eo47⟩ := Kd.R_slice HO238.out; subst eo47) | ((with_reducible refine gate_callee (f := 26) rfl ?_); refine goesL_ (some 41) rfl rfl Try.func26 (by kernel_rfl) rfl #[.slice Ao37 t223.length co37, .slice Ao47 t236.length co47] rfl (by (try simp only [List.map_toArray, List.map_cons, List.map_nil]); first | done | rfl | (simp only [List.length_drop, List.length_take]; rfl)) ?_; (with_reducible refine (laws_eqByteS.calls k _ _ t223 _ _ t236 true _ ?side1 ?side2 ?side3 ?side4 A11.out).mono ?_); (case side1 => exact cR HO225); (case side2 => exact (Kd.R_reads' HO225.out).2.1); (case side3 => exact cR HO238); (case side4 => exact (Kd.R_reads' HO238.out).2.1); rintro e w' ⟨rfl, ⟨nd, rfl⟩⟩; refine ⟨_, rfl, ?_⟩; (try (rw [drewN_self w46]; generalize hq_ : World.drewN w46 _ = w46; have n0_ : Aside0 (Kd.R (Kd.int .u8) 5 w46 w.heap.size (fun k_ => some k_ ≠ (.slice Ao37 t223.length co37 : Value).ownBlock ∧ some k_ ≠ (.slice Ao47 t236.length co47 : Value).ownBlock) (.slice Ao30 t211.length co30) t211) := ⟨by rw [← hq_]; exact (by (with_reducible repeat (first | apply Kd.R_alloc | apply Kd.R_drewN | apply Kd.R_drew)); exact Kd.R_mono HO213.out (fun _ hk => ⟨hk.1.2, hk.2⟩))⟩; have n1_ : Aside0 (Kd.R (Kd.int .i64) 3 w46 w.heap.size (fun k_ => some k_ ≠ (.slice Ao40 t226.length co40 : Value).ownBlock) (.slice Ao33 t214.length co33) t214) := ⟨by rw [← hq_]; exact (by (with_reducible repeat (first | apply Kd.R_alloc | apply Kd.R_drewN | apply Kd.R_drew)); exact Kd.R_mono HO216.out (fun _ hk => hk.2))⟩; have n2_ : Aside0 (Kd.R Kd.bool 4 w46 w.heap.size (fun k_ => some k_ ≠ (.slice Ao43 t230.length co43 : Value).ownBlock) (.slice Ao35 t218.length co35) t218) := ⟨by rw [← hq_]; exact (by (with_reducible repeat (first | apply Kd.R_alloc | apply Kd.R_drewN | apply Kd.R_drew)); exact Kd.R_mono HO220.out (fun _ hk => hk.2))⟩; have n3_ : Aside0 (Kd.R (Kd.int .u8) 5 w46 w.heap.size (fun k_ => some k_ ≠ (.slice Ao30 t211.length co30 : Value).ownBlock ∧ some k_ ≠ (.slice Ao47 t236.length co47 : Value).ownBlock) (.slice Ao37 t223.length co37) t223) := ⟨by rw [← hq_]; exact (by (with_reducible repeat (first | apply Kd.R_alloc | apply Kd.R_drewN | apply Kd.R_drew)); exact Kd.R_mono HO225.out (fun _ hk => ⟨hk.1.2, hk.2⟩))⟩; have n4_ : Aside0 (Kd.R (Kd.int .i64) 3 w46 w.heap.size (fun k_ => some k_ ≠ (.slice Ao33 t214.length co33 : Value).ownBlock) (.slice Ao40 t226.length co40) t226) := ⟨by rw [← hq_]; exact (by (with_reducible repeat (first | apply Kd.R_alloc | apply Kd.R_drewN | apply Kd.R_drew)); exact Kd.R_mono HO228.out (fun _ hk => hk.2))⟩; have n5_ : Aside0 (Kd.R Kd.bool 4 w46 w.heap.size (fun k_ => some k_ ≠ (.slice Ao35 t218.length co35 : Value).ownBlock) (.slice Ao43 t230.length co43) t230) := ⟨by rw [← hq_]; exact (by (with_reducible repeat (first | apply Kd.R_alloc | apply Kd.R_drewN | apply Kd.R_drew)); exact Kd.R_mono HO232.out (fun _ hk => hk.2))⟩; have n6_ : Aside0 (Kd.R (Kd.int .u8) 5 w46 w.heap.size (fun k_ => some k_ ≠ (.slice Ao30 t211.length co30 : Value).ownBlock ∧ some k_ ≠ (.slice Ao37 t223.length co37 : Value).ownBlock) (.slice Ao47 t236.length co47) t236) := ⟨by rw [← hq_]; exact (by (with_reducible repeat (first | apply Kd.R_alloc | apply Kd.R_drewN | apply Kd.R_drew)); exact Kd.R_mono HO238.out (fun _ hk => ⟨hk.1.2, hk.2⟩))⟩; have n7_ : Aside0 (w46.heap[gb222]? = some (.cells #[.slice Ao33 t214.length co33, .int .i64 t217, .slice Ao35 t218.length co35] 43 (0, 0))) := ⟨by rw [← hq_]; exact (pB BK222)⟩; have n8_ : Aside0 (w46.heap[gb234]? = some (.cells #[.slice Ao40 t226.length co40, .int .i64 t229, .slice Ao43 t230.length co43] 43 (0, 0))) := ⟨by rw [← hq_]; exact (pB BK234)⟩; have n9_ : Aside0 (Below w.heap.size w w46) := ⟨by rw [← hq_]; exact (pH HB)⟩; clear HO213 HO216 HO220 HO225 HO228 HO232 HO238 BK222 BK234 HB hq_; have HO213 := n0_; have HO216 := n1_; have HO220 := n2_; have HO225 := n3_; have HO228 := n4_; have HO232 := n5_; have HO238 := n6_; have BK222 := n7_; have BK234 := n8_; have HB := n9_; clear n0_ n1_ n2_ n3_ n4_ n5_ n6_ n7_ n8_ n9_))) | ((with_reducible refine gate_callee (f := 29) rfl ?_); refine goesL_ (some 45) rfl rfl Try.func29 (by kernel_rfl) rfl #[.slice Ao37 t223.length co37, .int .i64 1] rfl (by (try simp only [List.map_toArray, List.map_cons, List.map_nil]); first | done | rfl | (simp only [List.length_drop, List.length_take]; rfl)) ?_; (with_reducible refine (laws_markByteS.calls k (fun k_ => some k_ = (.slice Ao37 t223.length co37 : Value).ownBlock) (.slice Ao37 t223.length co37) t223 1 t240 t241 w _ ?side1 ?side2 A13.out).mono ?_); (case side1 => exact pH HB); (case side2 => exact Kd.R_tight rfl HO225.out); rintro e w48 ⟨rfl, hy0, hb, hkp⟩; refine ⟨_, rfl, ?_⟩; replace HO213 := AM (Kd.R_mono (ok' := fun k_ => some k_ ≠ (.slice Ao37 t223.length co37 : Value).ownBlock ∧ some k_ ≠ (.slice Ao47 t236.length co47 : Value).ownBlock) (Kd.R_keptB (HO213.out) hkp (fun k_ hk_ hs_ => by first | exact (hk_.1.2) hs_ | exact hk_.1 hs_ | exact hk_.2 hs_ | exact hk_.1.1 hs_ | exact hk_.2.1 hs_ | exact hk_.2.2 hs_)) (fun k_ hk_ => by first | exact ⟨hk_.1.1.2, hk_.1.2⟩ | (simp_all; done))); replace HO216 := AM (Kd.R_mono (ok' := fun k_ => some k_ ≠ (.slice Ao40 t226.length co40 : Value).ownBlock) (Kd.R_keptB ((Kd.R_apart' HO216.out (Kd.R_typed HO225.out) (by decide))) hkp (fun k_ hk_ hs_ => by first | exact (hk_.2) hs_ | exact hk_.1 hs_ | exact hk_.1.1 hs_ | exact hk_.1.2 hs_ | exact hk_.2.1 hs_ | exact hk_.2.2 hs_)) (fun k_ hk_ => by first | exact hk_.1.1.2 | (simp_all; done))); replace HO220 := AM (Kd.R_mono (ok' := fun k_ => some k_ ≠ (.slice Ao43 t230.length co43 : Value).ownBlock) (Kd.R_keptB ((Kd.R_apart' HO220.out (Kd.R_typed HO225.out) (by decide))) hkp (fun k_ hk_ hs_ => by first | exact (hk_.2) hs_ | exact hk_.1 hs_ | exact hk_.1.1 hs_ | exact hk_.1.2 hs_ | exact hk_.2.1 hs_ | exact hk_.2.2 hs_)) (fun k_ hk_ => by first | exact hk_.1.1.2 | (simp_all; done))); replace BK222 := AM (blk_kept (pB BK222) hkp (fun hs_ => (fun e_ => (Kd.R_ne HO225.out BK222.out (by decide)) e_) hs_)); replace HO228 := AM (Kd.R_mono (ok' := fun k_ => some k_ ≠ (.slice Ao33 t214.length co33 : Value).ownBlock) (Kd.R_keptB ((Kd.R_apart' HO228.out (Kd.R_typed HO225.out) (by decide))) hkp (fun k_ hk_ hs_ => by first | exact (hk_.2) hs_ | exact hk_.1 hs_ | exact hk_.1.1 hs_ | exact hk_.1.2 hs_ | exact hk_.2.1 hs_ | exact hk_.2.2 hs_)) (fun k_ hk_ => by first | exact hk_.1.1.2 | (simp_all; done))); replace HO232 := AM (Kd.R_mono (ok' := fun k_ => some k_ ≠ (.slice Ao35 t218.length co35 : Value).ownBlock) (Kd.R_keptB ((Kd.R_apart' HO232.out (Kd.R_typed HO225.out) (by decide))) hkp (fun k_ hk_ hs_ => by first | exact (hk_.2) hs_ | exact hk_.1 hs_ | exact hk_.1.1 hs_ | exact hk_.1.2 hs_ | exact hk_.2.1 hs_ | exact hk_.2.2 hs_)) (fun k_ hk_ => by first | exact hk_.1.1.2 | (simp_all; done))); replace BK234 := AM (blk_kept (pB BK234) hkp (fun hs_ => (fun e_ => (Kd.R_ne HO225.out BK234.out (by decide)) e_) hs_)); replace HO225 := AM (Kd.R_reok rfl hy0 (fun k_ e_ => HO225.out.1 k_ e_)); replace HO238 := AM (Kd.R_mono (ok' := fun k_ => some k_ ≠ (.slice Ao30 t211.length co30 : Value).ownBlock ∧ some k_ ≠ (.slice Ao37 t223.length co37 : Value).ownBlock) (Kd.R_keptB (HO238.out) hkp (fun k_ hk_ hs_ => by first | exact (hk_.2) hs_ | exact hk_.1 hs_ | exact hk_.1.1 hs_ | exact hk_.1.2 hs_ | exact hk_.2.1 hs_ | exact hk_.2.2 hs_)) (fun k_ hk_ => by first | exact ⟨hk_.1.1.2, hk_.1.2⟩ | (simp_all; done))); replace HB := AM (hb); (try clear hb); (try clear hkp); (try clear hy0); have ⟨hcz49_0, hcz49_1, hcz49_2, hfz49_0, hfz49_1, hfz49_2⟩ := z3 BK234; have ⟨hcz50_0, hcz50_1, hcz50_2, hfz50_0, hfz50_1, hfz50_2⟩ := z3 BK222) | (go_at_call 27; (with_reducible refine (laws_eqPicture.calls k _ _ t226 t229 _ _ t230 _ _ t214 t217 _ _ t218 true _ ?side1 ?side2 ?side3 ?side4 ?side5 ?side6 ?side7 ?side8 A15.out).mono ?_); (case side1 => exact cR HO228); (case side2 => exact (Kd.R_reads' HO228.out).2.1); (case side3 => exact cR HO232); (case side4 => exact (Kd.R_reads' HO232.out).2.1); (case side5 => exact cR HO216); (case side6 => exact (Kd.R_reads' HO216.out).2.1); (case side7 => exact cR HO220); (case side8 => exact (Kd.R_reads' HO220.out).2.1); rintro e w51 ⟨rfl, hb⟩; replace HO213 := AM (Kd.R_below (pR HO213) hb); replace HO216 := AM (Kd.R_below (pR HO216) hb); replace HO220 := AM (Kd.R_below (pR HO220) hb); replace HO225 := AM (Kd.R_below (pR HO225) hb); replace HO228 := AM (Kd.R_below (pR HO228) hb); replace HO232 := AM (Kd.R_below (pR HO232) hb); replace HO238 := AM (Kd.R_below (pR HO238) hb); replace BK222 := bB BK222 hb; replace BK234 := bB BK234 hb; replace HB := AM (below_step (pH HB) hb); (try clear hb); (try clear hb2); (try clear hk); (try clear hi); have ⟨hcz52_0, hcz52_1, hcz52_2, hfz52_0, hfz52_1, hfz52_2⟩ := z3 BK234) | ((with_reducible refine gate_callee (f := 28) rfl ?_); refine goesL_ (some 61) rfl rfl Try.func28 (by kernel_rfl) rfl #[.agg #[.slice Ao40 t226.length co40, .int .i64 t229, .slice Ao43 t230.length co43], .int .i64 1] rfl (by (try simp only [List.map_toArray, List.map_cons, List.map_nil]); first | done | rfl | (simp only [List.length_drop, List.length_take]; rfl)) ?_; (with_reducible refine (laws_markPicture.calls k (fun k_ => some k_ = (.slice Ao40 t226.length co40 : Value).ownBlock) (.slice Ao40 t226.length co40) t226 t229 (fun k_ => some k_ = (.slice Ao43 t230.length co43 : Value).ownBlock) (.slice Ao43 t230.length co43) t230 1 t243 t244 t245 w _ ?side1 ?side2 ?side3 A17.out).mono ?_); (case side1 => exact pH HB); (case side2 => exact Kd.R_tight rfl HO228.out); (case side3 => exact Kd.R_tight rfl HO232.out); rintro e w53 ⟨rfl, hy0, hy1, hb, hkp⟩; refine ⟨_, rfl, ?_⟩; replace HO213 := AM (Kd.R_mono (ok' := fun k_ => some k_ ≠ (.slice Ao37 t223.length co37 : Value).ownBlock ∧ some k_ ≠ (.slice Ao47 t236.length co47 : Value).ownBlock) (Kd.R_keptB ((Kd.R_apart' (Kd.R_apart' HO213.out (Kd.R_typed HO228.out) (by decide)) (Kd.R_typed HO232.out) (by decide))) hkp (fun k_ hk_ hs_ => Or.elim hs_ (fun e_ => by first | exact (hk_.1.2) e_ | exact hk_.1 e_ | exact hk_.2 e_ | exact hk_.1.1 e_ | exact hk_.1.2 e_ | exact hk_.2.1 e_ | exact hk_.2.2 e_ | exact hk_.1.1.1 e_ | exact hk_.1.1.2 e_ | exact hk_.1.2.1 e_ | exact hk_.1.2.2 e_ | exact hk_.2.1.1 e_ | exact hk_.2.1.2 e_ | exact hk_.2.2.1 e_ | exact hk_.2.2.2 e_) (fun e_ => by first | exact (hk_.2) e_ | exact hk_.1 e_ | exact hk_.2 e_ | exact hk_.1.1 e_ | exact hk_.1.2 e_ | exact hk_.2.1 e_ | exact hk_.2.2 e_ | exact hk_.1.1.1 e_ | exact hk_.1.1.2 e_ | exact hk_.1.2.1 e_ | exact hk_.1.2.2 e_ | exact hk_.2.1.1 e_ | exact hk_.2.1.2 e_ | exact hk_.2.2.1 e_ | exact hk_.2.2.2 e_))) (fun k_ hk_ => by first | exact ⟨hk_.1.1.1.1, hk_.1.1.1.2⟩ | (simp_all; done))); replace HO216 := AM (Kd.R_mono (ok' := fun k_ => some k_ ≠ (.slice Ao40 t226.length co40 : Value).ownBlock) (Kd.R_keptB ((Kd.R_apart' HO216.out (Kd.R_typed HO232.out) (by decide))) hkp (fun k_ hk_ hs_ => Or.elim hs_ (fun e_ => by first | exact (hk_.1) e_ | exact hk_.1 e_ | exact hk_.2 e_ | exact hk_.1.1 e_ | exact hk_.1.2 e_ | exact hk_.2.1 e_ | exact hk_.2.2 e_ | exact hk_.1.1.1 e_ | exact hk_.1.1.2 e_ | exact hk_.1.2.1 e_ | exact hk_.1.2.2 e_ | exact hk_.2.1.1 e_ | exact hk_.2.1.2 e_ | exact hk_.2.2.1 e_ | exact hk_.2.2.2 e_) (fun e_ => by first | exact (hk_.2) e_ | exact hk_.1 e_ | exact hk_.2 e_ | exact hk_.1.1 e_ | exact hk_.1.2 e_ | exact hk_.2.1 e_ | exact hk_.2.2 e_ | exact hk_.1.1.1 e_ | exact hk_.1.1.2 e_ | exact hk_.1.2.1 e_ | exact hk_.1.2.2 e_ | exact hk_.2.1.1 e_ | exact hk_.2.1.2 e_ | exact hk_.2.2.1 e_ | exact hk_.2.2.2 e_))) (fun k_ hk_ => by first | exact hk_.1.1 | (simp_all; done))); replace HO220 := AM (Kd.R_mono (ok' := fun k_ => some k_ ≠ (.slice Ao43 t230.length co43 : Value).ownBlock) (Kd.R_keptB ((Kd.R_apart' HO220.out (Kd.R_typed HO228.out) (by decide))) hkp (fun k_ hk_ hs_ => Or.elim hs_ (fun e_ => by first | exact (hk_.2) e_ | exact hk_.1 e_ | exact hk_.2 e_ | exact hk_.1.1 e_ | exact hk_.1.2 e_ | exact hk_.2.1 e_ | exact hk_.2.2 e_ | exact hk_.1.1.1 e_ | exact hk_.1.1.2 e_ | exact hk_.1.2.1 e_ | exact hk_.1.2.2 e_ | exact hk_.2.1.1 e_ | exact hk_.2.1.2 e_ | exact hk_.2.2.1 e_ | exact hk_.2.2.2 e_) (fun e_ => by first | exact (hk_.1) e_ | exact hk_.1 e_ | exact hk_.2 e_ | exact hk_.1.1 e_ | exact hk_.1.2 e_ | exact hk_.2.1 e_ | exact hk_.2.2 e_ | exact hk_.1.1.1 e_ | exact hk_.1.1.2 e_ | exact hk_.1.2.1 e_ | exact hk_.1.2.2 e_ | exact hk_.2.1.1 e_ | exact hk_.2.1.2 e_ | exact hk_.2.2.1 e_ | exact hk_.2.2.2 e_))) (fun k_ hk_ => by first | exact hk_.1.1 | (simp_all; done))); replace BK222 := AM (blk_kept (pB BK222) hkp (fun hs_ => Or.elim hs_ (fun e_ => (fun e_ => (Kd.R_ne HO228.out BK222.out (by decide)) e_) e_) (fun e_ => (fun e_ => (Kd.R_ne HO232.out BK222.out (by decide)) e_) e_))); replace HO225 := AM (Kd.R_mono (ok' := fun k_ => some k_ ≠ (.slice Ao30 t211.length co30 : Value).ownBlock ∧ some k_ ≠ (.slice Ao47 t236.length co47 : Value).ownBlock) (Kd.R_keptB ((Kd.R_apart' (Kd.R_apart' HO225.out (Kd.R_typed HO228.out) (by decide)) (Kd.R_typed HO232.out) (by decide))) hkp (fun k_ hk_ hs_ => Or.elim hs_ (fun e_ => by first | exact (hk_.1.2) e_ | exact hk_.1 e_ | exact hk_.2 e_ | exact hk_.1.1 e_ | exact hk_.1.2 e_ | exact hk_.2.1 e_ | exact hk_.2.2 e_ | exact hk_.1.1.1 e_ | exact hk_.1.1.2 e_ | exact hk_.1.2.1 e_ | exact hk_.1.2.2 e_ | exact hk_.2.1.1 e_ | exact hk_.2.1.2 e_ | exact hk_.2.2.1 e_ | exact hk_.2.2.2 e_) (fun e_ => by first | exact (hk_.2) e_ | exact hk_.1 e_ | exact hk_.2 e_ | exact hk_.1.1 e_ | exact hk_.1.2 e_ | exact hk_.2.1 e_ | exact hk_.2.2 e_ | exact hk_.1.1.1 e_ | exact hk_.1.1.2 e_ | exact hk_.1.2.1 e_ | exact hk_.1.2.2 e_ | exact hk_.2.1.1 e_ | exact hk_.2.1.2 e_ | exact hk_.2.2.1 e_ | exact hk_.2.2.2 e_))) (fun k_ hk_ => by first | exact ⟨hk_.1.1.1.1.2, hk_.1.1.1.2⟩ | (simp_all; done))); replace BK234 := AM (blk_kept (pB BK234) hkp (fun hs_ => Or.elim hs_ (fun e_ => (fun e_ => (Kd.R_ne HO228.out BK234.out (by decide)) e_) e_) (fun e_ => (fun e_ => (Kd.R_ne HO232.out BK234.out (by decide)) e_) e_))); replace HO238 := AM (Kd.R_mono (ok' := fun k_ => some k_ ≠ (.slice Ao30 t211.length co30 : Value).ownBlock ∧ some k_ ≠ (.slice Ao37 t223.length co37 : Value).ownBlock) (Kd.R_keptB ((Kd.R_apart' (Kd.R_apart' HO238.out (Kd.R_typed HO228.out) (by decide)) (Kd.R_typed HO232.out) (by decide))) hkp (fun k_ hk_ hs_ => Or.elim hs_ (fun e_ => by first | exact (hk_.1.2) e_ | exact hk_.1 e_ | exact hk_.2 e_ | exact hk_.1.1 e_ | exact hk_.1.2 e_ | exact hk_.2.1 e_ | exact hk_.2.2 e_ | exact hk_.1.1.1 e_ | exact hk_.1.1.2 e_ | exact hk_.1.2.1 e_ | exact hk_.1.2.2 e_ | exact hk_.2.1.1 e_ | exact hk_.2.1.2 e_ | exact hk_.2.2.1 e_ | exact hk_.2.2.2 e_) (fun e_ => by first | exact (hk_.2) e_ | exact hk_.1 e_ | exact hk_.2 e_ | exact hk_.1.1 e_ | exact hk_.1.2 e_ | exact hk_.2.1 e_ | exact hk_.2.2 e_ | exact hk_.1.1.1 e_ | exact hk_.1.1.2 e_ | exact hk_.1.2.1 e_ | exact hk_.1.2.2 e_ | exact hk_.2.1.1 e_ | exact hk_.2.1.2 e_ | exact hk_.2.2.1 e_ | exact hk_.2.2.2 e_))) (fun k_ hk_ => by first | exact ⟨hk_.1.1.1.1, hk_.1.1.1.2⟩ | (simp_all; done))); replace HO228 := AM (Kd.R_reok rfl hy0 (fun k_ e_ => HO228.out.1 k_ e_)); replace HO232 := AM (Kd.R_reok rfl hy1 (fun k_ e_ => HO232.out.1 k_ e_)); replace HB := AM (hb); (try clear hb); (try clear hkp); (try clear hy0); (try clear hy1); have ⟨hcz54_0, hcz54_1, hcz54_2, hfz54_0, hfz54_1, hfz54_2⟩ := z3 BK234) | ((with_reducible refine gate_callee (f := 36) rfl ?_); refine goesL_ (some 64) rfl rfl Try.func36 (by kernel_rfl) rfl #[.agg #[.slice Ao40 t244.length co40, .int .i64 t229, .slice Ao43 t245.length co43], .int .i64 1] rfl (by (try simp only [List.map_toArray, List.map_cons, List.map_nil]); first | done | (rw [show t244.length = t226.length from (Kd.R_reads' HO228.out).1.symm, show t245.length = t230.length from (Kd.R_reads' HO232.out).1.symm] <;> rfl) | rfl | (simp only [List.length_drop, List.length_take]; rfl)) ?_; (with_reducible refine (laws_heldPicture.calls k _ _ t244 t229 _ _ t245 1 t246 _ ?side1 ?side2 ?side3 ?side4 A18.out).mono ?_); (case side1 => exact cR HO228); (case side2 => rw [show t244.length = t226.length from (Kd.R_reads' HO228.out).1.symm]; exact (Kd.R_reads' HO228.out).2.1); (case side3 => exact cR HO232); (case side4 => rw [show t245.length = t230.length from (Kd.R_reads' HO232.out).1.symm]; exact (Kd.R_reads' HO232.out).2.1); rintro e w55 ⟨rfl, hb⟩; refine ⟨_, rfl, ?_⟩; replace HO213 := AM (Kd.R_below (pR HO213) hb); replace HO216 := AM (Kd.R_below (pR HO216) hb); replace HO220 := AM (Kd.R_below (pR HO220) hb); replace HO225 := AM (Kd.R_below (pR HO225) hb); replace HO228 := AM (Kd.R_below (pR HO228) hb); replace HO232 := AM (Kd.R_below (pR HO232) hb); replace HO238 := AM (Kd.R_below (pR HO238) hb); replace BK222 := bB BK222 hb; replace BK234 := bB BK234 hb; replace HB := AM (below_step (pH HB) hb); (try clear hb); (try clear hb2); (try clear hk); (try clear hi)) | ((with_reducible refine gate_callee (f := 34) rfl ?_); refine goesL_ (some 72) rfl rfl Try.func34 (by kernel_rfl) rfl #[.slice A0 l0.length c0] rfl (by (try simp only [List.map_toArray, List.map_cons, List.map_nil]); first | done | rfl | (simp only [List.length_drop, List.length_take]; rfl)) ?_; (with_reducible refine (laws_toByteS.calls k _ _ l0 t247 _ ?side1 ?side2 A21.out).mono ?_); (case side1 => exact cB HR0 HB); (case side2 => exact HC0.out); rintro e w56 ⟨v248, rfl, ho0, hb⟩; refine ⟨_, rfl, ?_⟩; replace HO216 := AM (Kd.R_below (pR HO216) hb); replace HO220 := AM (Kd.R_below (pR HO220) hb); replace HO228 := AM (Kd.R_below (pR HO228) hb); replace HO232 := AM (Kd.R_below (pR HO232) hb); have HO249 := AM (Kd.R_lower (Kd.R_new' (Kd.R_new' (Kd.R_new' ho0 (Kd.R_lt (pR HO213))) (Kd.R_lt (pR HO225))) (Kd.R_lt (pR HO238))) (below_size (pH HB))); replace HO213 := AM (Kd.R_elder' (pR HO213) (Kd.R_base ho0) hb); replace HO225 := AM (Kd.R_elder' (pR HO225) (Kd.R_base ho0) hb); replace HO238 := AM (Kd.R_elder' (pR HO238) (Kd.R_base ho0) hb); replace BK222 := bB BK222 hb; replace BK234 := bB BK234 hb; replace HB := AM (below_step (pH HB) hb); (try clear hb); (try clear hb2); (try clear hk); (try clear hi); (try clear ho0); obtain ⟨Ao57, co57, eo57⟩ := Kd.R_slice HO249.out; subst eo57) | ((with_reducible refine gate_callee (f := 35) rfl ?_); refine goesL_ (some 73) rfl rfl Try.func35 (by kernel_rfl) rfl #[.slice Ao57 t247.length co57] rfl (by (try simp only [List.map_toArray, List.map_cons, List.map_nil]); first | done | rfl | (simp only [List.length_drop, List.length_take]; rfl)) ?_; (with_reducible refine (impl_DecodePicture.calls k _ _ t247 t250 t253 t254 t257 _ ?side1 ?side2 A22.out).mono ?_); (case side1 => exact cR HO249); (case side2 => exact (Kd.R_reads' HO249.out).2.1); rintro e w58 ⟨v251, v255, rfl, ho0, ho1, hb⟩; refine ⟨_, rfl, ?_⟩; replace HO213 := AM (Kd.R_below (pR HO213) hb); replace HO225 := AM (Kd.R_below (pR HO225) hb); replace HO238 := AM (Kd.R_below (pR HO238) hb); replace HO249 := AM (Kd.R_below (pR HO249) hb); have HO252 := AM (Kd.R_lower (Kd.R_new' (Kd.R_new' ho0 (Kd.R_lt (pR HO216))) (Kd.R_lt (pR HO228))) (below_size (pH HB))); replace HO216 := AM (Kd.R_elder' (pR HO216) (Kd.R_base ho0) hb); replace HO228 := AM (Kd.R_elder' (pR HO228) (Kd.R_base ho0) hb); have HO256 := AM (Kd.R_lower (Kd.R_new' (Kd.R_new' ho1 (Kd.R_lt (pR HO220))) (Kd.R_lt (pR HO232))) (below_size (pH HB))); replace HO220 := AM (Kd.R_elder' (pR HO220) (Kd.R_base ho1) hb); replace HO232 := AM (Kd.R_elder' (pR HO232) (Kd.R_base ho1) hb); replace BK222 := bB BK222 hb; replace BK234 := bB BK234 hb; replace HB := AM (below_step (pH HB) hb); (try clear hb); (try clear hb2); (try clear hk); (try clear hi); (try clear ho0); (try clear ho1)) | ((with_reducible refine gate_dst (N := 11) rfl ?_); refine box_event ?hg (N := 11) ?hd (cs := #[.slice none 0 0, .int .i64 0, .slice none 0 0]) (t := 43) ?hr ?_; (case hd => rfl); (case hg => rfl); (case hr => first | (go_simp; done) | (go_simp; rfl)); intro gb258 hg w59 hbox hb; replace HO213 := AM (Kd.R_below (pR HO213) hb); replace HO216 := AM (Kd.R_below (pR HO216) hb); replace HO220 := AM (Kd.R_below (pR HO220) hb); replace HO225 := AM (Kd.R_below (pR HO225) hb); replace HO228 := AM (Kd.R_below (pR HO228) hb); replace HO232 := AM (Kd.R_below (pR HO232) hb); replace HO238 := AM (Kd.R_below (pR HO238) hb); replace HO249 := AM (Kd.R_below (pR HO249) hb); replace HO252 := AM (Kd.R_below (pR HO252) hb); replace HO256 := AM (Kd.R_below (pR HO256) hb); have BK258 := AM (hbox); have GW258 := gH HB hg; have GE258 := gH HB hg; replace HB := AM (below_step (pH HB) hb); have NB222_258 := nL BK222 hg; have NB258_222 := nG BK222 hg; replace BK222 := bB BK222 hb; have NB234_258 := nL BK234 hg; have NB258_234 := nG BK234 hg; replace BK234 := bB BK234 hb; clear hb hbox hg; obtain ⟨Ao60, co60, eo60⟩ := Kd.R_slice HO252.out; subst eo60; have hnb61 := NB258_222.out; have hnc61 := NB222_258.out; have hnb62 := NB258_234.out; have hnc62 := NB234_258.out; have ⟨hcz63_0, hcz63_1, hcz63_2, hfz63_0, hfz63_1, hfz63_2⟩ := z3 BK258; obtain ⟨Ao64, co64, eo64⟩ := Kd.R_slice HO256.out; subst eo64; have ⟨hcz65_0, hcz65_1, hcz65_2, hfz65_0, hfz65_1, hfz65_2⟩ := z3 BK222) | ((with_reducible refine gate_callee (f := 27) rfl ?_); refine goesL_ (some 78) rfl rfl Try.func27 (by kernel_rfl) rfl #[.agg #[.slice Ao60 t250.length co60, .int .i64 t253, .slice Ao64 t254.length co64], .agg #[.slice Ao33 t214.length co33, .int .i64 t217, .slice Ao35 t218.length co35]] rfl (by (try simp only [List.map_toArray, List.map_cons, List.map_nil]); first | done | rfl | (simp only [List.length_drop, List.length_take]; rfl)) ?_; (with_reducible refine (laws_eqPicture.calls k _ _ t250 t253 _ _ t254 _ _ t214 t217 _ _ t218 true _ ?side1 ?side2 ?side3 ?side4 ?side5 ?side6 ?side7 ?side8 A23.out).mono ?_); (case side1 => refine (Kd.R_reads' (e := 3) (base := w.heap.size) (ok := fun k_ => ((True ∧ some k_ ≠ (.slice Ao33 t214.length co33 : Value).ownBlock) ∧ some k_ ≠ (.slice Ao40 t226.length co40 : Value).ownBlock)) (n := t250.length) (c := co60) ?_).2.2; exact (by (with_reducible repeat (first | apply Kd.R_alloc | apply Kd.R_drewN | apply Kd.R_drew)); exact (Kd.R_mono (Kd.R_far (p := ⟨gb258, 2, none⟩) (Kd.R_far (p := ⟨gb258, 1, none⟩) (Kd.R_far (p := ⟨gb258, 0, none⟩) (Kd.R_types HO252.out BK258.out (by decide)) (fun _ hk => hk.2) (.slice Ao60 t250.length co60)) (fun _ hk => hk.2) (.int .i64 t253)) (fun _ hk => hk.2) (.slice Ao64 t254.length co64)) (fun _ h_ => h_.1)))); (case side2 => exact (Kd.R_reads' HO252.out).2.1); (case side3 => refine (Kd.R_reads' (e := 4) (base := w.heap.size) (ok := fun k_ => ((True ∧ some k_ ≠ (.slice Ao35 t218.length co35 : Value).ownBlock) ∧ some k_ ≠ (.slice Ao43 t230.length co43 : Value).ownBlock)) (n := t254.length) (c := co64) ?_).2.2; exact (by (with_reducible repeat (first | apply Kd.R_alloc | apply Kd.R_drewN | apply Kd.R_drew)); exact (Kd.R_mono (Kd.R_far (p := ⟨gb258, 2, none⟩) (Kd.R_far (p := ⟨gb258, 1, none⟩) (Kd.R_far (p := ⟨gb258, 0, none⟩) (Kd.R_types HO256.out BK258.out (by decide)) (fun _ hk => hk.2) (.slice Ao60 t250.length co60)) (fun _ hk => hk.2) (.int .i64 t253)) (fun _ hk => hk.2) (.slice Ao64 t254.length co64)) (fun _ h_ => h_.1)))); (case side4 => exact (Kd.R_reads' HO256.out).2.1); (case side5 => refine (Kd.R_reads' (e := 3) (base := w.heap.size) (ok := fun k_ => (some k_ ≠ (.slice Ao40 t226.length co40 : Value).ownBlock ∧ some k_ ≠ (.slice Ao60 t250.length co60 : Value).ownBlock)) (n := t214.length) (c := co33) ?_).2.2; exact (by (with_reducible repeat (first | apply Kd.R_alloc | apply Kd.R_drewN | apply Kd.R_drew)); exact (Kd.R_mono (Kd.R_far (p := ⟨gb258, 2, none⟩) (Kd.R_far (p := ⟨gb258, 1, none⟩) (Kd.R_far (p := ⟨gb258, 0, none⟩) (Kd.R_types HO216.out BK258.out (by decide)) (fun _ hk => hk.2) (.slice Ao60 t250.length co60)) (fun _ hk => hk.2) (.int .i64 t253)) (fun _ hk => hk.2) (.slice Ao64 t254.length co64)) (fun _ h_ => h_.1)))); (case side6 => exact (Kd.R_reads' HO216.out).2.1); (case side7 => refine (Kd.R_reads' (e := 4) (base := w.heap.size) (ok := fun k_ => (some k_ ≠ (.slice Ao43 t230.length co43 : Value).ownBlock ∧ some k_ ≠ (.slice Ao64 t254.length co64 : Value).ownBlock)) (n := t218.length) (c := co35) ?_).2.2; exact (by (with_reducible repeat (first | apply Kd.R_alloc | apply Kd.R_drewN | apply Kd.R_drew)); exact (Kd.R_mono (Kd.R_far (p := ⟨gb258, 2, none⟩) (Kd.R_far (p := ⟨gb258, 1, none⟩) (Kd.R_far (p := ⟨gb258, 0, none⟩) (Kd.R_types HO220.out BK258.out (by decide)) (fun _ hk => hk.2) (.slice Ao60 t250.length co60)) (fun _ hk => hk.2) (.int .i64 t253)) (fun _ hk => hk.2) (.slice Ao64 t254.length co64)) (fun _ h_ => h_.1)))); (case side8 => exact (Kd.R_reads' HO220.out).2.1); rintro e w66 ⟨rfl, hb⟩; refine ⟨_, rfl, ?_⟩; replace HO213 := AM (Kd.R_below (by (with_reducible repeat (first | apply Kd.R_alloc | apply Kd.R_drewN | apply Kd.R_drew)); exact (Kd.R_mono (Kd.R_far (p := ⟨gb258, 2, none⟩) (Kd.R_far (p := ⟨gb258, 1, none⟩) (Kd.R_far (p := ⟨gb258, 0, none⟩) (Kd.R_types HO213.out BK258.out (by decide)) (fun _ hk => hk.2) (.slice Ao60 t250.length co60)) (fun _ hk => hk.2) (.int .i64 t253)) (fun _ hk => hk.2) (.slice Ao64 t254.length co64)) (fun _ h_ => h_.1))) hb); replace HO216 := AM (Kd.R_below (by (with_reducible repeat (first | apply Kd.R_alloc | apply Kd.R_drewN | apply Kd.R_drew)); exact (Kd.R_mono (Kd.R_far (p := ⟨gb258, 2, none⟩) (Kd.R_far (p := ⟨gb258, 1, none⟩) (Kd.R_far (p := ⟨gb258, 0, none⟩) (Kd.R_types HO216.out BK258.out (by decide)) (fun _ hk => hk.2) (.slice Ao60 t250.length co60)) (fun _ hk => hk.2) (.int .i64 t253)) (fun _ hk => hk.2) (.slice Ao64 t254.length co64)) (fun _ h_ => h_.1))) hb); replace HO220 := AM (Kd.R_below (by (with_reducible repeat (first | apply Kd.R_alloc | apply Kd.R_drewN | apply Kd.R_drew)); exact (Kd.R_mono (Kd.R_far (p := ⟨gb258, 2, none⟩) (Kd.R_far (p := ⟨gb258, 1, none⟩) (Kd.R_far (p := ⟨gb258, 0, none⟩) (Kd.R_types HO220.out BK258.out (by decide)) (fun _ hk => hk.2) (.slice Ao60 t250.length co60)) (fun _ hk => hk.2) (.int .i64 t253)) (fun _ hk => hk.2) (.slice Ao64 t254.length co64)) (fun _ h_ => h_.1))) hb); replace HO225 := AM (Kd.R_below (by (with_reducible repeat (first | apply Kd.R_alloc | apply Kd.R_drewN | apply Kd.R_drew)); exact (Kd.R_mono (Kd.R_far (p := ⟨gb258, 2, none⟩) (Kd.R_far (p := ⟨gb258, 1, none⟩) (Kd.R_far (p := ⟨gb258, 0, none⟩) (Kd.R_types HO225.out BK258.out (by decide)) (fun _ hk => hk.2) (.slice Ao60 t250.length co60)) (fun _ hk => hk.2) (.int .i64 t253)) (fun _ hk => hk.2) (.slice Ao64 t254.length co64)) (fun _ h_ => h_.1))) hb); replace HO228 := AM (Kd.R_below (by (with_reducible repeat (first | apply Kd.R_alloc | apply Kd.R_drewN | apply Kd.R_drew)); exact (Kd.R_mono (Kd.R_far (p := ⟨gb258, 2, none⟩) (Kd.R_far (p := ⟨gb258, 1, none⟩) (Kd.R_far (p := ⟨gb258, 0, none⟩) (Kd.R_types HO228.out BK258.out (by decide)) (fun _ hk => hk.2) (.slice Ao60 t250.length co60)) (fun _ hk => hk.2) (.int .i64 t253)) (fun _ hk => hk.2) (.slice Ao64 t254.length co64)) (fun _ h_ => h_.1))) hb); replace HO232 := AM (Kd.R_below (by (with_reducible repeat (first | apply Kd.R_alloc | apply Kd.R_drewN | apply Kd.R_drew)); exact (Kd.R_mono (Kd.R_far (p := ⟨gb258, 2, none⟩) (Kd.R_far (p := ⟨gb258, 1, none⟩) (Kd.R_far (p := ⟨gb258, 0, none⟩) (Kd.R_types HO232.out BK258.out (by decide)) (fun _ hk => hk.2) (.slice Ao60 t250.length co60)) (fun _ hk => hk.2) (.int .i64 t253)) (fun _ hk => hk.2) (.slice Ao64 t254.length co64)) (fun _ h_ => h_.1))) hb); replace HO238 := AM (Kd.R_below (by (with_reducible repeat (first | apply Kd.R_alloc | apply Kd.R_drewN | apply Kd.R_drew)); exact (Kd.R_mono (Kd.R_far (p := ⟨gb258, 2, none⟩) (Kd.R_far (p := ⟨gb258, 1, none⟩) (Kd.R_far (p := ⟨gb258, 0, none⟩) (Kd.R_types HO238.out BK258.out (by decide)) (fun _ hk => hk.2) (.slice Ao60 t250.length co60)) (fun _ hk => hk.2) (.int .i64 t253)) (fun _ hk => hk.2) (.slice Ao64 t254.length co64)) (fun _ h_ => h_.1))) hb); replace HO249 := AM (Kd.R_below (by (with_reducible repeat (first | apply Kd.R_alloc | apply Kd.R_drewN | apply Kd.R_drew)); exact (Kd.R_mono (Kd.R_far (p := ⟨gb258, 2, none⟩) (Kd.R_far (p := ⟨gb258, 1, none⟩) (Kd.R_far (p := ⟨gb258, 0, none⟩) (Kd.R_types HO249.out BK258.out (by decide)) (fun _ hk => hk.2) (.slice Ao60 t250.length co60)) (fun _ hk => hk.2) (.int .i64 t253)) (fun _ hk => hk.2) (.slice Ao64 t254.length co64)) (fun _ h_ => h_.1))) hb); replace HO252 := AM (Kd.R_below (by (with_reducible repeat (first | apply Kd.R_alloc | apply Kd.R_drewN | apply Kd.R_drew)); exact (Kd.R_mono (Kd.R_far (p := ⟨gb258, 2, none⟩) (Kd.R_far (p := ⟨gb258, 1, none⟩) (Kd.R_far (p := ⟨gb258, 0, none⟩) (Kd.R_types HO252.out BK258.out (by decide)) (fun _ hk => hk.2) (.slice Ao60 t250.length co60)) (fun _ hk => hk.2) (.int .i64 t253)) (fun _ hk => hk.2) (.slice Ao64 t254.length co64)) (fun _ h_ => h_.1))) hb); replace HO256 := AM (Kd.R_below (by (with_reducible repeat (first | apply Kd.R_alloc | apply Kd.R_drewN | apply Kd.R_drew)); exact (Kd.R_mono (Kd.R_far (p := ⟨gb258, 2, none⟩) (Kd.R_far (p := ⟨gb258, 1, none⟩) (Kd.R_far (p := ⟨gb258, 0, none⟩) (Kd.R_types HO256.out BK258.out (by decide)) (fun _ hk => hk.2) (.slice Ao60 t250.length co60)) (fun _ hk => hk.2) (.int .i64 t253)) (fun _ hk => hk.2) (.slice Ao64 t254.length co64)) (fun _ h_ => h_.1))) hb); replace BK222 := AM (blk_below (g := gb222) (o := .cells #[.slice Ao33 t214.length co33, .int .i64 t217, .slice Ao35 t218.length co35] 43 (0, 0)) (by refine sB ?_; refine blk_far ?_ NB222_258.out _; refine sB ?_; refine blk_far ?_ NB222_258.out _; refine sB ?_; refine blk_far ?_ NB222_258.out _; refine sB ?_; exact BK222.out) hb); replace BK234 := AM (blk_below (g := gb234) (o := .cells #[.slice Ao40 t226.length co40, .int .i64 t229, .slice Ao43 t230.length co43] 43 (0, 0)) (by refine sB ?_; refine blk_far ?_ NB234_258.out _; refine sB ?_; refine blk_far ?_ NB234_258.out _; refine sB ?_; refine blk_far ?_ NB234_258.out _; refine sB ?_; exact BK234.out) hb); replace BK258 := AM (blk_below (g := gb258) (o := .cells #[.slice Ao60 t250.length co60, .int .i64 t253, .slice Ao64 t254.length co64] 43 (0, 0)) (by refine sB ?_; refine blk_put (cs := #[.slice Ao60 t250.length co60, .int .i64 t253, .slice none 0 0]) ?_ 2 _ rfl; refine sB ?_; refine blk_put (cs := #[.slice Ao60 t250.length co60, .int .i64 0, .slice none 0 0]) ?_ 1 _ rfl; refine sB ?_; refine blk_put (cs := #[.slice none 0 0, .int .i64 0, .slice none 0 0]) ?_ 0 _ rfl; refine sB ?_; exact BK258.out) hb); replace HB := AM (below_step (pH HB) hb); (try clear hb); (try clear hb2); (try clear hk); (try clear hi); have ⟨hcz67_0, hcz67_1, hcz67_2, hfz67_0, hfz67_1, hfz67_2⟩ := z3 BK234) | ((with_reducible refine gate_callee (f := 36) rfl ?_); refine goesL_ (some 87) rfl rfl Try.func36 (by kernel_rfl) rfl #[.agg #[.slice Ao40 t244.length co40, .int .i64 t229, .slice Ao43 t245.length co43], .int .i64 1] rfl (by (try simp only [List.map_toArray, List.map_cons, List.map_nil]); first | done | (rw [show t244.length = t226.length from (Kd.R_reads' HO228.out).1.symm, show t245.length = t230.length from (Kd.R_reads' HO232.out).1.symm] <;> rfl) | rfl | (simp only [List.length_drop, List.length_take]; rfl)) ?_; (with_reducible refine (laws_heldPicture.calls k _ _ t244 t229 _ _ t245 1 t260 _ ?side1 ?side2 ?side3 ?side4 A26.out).mono ?_); (case side1 => exact cR HO228); (case side2 => rw [show t244.length = t226.length from (Kd.R_reads' HO228.out).1.symm]; exact (Kd.R_reads' HO228.out).2.1); (case side3 => exact cR HO232); (case side4 => rw [show t245.length = t230.length from (Kd.R_reads' HO232.out).1.symm]; exact (Kd.R_reads' HO232.out).2.1); rintro e w68 ⟨rfl, hb⟩; refine ⟨_, rfl, ?_⟩; replace HO213 := AM (Kd.R_below (pR HO213) hb); replace HO216 := AM (Kd.R_below (pR HO216) hb); replace HO220 := AM (Kd.R_below (pR HO220) hb); replace HO225 := AM (Kd.R_below (pR HO225) hb); replace HO228 := AM (Kd.R_below (pR HO228) hb); replace HO232 := AM (Kd.R_below (pR HO232) hb); replace HO238 := AM (Kd.R_below (pR HO238) hb); replace HO249 := AM (Kd.R_below (pR HO249) hb); replace HO252 := AM (Kd.R_below (pR HO252) hb); replace HO256 := AM (Kd.R_below (pR HO256) hb); replace BK222 := bB BK222 hb; replace BK234 := bB BK234 hb; replace BK258 := bB BK258 hb; replace HB := AM (below_step (pH HB) hb); (try clear hb); (try clear hb2); (try clear hk); (try clear hi)))
 go_ret
 exact ⟨by first | rfl | (simp [errW_none, errW_some] <;> rfl) | (simp [*, errW_none, errW_some] <;> rfl), pH HB⟩
/-- THE ONE PURE STATEMENT of laws_FnExactDecodePicture: yours. -/
def laws_FnExactDecodePicture.Pure : Prop := ∀ (l0 : List Int), l0.length ≤ maxLen → l0.length * 1 ≤ 140737488351232 → (∀ x ∈ l0, (Lit.int .u8 x).wf = true) → ∃ k, laws_FnExactDecodePicture.f k l0 = some true
theorem laws_FnExactDecodePicture.walk (P : laws_FnExactDecodePicture.Pure) (a0 : Option Addr) (len0 cap0 : Nat) (z0 : List Int) (w : World) (w0 : (a0 = none ∧ len0 = 0 ∧ cap0 = 0 ∧ z0 = []) ∨ ∃ x, a0 = some x ∧ len0 ≤ cap0 ∧ cap0 ≤ maxLen ∧ z0.length = cap0 ∧ (∀ i, i < z0.length → w.cell? (x.add i) = some (.int .u8 (z0.getD i 0))) ∧ ∀ n ∈ z0, (Lit.int .u8 n).wf = true) (y0 : len0 * 1 ≤ 140737488351232) :
 Calls Try.prog 8 #[.slice a0 len0 cap0] w fun e w' => e = .returned (.bool true) ∧ Below w.heap.size w w' := by
 obtain ⟨l0, rfl, hr0, hm0, hw0, hc0⟩ := ReadsInt.ofRowC w0
 obtain ⟨k, h⟩ := P l0 hm0 y0 hw0
 refine (laws_FnExactDecodePicture.calls k _ _ l0 true w (Kd.C_of_reads (d := (0 : Int)) (h1 := fun _ => rfl) hr0) hc0 h).mono ?_
 rintro e w' ⟨rfl, hd⟩
 exact ⟨rfl, hd⟩

end Go.Proofs.Ytcpdeenhjodmfaa.QDecodePicture
