-- Written by wip/tools/mkprint.py (my program) out of the translation, for this claim. Not trusted: Lean checks it.
import Derived.Test.YtcpdeenhjodmfaaQEncodePicturex0
namespace Go.Proofs.Ytcpdeenhjodmfaa.QEncodePicture
open Go.RowKit Go.Proofs.YtcpdeenhjodmfaaW.PrintWords Go.Proofs.YtcpdeenhjodmfaaW.PrintLast Go.Proofs.YtcpdeenhjodmfaaW.PrintMore
attribute [local go_sem] max2_int min2_int max_two min_two max_three min_three max_four min_four   -- for this text's walks alone
set_option linter.unusedVariables false
set_option linter.unusedSimpArgs false

/-! ### impl_validPicture: function 70 -/
mutual
def impl_validPicture.j0 : Nat → Bool → List Int → Int → List Bool → Option (Bool)
 | 0, _, _, _, _ => none
 | k + 1, x30, x169000, x169001, x169002 => if x30 = true then (some false) else (impl_validPicture.l0 k x169000 (x169000.length : Int) 0)
def impl_validPicture.l0 : Nat → List Int → Int → Int → Option (Bool)
 | 0, _, _, _ => none
 | k + 1, x32, x33, x34 => if x34 < x33 then (if 0 ≤ x34 then (if x34 < (x32.length : Int) then (if (rd x32 x34) < (-1) then (some false) else (if (rd x32 x34) ≥ 40 then (some false) else (impl_validPicture.l0 k x32 x33 (wrap64 (x34 + 1))))) else (none)) else (none)) else (some true)
end
def impl_validPicture.f (k : Nat) (l0_0 : List Int) (a0_1 : Int) (l0_2 : List Bool) : Option (Bool) := if (l0_0.length : Int) > 40 then (impl_validPicture.j0 k true l0_0 a0_1 l0_2) else (if a0_1 < 0 then (impl_validPicture.j0 k true l0_0 a0_1 l0_2) else (if a0_1 > 4 then (impl_validPicture.j0 k true l0_0 a0_1 l0_2) else (impl_validPicture.j0 k ((l0_2.length : Int) != (wrap64 ((l0_0.length : Int) * a0_1))) l0_0 a0_1 l0_2)))
theorem impl_validPicture.mono_l : ∀ k, (∀ y0 y1 y2 y3, LeO (impl_validPicture.j0 k y0 y1 y2 y3) (impl_validPicture.j0 (k + 1) y0 y1 y2 y3)) ∧ (∀ y0 y1 y2, LeO (impl_validPicture.l0 k y0 y1 y2) (impl_validPicture.l0 (k + 1) y0 y1 y2))
 | 0 => ⟨fun _ _ _ _ r h => by simp [impl_validPicture.j0] at h, fun _ _ _ r h => by simp [impl_validPicture.l0] at h⟩
 | k + 1 => by
  obtain ⟨ih0, ih1⟩ := impl_validPicture.mono_l k
  refine ⟨?_, ?_⟩
  · intro y0 y1 y2 y3
    unfold impl_validPicture.j0
    repeat' with_reducible first | exact ih0 _ _ _ _ | exact ih1 _ _ _ | exact LeO.refl _ | exact LeO.none _ | refine LeO.ite ?_ ?_ | refine LeO.bind ?_ (fun _ => ?_)
  intro y0 y1 y2
  unfold impl_validPicture.l0
  repeat' with_reducible first | exact ih0 _ _ _ _ | exact ih1 _ _ _ | exact LeO.refl _ | exact LeO.none _ | refine LeO.ite ?_ ?_ | refine LeO.bind ?_ (fun _ => ?_)
theorem impl_validPicture.mono : ∀ a0 a1 a2 k, LeO (impl_validPicture.f k a0 a1 a2) (impl_validPicture.f (k + 1) a0 a1 a2) := by
 intro a0 a1 a2 k
 obtain ⟨ih0, ih1⟩ := impl_validPicture.mono_l k
 unfold impl_validPicture.f
 repeat' with_reducible first | exact ih0 _ _ _ _ | exact ih1 _ _ _ | exact LeO.refl _ | exact LeO.none _ | refine LeO.ite ?_ ?_ | refine LeO.bind ?_ (fun _ => ?_)
set_option maxHeartbeats 8000000 in
set_option maxRecDepth 100000 in
theorem impl_validPicture.calls (k : Nat) (A0_0 : Option Addr) (c0_0 : Nat) (l0_0 : List Int) (a0_1 : Int) (A0_2 : Option Addr) (c0_2 : Nat) (l0_2 : List Bool) (r : Bool) (w : World) (hr0_0 : Kd.C (Kd.int .i64) w A0_0 l0_0.length l0_0) (hc0_0 : l0_0.length ≤ c0_0) (hr0_2 : Kd.C Kd.bool w A0_2 l0_2.length l0_2) (hc0_2 : l0_2.length ≤ c0_2) (h : impl_validPicture.f k l0_0 a0_1 l0_2 = some r) :
 Calls Try.prog 70 #[.agg #[.slice A0_0 l0_0.length c0_0, .int .i64 a0_1, .slice A0_2 l0_2.length c0_2]] w fun e w' => e = .returned (.bool r) ∧ Below w.heap.size w w' := by
 have hu43 := Try.underlying43; have HR0_0 := AM hr0_0; have HC0_0 := AM hc0_0; clear hr0_0 hc0_0; have HR0_2 := AM hr0_2; have HC0_2 := AM hc0_2; clear hr0_2 hc0_2; have HB := AM (Below.refl w.heap.size w)
 have H : (if (l0_0.length : Int) > 40 then (impl_validPicture.j0 k true l0_0 a0_1 l0_2) else (if a0_1 < 0 then (impl_validPicture.j0 k true l0_0 a0_1 l0_2) else (if a0_1 > 4 then (impl_validPicture.j0 k true l0_0 a0_1 l0_2) else (impl_validPicture.j0 k ((l0_2.length : Int) != (wrap64 ((l0_0.length : Int) * a0_1))) l0_0 a0_1 l0_2)))) = some r := h
 clear h; have HC2 := AM H; clear H
 go_enter Try.func70, Try.ntmps70
 go_upto_region 1 with (first | ((with_reducible refine gate_dst (N := 1) rfl ?_); (try (refine gate_guard (by rfl) ?_; dsimp only)); refine box_event ?hg (N := 1) ?hd (cs := #[.slice A0_0 l0_0.length c0_0, .int .i64 a0_1, .slice A0_2 l0_2.length c0_2]) (t := 43) ?hr ?_; (case hd => rfl); (case hg => rfl); (case hr => first | (go_simp; done) | (go_simp; rfl)); intro gb168 hg w3 hbox hb; have BK168 := AM (hbox); have GW168 := gH HB hg; have GE168 := gH HB hg; replace HB := AM (below_step (pH HB) hb); clear hb hbox hg))
 (try simp only [Act.put, List.setIfInBounds_toArray, List.set_cons_zero, List.set_cons_succ])
 go_cut [30] (fun v30 wc => ∃ (kq : Nat) (x30_1 : Bool), v30 = .bool x30_1 ∧ Aside0 (impl_validPicture.j0 kq x30_1 l0_0 a0_1 l0_2 = some r) ∧ Aside0 (kq ≤ k) ∧ Aside0 (wc.heap[gb168]? = some (.cells #[(.slice A0_0 l0_0.length c0_0), .int .i64 a0_1, (.slice A0_2 l0_2.length c0_2)] 43 (0, 0))) ∧ Aside0 (Below w.heap.size w wc))
 case first =>
  have H := HC2.out; clear HC2
  by_cases c4 : (l0_0.length : Int) > 40
  · rw [if_pos c4] at H
    have c4b0 : decide (40 < (l0_0.length : Int)) = true := decide_eq_true c4
    have c4b1 : decide (40 < l0_0.length) = true := decide_eq_true (by omega)
    clear c4
    (first | rw [c4b0] | (simp only [i64_w, i32_w]; rw [c4b0]) | skip)
    have H' := AM H
    clear H
    have hcz5_0 : w3.cell? ⟨gb168, 0, none⟩ = some (.slice A0_0 l0_0.length c0_0) := (blk_cell BK168.out 0).trans rfl
    have hcz5_1 : w3.cell? ⟨gb168, 1, none⟩ = some (.int .i64 a0_1) := (blk_cell BK168.out 1).trans rfl
    have hcz5_2 : w3.cell? ⟨gb168, 2, none⟩ = some (.slice A0_2 l0_2.length c0_2) := (blk_cell BK168.out 2).trans rfl
    have hfz5_0 := blk_frozen BK168.out 0; have hfz5_1 := blk_frozen BK168.out 1; have hfz5_2 := blk_frozen BK168.out 2
    go_wp2
    go_meet
    case rel => exact ⟨_, (true), (by first | rfl | (simp; done) | (simp [*]; done)), H', ⟨by first | omega | exact Nat.le_refl _⟩, ⟨by refine sB ?_; exact BK168.out⟩, ⟨pH HB⟩⟩
  rw [if_neg c4] at H
  have c4b0 : decide (40 < (l0_0.length : Int)) = false := decide_eq_false c4
  have c4b1 : decide (40 < l0_0.length) = false := decide_eq_false (by omega)
  clear c4
  (first | rw [c4b0] | (simp only [i64_w, i32_w]; rw [c4b0]) | skip)
  by_cases c6 : a0_1 < 0
  · rw [if_pos c6] at H
    have c6b0 : decide (a0_1 < 0) = true := decide_eq_true c6
    clear c6
    have H' := AM H
    clear H
    have hcz7_0 : w3.cell? ⟨gb168, 0, none⟩ = some (.slice A0_0 l0_0.length c0_0) := (blk_cell BK168.out 0).trans rfl
    have hcz7_1 : w3.cell? ⟨gb168, 1, none⟩ = some (.int .i64 a0_1) := (blk_cell BK168.out 1).trans rfl
    have hcz7_2 : w3.cell? ⟨gb168, 2, none⟩ = some (.slice A0_2 l0_2.length c0_2) := (blk_cell BK168.out 2).trans rfl
    have hfz7_0 := blk_frozen BK168.out 0; have hfz7_1 := blk_frozen BK168.out 1; have hfz7_2 := blk_frozen BK168.out 2
    go_wp2
    go_meet
    case rel => exact ⟨_, (true), (by first | rfl | (simp; done) | (simp [*]; done)), H', ⟨by first | omega | exact Nat.le_refl _⟩, ⟨by refine sB ?_; exact BK168.out⟩, ⟨pH HB⟩⟩
  rw [if_neg c6] at H
  have c6b0 : decide (a0_1 < 0) = false := decide_eq_false c6
  clear c6
  by_cases c8 : a0_1 > 4
  · rw [if_pos c8] at H
    have c8b0 : decide (4 < a0_1) = true := decide_eq_true c8
    clear c8
    have H' := AM H
    clear H
    have hcz9_0 : w3.cell? ⟨gb168, 0, none⟩ = some (.slice A0_0 l0_0.length c0_0) := (blk_cell BK168.out 0).trans rfl
    have hcz9_1 : w3.cell? ⟨gb168, 1, none⟩ = some (.int .i64 a0_1) := (blk_cell BK168.out 1).trans rfl
    have hcz9_2 : w3.cell? ⟨gb168, 2, none⟩ = some (.slice A0_2 l0_2.length c0_2) := (blk_cell BK168.out 2).trans rfl
    have hfz9_0 := blk_frozen BK168.out 0; have hfz9_1 := blk_frozen BK168.out 1; have hfz9_2 := blk_frozen BK168.out 2
    go_wp2
    go_meet
    case rel => exact ⟨_, (true), (by first | rfl | (simp; done) | (simp [*]; done)), H', ⟨by first | omega | exact Nat.le_refl _⟩, ⟨by refine sB ?_; exact BK168.out⟩, ⟨pH HB⟩⟩
  rw [if_neg c8] at H
  have c8b0 : decide (4 < a0_1) = false := decide_eq_false c8
  clear c8
  have H' := AM H
  clear H
  have hcz10_0 : w3.cell? ⟨gb168, 0, none⟩ = some (.slice A0_0 l0_0.length c0_0) := (blk_cell BK168.out 0).trans rfl
  have hcz10_1 : w3.cell? ⟨gb168, 1, none⟩ = some (.int .i64 a0_1) := (blk_cell BK168.out 1).trans rfl
  have hcz10_2 : w3.cell? ⟨gb168, 2, none⟩ = some (.slice A0_2 l0_2.length c0_2) := (blk_cell BK168.out 2).trans rfl
  have hfz10_0 := blk_frozen BK168.out 0; have hfz10_1 := blk_frozen BK168.out 1; have hfz10_2 := blk_frozen BK168.out 2
  go_wp2
  go_meet
  case rel => exact ⟨_, (((l0_2.length : Int) != (wrap64 ((l0_0.length : Int) * a0_1)))), (by first | rfl | (simp; done) | (simp [*]; done)), H', ⟨by first | omega | exact Nat.le_refl _⟩, ⟨by refine sB ?_; exact BK168.out⟩, ⟨pH HB⟩⟩
 case rest =>
  clear HC2
  try clear p2
  try clear c4
  try clear c4b0
  try clear c4b1
  try clear c6
  try clear c6b0
  try clear p6
  try clear c7
  try clear c8
  try clear c8b0
  try clear hcz10_0
  try clear hcz10_1
  try clear hcz10_2
  try clear hcz5_0
  try clear hcz5_1
  try clear hcz5_2
  try clear hcz7_0
  try clear hcz7_1
  try clear hcz7_2
  try clear hcz9_0
  try clear hcz9_1
  try clear hcz9_2
  try clear hfz10_0
  try clear hfz10_1
  try clear hfz10_2
  try clear hfz5_0
  try clear hfz5_1
  try clear hfz5_2
  try clear hfz7_0
  try clear hfz7_1
  try clear hfz7_2
  try clear hfz9_0
  try clear hfz9_1
  try clear hfz9_2
  obtain ⟨kq, x30_1, rfl, HA, HJ1, BK168, HB⟩ := hcut
  cases kq with
  | zero => exact absurd HA.out (by simp [impl_validPicture.j0])
  | succ kj1 =>
   have H := HA.out; clear HA
   simp only [impl_validPicture.j0] at H
   by_cases c11 : x30_1 = true
   · subst c11
     have H1 : (some false) = some r := by rw [if_pos rfl] at H; exact H
     clear H; have H := H1; clear H1
     obtain rfl := Option.some.inj H
     go_wp2
     go_ret
     exact ⟨by first | rfl | (simp [errW_none, errW_some] <;> rfl) | (simp [*, errW_none, errW_some] <;> rfl), pH HB⟩
   replace c11 := Bool.eq_false_iff.mpr c11
   subst c11
   have H1 : (impl_validPicture.l0 kj1 l0_0 (l0_0.length : Int) 0) = some r := by rw [if_neg (show ¬ (false = true) by decide)] at H; exact H
   clear H; have H := H1; clear H1
   have H' := AM H
   clear H
   have hcz12_0 : wc.cell? ⟨gb168, 0, none⟩ = some (.slice A0_0 l0_0.length c0_0) := (blk_cell BK168.out 0).trans rfl
   have hcz12_1 : wc.cell? ⟨gb168, 1, none⟩ = some (.int .i64 a0_1) := (blk_cell BK168.out 1).trans rfl
   have hcz12_2 : wc.cell? ⟨gb168, 2, none⟩ = some (.slice A0_2 l0_2.length c0_2) := (blk_cell BK168.out 2).trans rfl
   have hfz12_0 := blk_frozen BK168.out 0; have hfz12_1 := blk_frozen BK168.out 1; have hfz12_2 := blk_frozen BK168.out 2
   go_wp2
   go_loopg [34] kj1 (fun kq v34 w' => ∃ (x34_2 : Int), v34 = .int .i64 x34_2 ∧ Aside0 (impl_validPicture.l0 kq l0_0 (l0_0.length : Int) x34_2 = some r) ∧ Aside0 (kq ≤ kj1) ∧ Aside0 (w'.heap[gb168]? = some (.cells #[(.slice A0_0 l0_0.length c0_0), .int .i64 a0_1, (.slice A0_2 l0_2.length c0_2)] 43 (0, 0))) ∧ Aside0 (Below w.heap.size w w'))
   case atStart => exact ⟨(0), (by first | rfl | (simp; done) | (simp [*]; done)), H', ⟨Nat.le_refl _⟩, ⟨by refine sB ?_; exact BK168.out⟩, ⟨pH HB⟩⟩
   case round =>
    clear H'
    try clear c1
    try clear p2
    try clear c4
    try clear c4b0
    try clear c4b1
    try clear c6
    try clear c6b0
    try clear p6
    try clear c7
    try clear c8
    try clear c8b0
    try clear c11
    try clear hcz10_0
    try clear hcz10_1
    try clear hcz10_2
    try clear hcz12_0
    try clear hcz12_1
    try clear hcz12_2
    try clear hcz5_0
    try clear hcz5_1
    try clear hcz5_2
    try clear hcz7_0
    try clear hcz7_1
    try clear hcz7_2
    try clear hcz9_0
    try clear hcz9_1
    try clear hcz9_2
    try clear hfz10_0
    try clear hfz10_1
    try clear hfz10_2
    try clear hfz12_0
    try clear hfz12_1
    try clear hfz12_2
    try clear hfz5_0
    try clear hfz5_1
    try clear hfz5_2
    try clear hfz7_0
    try clear hfz7_1
    try clear hfz7_2
    try clear hfz9_0
    try clear hfz9_1
    try clear hfz9_2
    try clear p2
    try clear p6
    obtain ⟨x34_2, rfl, HA, HK2, BK168, HB⟩ := hrel
    cases gk with
    | zero => exact absurd HA.out (by simp [impl_validPicture.l0])
    | succ k2 =>
     have H := HA.out; clear HA
     simp only [impl_validPicture.l0] at H
     by_cases c13 : x34_2 < (l0_0.length : Int)
     rotate_left
     · rw [if_neg c13] at H
       have c13b0 : decide (x34_2 < (l0_0.length : Int)) = false := decide_eq_false c13
       clear c13
       obtain rfl := Option.some.inj H
       go_wp2
       go_ret
       exact ⟨by first | rfl | (simp [errW_none, errW_some] <;> rfl) | (simp [*, errW_none, errW_some] <;> rfl), pH HB⟩

     rw [if_pos c13] at H
     have c13b0 : decide (x34_2 < (l0_0.length : Int)) = true := decide_eq_true c13
     clear c13
     by_cases c14 : 0 ≤ x34_2
     rotate_left
     · rw [if_neg c14] at H
       exact absurd H (by simp)
     rw [if_pos c14] at H
     have c14b0 : decide (0 ≤ x34_2) = true := decide_eq_true c14
     clear c14
     by_cases c15 : x34_2 < (l0_0.length : Int)
     rotate_left
     · rw [if_neg c15] at H
       exact absurd H (by simp)
     rw [if_pos c15] at H
     have c15b0 : decide (x34_2 < (l0_0.length : Int)) = true := decide_eq_true c15
     clear c15
     by_cases c16 : (rd l0_0 x34_2) < (-1)
     · rw [if_pos c16] at H
       have c16b0 : decide ((rd l0_0 x34_2) < (-1)) = true := decide_eq_true c16
       clear c16
       obtain rfl := Option.some.inj H
       have p169 : 0 ≤ (x34_2 : Int) := of_decide_eq_true (by first | (with_reducible assumption) | assumption)
       have q169 : x34_2 < (l0_0.length : Int) := of_decide_eq_true (by first | (with_reducible assumption) | assumption)
       obtain ⟨ad169, e169, hx169_0⟩ := Kd.at_int HR0_0.out x34_2 p169 q169
       cases e169
       replace hx169_0 := (HB.out.cell (World.block_lt_of_cell? w _ hx169_0)).trans hx169_0; replace p169 := eq_true p169; replace q169 := eq_true q169
       go_wp2
       go_ret
       exact ⟨by first | rfl | (simp [errW_none, errW_some] <;> rfl) | (simp [*, errW_none, errW_some] <;> rfl), pH HB⟩
     rw [if_neg c16] at H
     have c16b0 : decide ((rd l0_0 x34_2) < (-1)) = false := decide_eq_false c16
     clear c16
     by_cases c17 : (rd l0_0 x34_2) ≥ 40
     · rw [if_pos c17] at H
       have c17b0 : decide (40 ≤ (rd l0_0 x34_2)) = true := decide_eq_true c17
       clear c17
       obtain rfl := Option.some.inj H
       have p169 : 0 ≤ (x34_2 : Int) := of_decide_eq_true (by first | (with_reducible assumption) | assumption)
       have q169 : x34_2 < (l0_0.length : Int) := of_decide_eq_true (by first | (with_reducible assumption) | assumption)
       obtain ⟨ad169, e169, hx169_0⟩ := Kd.at_int HR0_0.out x34_2 p169 q169
       cases e169
       replace hx169_0 := (HB.out.cell (World.block_lt_of_cell? w _ hx169_0)).trans hx169_0; replace p169 := eq_true p169; replace q169 := eq_true q169
       go_wp2
       go_ret
       exact ⟨by first | rfl | (simp [errW_none, errW_some] <;> rfl) | (simp [*, errW_none, errW_some] <;> rfl), pH HB⟩
     rw [if_neg c17] at H
     have c17b0 : decide (40 ≤ (rd l0_0 x34_2)) = false := decide_eq_false c17
     clear c17
     have H' := AM H
     clear H
     have p169 : 0 ≤ (x34_2 : Int) := of_decide_eq_true (by first | (with_reducible assumption) | assumption)
     have q169 : x34_2 < (l0_0.length : Int) := of_decide_eq_true (by first | (with_reducible assumption) | assumption)
     obtain ⟨ad169, e169, hx169_0⟩ := Kd.at_int HR0_0.out x34_2 p169 q169
     cases e169
     replace hx169_0 := (HB.out.cell (World.block_lt_of_cell? w _ hx169_0)).trans hx169_0; replace p169 := eq_true p169; replace q169 := eq_true q169
     go_wp2
     go_roundg k2
     case measure => have := HJ1.out; have := HK2.out; omega
     case rel => exact ⟨(wrap64 (x34_2 + 1)), (by first | rfl | (simp; done) | (simp [*]; done)), H', ⟨by have := HJ1.out; have := HK2.out; omega⟩, ⟨by refine sB ?_; exact BK168.out⟩, ⟨pH HB⟩⟩
/-! ### impl_bytesOut_put: function 71 -/
section
variable {P : Program}
/-- Blocks of another element type than t0, but for g, stand as they stood. -/
def Side (t0 : Nat) (w w' : World) (g : Nat) : Prop := w.heap.size ≤ w'.heap.size ∧ ∀ (k : Nat) (cs : Array Value) (t : Nat) (fr : Nat × Nat), w.heap[k]? = some (.cells cs t fr) → t ≠ t0 → k ≠ g → w'.heap[k]? = some (.cells cs t fr)
theorem Side.refl (t0 : Nat) (w : World) (g : Nat) : Side t0 w w g := ⟨Nat.le_refl _, fun _ _ _ _ h _ _ => h⟩
theorem Side.trans {t0 : Nat} {w w1 w2 : World} {g : Nat} (h : Side t0 w w1 g) (k : Side t0 w1 w2 g) : Side t0 w w2 g := ⟨Nat.le_trans h.1 k.1, fun b cs t fr hb ht hg => k.2 b cs t fr (h.2 b cs t fr hb ht hg) ht hg⟩
theorem Side.drew {t0 : Nat} {w w1 : World} {g : Nat} (h : Side t0 w w1 g) : Side t0 w w1.drew g := h
theorem Side.drewN {t0 : Nat} {w w1 : World} {g : Nat} (h : Side t0 w w1 g) (n : Nat) : Side t0 w (w1.drewN n) g := h
theorem Side.below {t0 : Nat} {w w1 : World} {g : Nat} (h : Below w.heap.size w w1) : Side t0 w w1 g := ⟨h.size, fun k cs t fr hk _ _ => (h.block k (blk_lt hk)).trans hk⟩
theorem Side.alloc {t0 : Nat} {w w1 : World} {g : Nat} (h : Side t0 w w1 g) (o : Obj) : Side t0 w (w1.alloc o) g := h.trans (Side.below (below_alloc (Below.refl _ _) o))
theorem Side.set {t0 : Nat} {w w1 : World} {g : Nat} (h : Side t0 w w1 g) (j : Nat) (u : Value) : Side t0 w (w1.setCell ⟨g, j, none⟩ u) g :=
  h.trans ⟨by simp, fun k cs t fr hk _ hg => (Below.heap_setCell w1 ⟨g, j, none⟩ u k hg).trans hk⟩
theorem Side.R {α : Type} {d : Kd α} {t0 e base : Nat} {ok : Nat → Prop} {v : Value} {xs : List α} {w w1 : World} {g : Nat} (h : d.R e w base ok v xs) (hE : d.E = []) (hs : Side t0 w w1 g) (he : e ≠ t0) {cs : Array Value} {t : Nat} (hg : w.heap[g]? = some (.cells cs t (0, 0))) (hne : e ≠ t) : d.R e w1 base ok v xs :=
  Kd.R_mono (Kd.R_move (Kd.R_tight hE h) (fun k hk => by
    obtain ⟨inner, ho⟩ := Kd.R_own h
    obtain ⟨cells, hc⟩ := own_typed ho k hk.symm
    rw [hc]
    refine hs.2 k cells e (0, 0) hc he ?_
    rintro rfl
    rw [hc] at hg
    injection hg with hg
    injection hg with _ hg
    exact hne hg)) (fun k hk => h.1 k hk.symm)
/-- What is gathered: a row of the call's own, or (mk) a literal's marked row. -/
def OutV (t0 : Nat) (W : World) (base : Nat) (mk : Bool) (v : Value) (xs : List Int) : Prop :=
  (mk = false → Kd.R (Kd.int .u8) t0 W base (fun _ => True) v xs) ∧ (mk = true → ∃ gl, v = .slice (some ⟨gl, 0, none⟩) xs.length xs.length ∧ base ≤ gl ∧ W.heap[gl]? = some (.cells (xs.map (Value.int .u8)).toArray t0 (xs.length, xs.length + 1)))
theorem OutV.below {t0 : Nat} {W W1 : World} {base : Nat} {mk : Bool} {v : Value} {xs : List Int} (h : OutV t0 W base mk v xs) (hb : Below W.heap.size W W1) : OutV t0 W1 base mk v xs :=
  ⟨fun e => Kd.R_below (h.1 e) hb, fun e => by
    obtain ⟨gl, h1, h2, h3⟩ := h.2 e
    exact ⟨gl, h1, h2, blk_below h3 hb⟩⟩
theorem OutV.drew {t0 : Nat} {W : World} {base : Nat} {mk : Bool} {v : Value} {xs : List Int} (h : OutV t0 W base mk v xs) : OutV t0 W.drew base mk v xs := ⟨fun e => Kd.R_drew (h.1 e), h.2⟩
theorem OutV.drewN {t0 : Nat} {W : World} {base : Nat} {mk : Bool} {v : Value} {xs : List Int} (h : OutV t0 W base mk v xs) (n : Nat) : OutV t0 (W.drewN n) base mk v xs := ⟨fun e => Kd.R_drewN (h.1 e) n, h.2⟩
theorem OutV.set {t0 : Nat} {W : World} {base : Nat} {mk : Bool} {v : Value} {xs : List Int} (h : OutV t0 W base mk v xs) {g t : Nat} {cs : Array Value} (hg : W.heap[g]? = some (.cells cs t (0, 0))) (ht : t0 ≠ t) (j : Nat) (u : Value) : OutV t0 (W.setCell ⟨g, j, none⟩ u) base mk v xs :=
  ⟨fun e => Kd.R_set (h.1 e) hg (fun q (hq : q ∈ t0 :: ([] : List Nat)) => by rw [List.mem_singleton.1 hq]; exact ht) j u, fun e => by
    obtain ⟨gl, h1, h2, h3⟩ := h.2 e
    refine ⟨gl, h1, h2, (Below.heap_setCell W ⟨g, j, none⟩ u gl ?_).trans h3⟩
    rintro rfl
    rw [h3] at hg
    injection hg with hg
    injection hg with _ hg
    exact ht hg⟩
theorem OutV.slice {t0 : Nat} {W : World} {base : Nat} {mk : Bool} {v : Value} {xs : List Int} (h : OutV t0 W base mk v xs) : ∃ A c, v = .slice A xs.length c := by
  cases mk with
  | false => exact Kd.R_slice (h.1 rfl)
  | true =>
    obtain ⟨gl, h1, _⟩ := h.2 rfl
    exact ⟨_, _, h1⟩
variable {ops : Array Oper} {o : Oper} {a : Act} {Q : Exit → Act → World → Prop} {Kc : Act → World → Prop}
/-- append of one byte, as a step of a region. -/
theorem step_put {w0 W : World} (base : Nat) (hw : Region.wanted o (yielded ops a.tmps) = true) (s x : Operand) (t t0 : TypeId)
    (ho : o.op = .call { callee := .builtin .append, args := #[s, x], argTypes := #[t, t] })
    (ht : P.underlying t = some (.slice t0)) (hinfo : (P.info? t0).map (fun i => (i.zero, i.size, i.bytes)) = some (some (.int .u8 0), 1, 1))
    (mk : Bool) (v : Value) (xs : List Int) (y : Int) (hs : a.eval s = v) (hx : a.eval x = .slice (some ⟨W.heap.size, 0, none⟩) 1 1)
    (HO : OutV t0 W base mk v xs) (HB : Below base w0 W) (hbase : base ≤ W.heap.size) (hl : xs.length + 1 ≤ 140737488355328)
    (h : ∀ v1 w1, Kd.R (Kd.int .u8) t0 w1 base (fun _ => True) v1 (xs ++ [y]) → Below base w0 w1 → (∀ (k : Nat) (cs : Array Value) (t' : Nat) (fr : Nat × Nat), W.heap[k]? = some (.cells cs t' fr) → t' ≠ t0 → w1.heap[k]? = some (.cells cs t' fr)) → W.heap.size ≤ w1.heap.size → Kc (a.put o.dst v1) w1) :
    if Region.wanted o (yielded ops a.tmps) = true then Oper.wp P o a (W.alloc (.cells #[.int .u8 y] t0)) Kc Q else Kc (a.put o.dst undef) (W.alloc (.cells #[.int .u8 y] t0)) := by
  cases mk with
  | false =>
    refine Kd.R_append_step (Kd.int .u8) (w0 := w0) base hw s x t t0 (.int .u8 0) 1 ho ht hinfo rfl (by decide) (by omega) v xs y [.int .u8 y] (fun _ => True) (fun _ => False) hs hx rfl (fun _ hk => hk.elim) (fun _ _ => trivial) (HO.1 rfl) HB hbase (by omega) ?_
    intro v1 w1 h1 h2 h3 h4
    refine h v1 w1 h1 h2 (fun k cs t' fr hk ht' => ?_) h3.size
    refine (h3.block k (blk_lt hk) ?_).trans hk
    intro hv
    obtain ⟨inner, ho'⟩ := Kd.R_own (HO.1 rfl)
    obtain ⟨cells, hc⟩ := own_typed ho' k hv.symm
    rw [hc] at hk
    injection hk with hk
    injection hk with _ hk
    exact ht' hk.symm
  | true =>
    obtain ⟨gl, rfl, hgl, hm⟩ := HO.2 rfl
    obtain ⟨i0, hi, hz0, hz1, hz2⟩ := info_parts hinfo
    rw [if_pos hw]
    have hm2 := blk_alloc hm (.cells #[.int .u8 y] t0)
    obtain ⟨v', w', hrun, r1, r2⟩ := run_append_arg_grows (P := P) (W.alloc (.cells #[.int .u8 y] t0)) t o.type t0 i0 (.int .u8 0) 1 1 ht hi hz0 hz1 hz2 rfl (by decide) ⟨gl, 0, none⟩ xs.length xs.length (xs.map (Value.int .u8)) (by simp)
      (fun j u hj => by rw [Addr.add_lit]; have hj2 := (List.getElem?_eq_some_iff.1 hj).1; simp only [World.cell?, hm2, Nat.zero_add]; simpa using hj)
      ⟨W.heap.size, 0, none⟩ 1 1 [.int .u8 y] rfl (fun j u hj => by
        rw [Addr.add_lit]
        have hj2 : j = 0 := by have := (List.getElem?_eq_some_iff.1 hj).1; simp at this; omega
        subst hj2
        simp at hj
        subst hj
        simp only [World.cell?, heap_alloc_new]
        rfl) (by omega) (by unfold maxLen; omega) (by omega)
    have hb : Below W.heap.size W w' := ((below_alloc (Below.refl _ _) _ : Below W.heap.size W (W.alloc (.cells #[.int .u8 y] t0)))).grown r2 (by simp) (fun k hk => by cases hk)
    have hr : Kd.R (Kd.int .u8) t0 w' base (fun _ => True) v' (xs ++ [y]) := by
      refine Kd.R_lower (base := (W.alloc (.cells #[.int .u8 y] t0)).heap.size) ⟨fun _ _ => trivial, _, by rw [List.length_append]; exact r1, ?_⟩ (Nat.le_trans hbase (by simp))
      rw [show xs.map (Value.int .u8) ++ [Value.int .u8 y] = (xs ++ [y]).map (Value.int .u8) from by simp]
      refine ⟨by rw [List.length_map]; exact (Nat.mul_one _).symm, fun j p hj => ?_⟩
      have hlt := (List.getElem?_eq_some_iff.1 hj).1
      have hp := (List.getElem?_eq_some_iff.1 hj).2
      show (((xs ++ [y]).map (Value.int .u8)).drop (j * 1)).take 1 = [Value.int .u8 p]
      rw [Nat.mul_one, List.drop_eq_getElem_cons (by simpa using hlt), List.take_succ_cons, List.take_zero, List.getElem_map, hp]
    unfold Oper.wp
    simp [execOp, ho, resolve, invoke, builtin, hs, hx, hrun, Result.andThen]
    exact h v' w' hr (HB.grown (grown_of_below hb none) hbase (fun k hk => by cases hk)) (fun k cs t' fr hk _ => (hb.block k (blk_lt hk)).trans hk) hb.size
end
theorem OutV.set0 {t0 : Nat} {W : World} {base g t : Nat} {cs : Array Value} {v u : Value} {xs : List Int} (h : Aside0 (Kd.R (Kd.int .u8) t0 W base (fun _ => True) v xs)) (hg : Aside0 (W.heap[g]? = some (.cells cs t (0, 0)))) (ht : t0 ≠ t := by decide) : Aside0 (OutV t0 (W.setCell ⟨g, 0, none⟩ u) base false v xs) := ⟨OutV.set ⟨fun _ => h.out, fun e => by cases e⟩ hg.out ht 0 u⟩
def putE (v : Int) (i : Nat) : Int := v / 2 ^ min (8 * i) 32 % 256
def putL (v : Int) (n : Nat) : List Int := (List.range n).map (putE v)
def putB (size : Nat) (vs : List Int) : List Int := vs.flatMap fun v => putL v size
theorem putL_succ (v : Int) (n : Nat) : putL v (n + 1) = putL v n ++ [putE v n] := by simp [putL, List.range_succ]
theorem putL_length (v : Int) (n : Nat) : (putL v n).length = n := by simp [putL]
theorem putB_length (size : Nat) : ∀ vs : List Int, (putB size vs).length = size * vs.length
  | [] => by simp [putB]
  | v :: vs => by
    have ih := putB_length size vs
    unfold putB at ih ⊢
    rw [List.flatMap_cons, List.length_append, putL_length, ih, List.length_cons, Nat.mul_add, Nat.mul_one, Nat.add_comm]
theorem putB_take (size : Nat) (vs : List Int) (j : Nat) (h : j < vs.length) : putB size (vs.take (j + 1)) = putB size (vs.take j) ++ putL (vs.getD j 0) size := by
  unfold putB
  rw [List.take_succ_eq_append_getElem h, List.flatMap_append, List.flatMap_cons, List.flatMap_nil, List.append_nil, List.getD_eq_getElem?_getD, List.getElem?_eq_getElem h]
  rfl
set_option maxHeartbeats 8000000 in
set_option maxRecDepth 100000 in
theorem impl_bytesOut_put.calls (w0 w : World) (g size : Nat) (hsize : size ≤ 8) (v : Value) (mk : Bool) (xs vs : List Int) (A : Option Addr) (c : Nat) (okv : Nat → Prop)
    (hG : w.heap[g]? = some (.cells #[v] 107 (0, 0))) (hg0 : w0.heap.size ≤ g) (HO : OutV 5 w w0.heap.size mk v xs) (hB : Below w0.heap.size w0 w)
    (HV : Kd.R (Kd.int .u32) 50 w w0.heap.size okv (.slice A vs.length c) vs) (hl : xs.length + size * vs.length ≤ 140737488355328) (hn : vs.length ≤ 1048576) :
    Calls Try.prog 71 #[.pointer (some ⟨g, 0, none⟩), .int .i64 (size : Int), .slice A vs.length c] w fun e w' => e = .returned (.tuple #[]) ∧ ∃ v' mk', w'.heap[g]? = some (.cells #[v'] 107 (0, 0)) ∧ OutV 5 w' w0.heap.size mk' v' (xs ++ putB size vs) ∧ (mk' = true → mk = true ∧ putB size vs = []) ∧ Below w0.heap.size w0 w' ∧ Side 5 w w' g := by
  have HG := AM hG; have HB := AM hB; have HS := AM (Side.refl 5 w g); have HOv := AM HO; have HVv := AM HV; have HL := AM hl; have HN := AM hn; have HGE := AM hg0
  have HM : Aside0 (mk = true → mk = true ∧ putB size (vs.take 0) = []) := ⟨fun h => ⟨h, by simp [putB]⟩⟩
  have hGw := AM hG
  clear hG hB HO HV hl hn hg0
  go_enter Try.func71, Try.ntmps71
  go_wp2
  go_loopg [11] vs.length (fun kq v11 w' => ∃ (j : Nat) (v' : Value) (mk' : Bool), v11 = .int .i64 (j : Int) ∧ Aside0 (j + kq = vs.length) ∧ Aside0 (w'.heap[g]? = some (.cells #[v'] 107 (0, 0))) ∧ Aside0 (OutV 5 w' w0.heap.size mk' v' (xs ++ putB size (vs.take j))) ∧ Aside0 (mk' = true → mk = true ∧ putB size (vs.take j) = []) ∧ Aside0 (Below w0.heap.size w0 w') ∧ Aside0 (Side 5 w w' g))
  case atStart => exact ⟨0, v, mk, rfl, ⟨by omega⟩, HG, ⟨by simpa [putB] using HOv.out⟩, HM, HB, HS⟩
  case round =>
    obtain ⟨j, v', mk', rfl, HJ, HG, HOv, HM, HB, HS⟩ := hrel
    cases gk with
    | zero =>
      have ej : j = vs.length := by have := HJ.out; omega
      have cb0 : decide ((j : Int) < (vs.length : Int)) = false := decide_eq_false (by omega)
      have cb1 : decide (j < vs.length) = false := decide_eq_false (by omega)
      go_wp2
      go_end0
      rw [ej, List.take_length] at HOv HM
      exact ⟨rfl, v', mk', HG.out, HOv.out, HM.out, HB.out, HS.out⟩
    | succ k2 =>
      have hj : j < vs.length := by have := HJ.out; omega
      have cb0 : decide ((j : Int) < (vs.length : Int)) = true := decide_eq_true (by omega)
      have cb1 : decide (j < vs.length) = true := decide_eq_true hj
      have HVr := Side.R HVv.out rfl HS.out (by decide) hGw.out (by decide)
      obtain ⟨ad, ea, hx⟩ := Kd.at_int (Kd.R_reads' HVr).2.2 (j : Int) (by omega) (by omega)
      subst ea
      obtain ⟨y, hy⟩ : ∃ y, vs.getD j 0 = y := ⟨_, rfl⟩
      have hx2 : wr.cell? (ad.add j) = some (.int .u32 y) := by
        rw [Int.toNat_natCast] at hx
        rw [hx, ← hy]
        simp [rd]
      clear HVr hx
      replace hy := AM hy
      go_wp2
      have hlen : ∀ i, i < size → (xs ++ putB size (vs.take j) ++ putL y i).length + 1 ≤ 140737488355328 := fun i hi => by
        have h1 : size * (j + 1) ≤ size * vs.length := Nat.mul_le_mul_left _ hj
        have h2 := HL.out
        rw [Nat.mul_add] at h1
        rw [List.length_append, List.length_append, putB_length, putL_length, List.length_take]
        rw [Nat.min_eq_left (by omega)]
        omega
      replace hlen := AM hlen
      go_loopg [16] size (fun kq v16 w' => ∃ (i : Nat) (v' : Value) (mk' : Bool), v16 = .int .i64 (i : Int) ∧ Aside0 (i + kq = size) ∧ Aside0 (w'.heap[g]? = some (.cells #[v'] 107 (0, 0))) ∧ Aside0 (OutV 5 w' w0.heap.size mk' v' (xs ++ putB size (vs.take j) ++ putL y i)) ∧ Aside0 (mk' = true → mk = true ∧ putB size (vs.take j) ++ putL y i = []) ∧ Aside0 (Below w0.heap.size w0 w') ∧ Aside0 (Side 5 w w' g))
      case atStart => exact ⟨0, v', mk', rfl, ⟨by omega⟩, HG, ⟨by simpa [putL] using HOv.out⟩, ⟨by simpa [putL] using HM.out⟩, HB, HS⟩
      case round =>
        clear HG HOv HM HB HS
        obtain ⟨i, v', mk', rfl, HI, HG, HOv, HM, HB, HS⟩ := hrel
        cases gk with
        | zero =>
          have ei : i = size := by have := HI.out; omega
          have ci0 : decide ((i : Int) < (size : Int)) = false := decide_eq_false (by omega)
          have ci1 : decide (i < size) = false := decide_eq_false (by omega)
          replace ei := AM ei
          go_wp2
          go_roundg k2
          case measure => omega
          case rel =>
            have hb2 := putB_take size vs j hj
            rw [hy.out] at hb2
            rw [ei.out, List.append_assoc, ← hb2] at HOv
            rw [ei.out, ← hb2] at HM
            have hw : wrap64 ((j : Int) + 1) = ((j + 1 : Nat) : Int) := by have := HN.out; unfold wrap64; omega
            exact ⟨j + 1, v', mk', by first | rfl | rw [hw], ⟨by have := HJ.out; omega⟩, HG, HOv, HM, HB, HS⟩
        | succ k3 =>
          have hi : i < size := by have := HI.out; omega
          have ci0 : decide ((i : Int) < (size : Int)) = true := decide_eq_true (by omega)
          have ci1 : decide (i < size) = true := decide_eq_true hi
          obtain ⟨jc, hjc⟩ : ∃ j_ : Int, wrap64 (8 * (i : Int)) = j_ := ⟨_, rfl⟩
          have hjcw : IntKind.i64.wrap (8 * (i : Int)) = jc := (i64_w _).trans hjc
          have hj8 : jc = ((8 * i : Nat) : Int) := by rw [← hjc]; unfold wrap64; omega
          have hjp := eq_true (show (0 : Int) ≤ jc by omega)
          have hjq : decide ((0 : Int) ≤ jc) = true := decide_eq_true (by omega)
          replace hj8 := AM hj8
          try go_wp2
          replace HG := AM (blk_drew HG.out); replace HOv := AM (OutV.drew HOv.out); replace HB := AM (below_drew1 HB.out); replace HS := AM (Side.drew HS.out)
          refine start_ (n := 13) (S := fun w' => w'.cell? ⟨g, 0, none⟩ = some v') (ds := [12]) #[false, false, false, false, false, false, false, false, false, false, false, false, false] (by kernel_rfl) rfl rfl ((blk_cell HG.out 0).trans rfl) (fun hHeld => ?_)
          generalize wr.drew = w1 at HG HOv HB HS hHeld ⊢
          refine pure_ (i := 0) (N := some 19) (v := ?_) (a' := ?_) #[true, false, false, false, false, false, false, false, false, false, false, false, false] rfl rfl (by kernel_rfl) (fun _ _ _ h => h) (Or.inl ⟨by rfl, ?_⟩) ?_ ?_
          rotate_left
          · intro w'
            go_simp
            with_reducible rfl
          rotate_left
          · simp only [Act.put, sa, sb, sc, i64_w, i32_w]
            rfl
          refine pure_ (i := 1) (N := some 20) (v := ?_) (a' := ?_) #[true, true, false, false, false, false, false, false, false, false, false, false, false] rfl rfl (by kernel_rfl) (fun _ _ _ h => h) (Or.inl ⟨by rfl, ?_⟩) ?_ ?_
          rotate_left
          · intro w'
            go_simp
            with_reducible rfl
          rotate_left
          · simp only [Act.put, sa, sb, sc, i64_w, i32_w]
            rfl
          refine pure_ (i := 2) (N := some 21) (v := ?_) (a' := ?_) #[true, true, true, false, false, false, false, false, false, false, false, false, false] rfl rfl (by kernel_rfl) (fun _ _ _ h => h) (Or.inl ⟨by rfl, ?_⟩) ?_ ?_
          rotate_left
          · intro w'
            go_simp
            with_reducible rfl
          rotate_left
          · simp only [Act.put, sa, sb, sc, i64_w, i32_w]
            rfl
          refine pure_ (i := 4) (N := some 23) (v := ?_) (a' := ?_) #[true, true, true, false, true, false, false, false, false, false, false, false, false] rfl rfl (by kernel_rfl) (fun _ _ _ h => h) (Or.inl ⟨by rfl, ?_⟩) ?_ ?_
          rotate_left
          · intro w'
            go_simp
            with_reducible rfl
          rotate_left
          · simp only [Act.put, sa, sb, sc, i64_w, i32_w]
            rfl
          refine pure_ (i := 5) (N := some 24) (v := ?_) (a' := ?_) #[true, true, true, false, true, true, false, false, false, false, false, false, false] rfl rfl (by kernel_rfl) (fun _ _ _ h => h) (Or.inl ⟨by rfl, ?_⟩) ?_ ?_
          rotate_left
          · intro w'
            go_simp
            with_reducible rfl
          rotate_left
          · simp only [Act.put, sa, sb, sc, i64_w, i32_w]
            rfl
          refine pure_ (i := 6) (N := some 25) (v := ?_) (a' := ?_) #[true, true, true, false, true, true, true, false, false, false, false, false, false] rfl rfl (by kernel_rfl) (fun _ _ _ h => h) (Or.inl ⟨by rfl, ?_⟩) ?_ ?_
          rotate_left
          · intro w'
            go_simp
            with_reducible rfl
          rotate_left
          · simp only [Act.put, sa, sb, sc, i64_w, i32_w]
            rfl
          refine pure_ (i := 7) (N := some 26) (v := ?_) (a' := ?_) #[true, true, true, false, true, true, true, true, false, false, false, false, false] rfl rfl (by kernel_rfl) (fun _ _ _ h => h) (Or.inl ⟨by rfl, ?_⟩) ?_ ?_
          rotate_left
          · intro w'
            go_simp
            with_reducible rfl
          rotate_left
          · simp only [Act.put, sa, sb, sc, i64_w, i32_w]
            rfl
          refine pure_ (i := 8) (N := some 27) (v := ?_) (a' := ?_) #[true, true, true, false, true, true, true, true, true, false, false, false, false] rfl rfl (by kernel_rfl) (fun _ _ _ h => h) (Or.inl ⟨by rfl, ?_⟩) ?_ ?_
          rotate_left
          · intro w'
            go_simp
            with_reducible rfl
          rotate_left
          · simp only [Act.put, sa, sb, sc, i64_w, i32_w]
            rfl
          refine take_ (i := 3) (N := some 22) (v := ?_) (a' := ?_) #[true, true, true, true, true, true, true, true, true, false, false, false, false] rfl rfl (by kernel_rfl) (fun _ _ _ h => h) (Or.inl ⟨by rfl, ?_⟩) hHeld ?_ ?_
          rotate_left
          · rintro w' s0
            go_simp
            with_reducible rfl
          rotate_left
          · simp only [Act.put, sa, sb, sc, i64_w, i32_w]
            rfl
          refine one_ (i := 9) (N := some 28) #[true, true, true, true, true, true, true, true, true, true, false, false, false] rfl rfl (by kernel_rfl) (by decide) (fun K hK => ?_)
          refine value_ (w1 := ?_) (v := ?_) (by rfl) rfl ?_ ?_
          rotate_left 2
          · go_simp
            constructor
            · rfl
            rfl
          refine hK.out _ _ ((blk_cell (blk_alloc HG.out _) 0).trans rfl) (fun hHeld => ?_)
          clear hK K
          refine norm_ (a' := ?_) ?_ ?_
          rotate_left
          · show Act.put _ (some 28) _ = _
            simp only [Act.put, sa, sb, sc, i64_w, i32_w]
            rfl
          refine one_ (i := 10) (N := some 29) #[true, true, true, true, true, true, true, true, true, true, true, false, false] rfl rfl (by kernel_rfl) (by decide) (fun K hK => ?_)
          refine step_put (w0 := w0) w0.heap.size (by rfl) (.tmp 22) (.tmp 28) 107 5 rfl Try.underlying107 info5 mk' v' (xs ++ putB size (vs.take j) ++ putL y i) (IntKind.u8.wrap (y / 2 ^ min jc.toNat 32)) rfl rfl HOv.out HB.out (below_size HB.out) (hlen.out i hi) ?_
          intro v1 w2 hr hb hs hsz
          have HG2 := AM (hs g _ _ _ HG.out (by decide))
          have HS2 := AM (HS.out.trans ⟨hsz, fun k cs t fr hk ht _ => hs k cs t fr hk ht⟩)
          have hev : IntKind.u8.wrap (y / 2 ^ min jc.toNat 32) = putE y i := by
            rw [hj8.out, Int.toNat_natCast]
            unfold putE
            simp [IntKind.wrap, IntKind.bits, IntKind.signed]
          rw [hev, List.append_assoc, ← putL_succ] at hr
          obtain ⟨ys, hys⟩ : ∃ ys, xs ++ putB size (vs.take j) ++ putL y (i + 1) = ys := ⟨_, rfl⟩
          rw [hys] at hr
          replace hys := AM hys
          have HR2 := AM hr
          replace HB := AM hb
          clear hr hb hs hsz HG HOv HS HM
          obtain ⟨Ao, co, eo⟩ := Kd.R_slice HR2.out
          subst eo
          refine hK.out _ _ ((blk_cell HG2.out 0).trans rfl) (fun hHeld => ?_)
          clear hK K
          refine norm_ (a' := ?_) ?_ ?_
          rotate_left
          · show Act.put _ (some 29) _ = _
            simp only [Act.put, sa, sb, sc, i64_w, i32_w]
            rfl
          refine pure_ (i := 11) (N := some 30) (v := ?_) (a' := ?_) #[true, true, true, true, true, true, true, true, true, true, true, true, false] rfl rfl (by kernel_rfl) (fun _ _ _ h => h) (Or.inl ⟨by rfl, ?_⟩) ?_ ?_
          rotate_left
          · intro w'
            go_simp
            with_reducible rfl
          rotate_left
          · simp only [Act.put, sa, sb, sc, i64_w, i32_w]
            rfl
          refine last_ (i := 12) (N := none) #[true, true, true, true, true, true, true, true, true, true, true, true, true] rfl rfl (by kernel_rfl) (by decide) (fun K hK => ?_)
          have hs1 : w2.cell? ⟨g, 0, none⟩ = some v' := (blk_cell HG2.out 0).trans rfl
          have hf1 := blk_frozen HG2.out 0
          refine skip_ (w1 := ?_) (by rfl) rfl ?_ ?_
          rotate_left
          · go_simp
            rfl
          refine hK.out _ _ ?_
          clear hK K
          refine done_ (by kernel_rfl) ?_
          try go_wp2
          go_roundg k3
          case measure => omega
          case rel => exact ⟨i + 1, _, false, by first | rfl | (simp; done), ⟨by have := HI.out; omega⟩, ⟨by refine blk_put (cs := #[v']) ?_ 0 _ rfl; exact HG2.out⟩, ⟨by rw [hys.out]; exact (OutV.set0 HR2 HG2).out⟩, ⟨fun h => by cases h⟩, ⟨below_set HB.out HGE.out⟩, ⟨Side.set HS2.out 0 _⟩⟩
theorem put_calls' (w0 w : World) (g size : Nat) (sz : Int) (hsz : sz = (size : Int)) (hsize : size ≤ 8) (v : Value) (mk : Bool) (xs vs : List Int) (A : Option Addr) (c : Nat) (okv : Nat → Prop)
    (hG : w.heap[g]? = some (.cells #[v] 107 (0, 0))) (hg0 : w0.heap.size ≤ g) (HO : OutV 5 w w0.heap.size mk v xs) (hB : Below w0.heap.size w0 w)
    (HV : Kd.R (Kd.int .u32) 50 w w0.heap.size okv (.slice A vs.length c) vs) (hl : xs.length + size * vs.length ≤ 140737488355328) (hn : vs.length ≤ 1048576) :
    Calls Try.prog 71 #[.pointer (some ⟨g, 0, none⟩), .int .i64 sz, .slice A vs.length c] w fun e w' => e = .returned (.tuple #[]) ∧ ∃ v' mk', w'.heap[g]? = some (.cells #[v'] 107 (0, 0)) ∧ OutV 5 w' w0.heap.size mk' v' (xs ++ putB size vs) ∧ (mk' = true → mk = true ∧ putB size vs = []) ∧ Below w0.heap.size w0 w' ∧ Side 5 w w' g := by
  subst hsz
  exact impl_bytesOut_put.calls w0 w g size hsize v mk xs vs A c okv hG hg0 HO hB HV hl hn

end Go.Proofs.Ytcpdeenhjodmfaa.QEncodePicture
