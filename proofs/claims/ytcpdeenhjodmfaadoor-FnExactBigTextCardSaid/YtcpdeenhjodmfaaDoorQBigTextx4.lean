-- Written by wip/tools/mkprint.py (my program) out of the translation, for this claim. Not trusted: Lean checks it.
import Derived.Test.YtcpdeenhjodmfaaDoorQBigTextx0
import Derived.Test.YtcpdeenhjodmfaaDoorQBigTextx1
import Derived.Test.YtcpdeenhjodmfaaDoorQBigTextx2
import Derived.Test.YtcpdeenhjodmfaaDoorQBigTextx3
namespace Go.Proofs.YtcpdeenhjodmfaaDoor.QBigText
open Go.RowKit Go.Proofs.YtcpdeenhjodmfaaDoorW.PrintWords Go.Proofs.YtcpdeenhjodmfaaDoorW.PrintLast Go.Proofs.YtcpdeenhjodmfaaDoorW.PrintMore
attribute [local go_sem] max2_int min2_int max_two min_two max_three min_three max_four min_four   -- for this text's walks alone
set_option linter.unusedVariables false
set_option linter.unusedSimpArgs false

/-! ### laws_eqUint32S: function 29 -/
def laws_eqUint32S.l0 : Nat → List Int → List Int → Int → Option (Bool)
 | 0, _, _, _ => none
 | k + 1, x0, x1, x5 => if x5 < (x0.length : Int) then (if 0 ≤ x5 then (if x5 < (x1.length : Int) then (if (rd x0 x5) = (rd x1 x5) then (laws_eqUint32S.l0 k x0 x1 (wrap64 (x5 + 1))) else (some false)) else (none)) else (none)) else (some true)
def laws_eqUint32S.f (k : Nat) (l0 : List Int) (l1 : List Int) : Option (Bool) := if (l0.length : Int) = (l1.length : Int) then (laws_eqUint32S.l0 k l0 l1 0) else (some false)
theorem laws_eqUint32S.mono_l : ∀ k, (∀ y0 y1 y2, LeO (laws_eqUint32S.l0 k y0 y1 y2) (laws_eqUint32S.l0 (k + 1) y0 y1 y2))
 | 0 => fun _ _ _ r h => by simp [laws_eqUint32S.l0] at h
 | k + 1 => by
  have ih0 := laws_eqUint32S.mono_l k
  · intro y0 y1 y2
    unfold laws_eqUint32S.l0
    repeat' with_reducible first | exact ih0 _ _ _ | exact LeO.refl _ | exact LeO.none _ | refine LeO.ite ?_ ?_ | refine LeO.bind ?_ (fun _ => ?_)
theorem laws_eqUint32S.mono : ∀ a0 a1 k, LeO (laws_eqUint32S.f k a0 a1) (laws_eqUint32S.f (k + 1) a0 a1) := by
 intro a0 a1 k
 have ih0 := laws_eqUint32S.mono_l k
 unfold laws_eqUint32S.f
 repeat' with_reducible first | exact ih0 _ _ _ | exact LeO.refl _ | exact LeO.none _ | refine LeO.ite ?_ ?_ | refine LeO.bind ?_ (fun _ => ?_)
set_option maxHeartbeats 8000000 in
set_option maxRecDepth 100000 in
theorem laws_eqUint32S.calls (k : Nat) (A0 : Option Addr) (c0 : Nat) (l0 : List Int) (A1 : Option Addr) (c1 : Nat) (l1 : List Int) (r : Bool) (w : World) (hr0 : Kd.C (Kd.int .u32) w A0 l0.length l0) (hc0 : l0.length ≤ c0) (hr1 : Kd.C (Kd.int .u32) w A1 l1.length l1) (hc1 : l1.length ≤ c1) (h : laws_eqUint32S.f k l0 l1 = some r) :
 Calls Tryd.prog 29 #[.slice A0 l0.length c0, .slice A1 l1.length c1] w fun e w' => e = .returned (.bool r) ∧ Drawn0 w w' := by
 have HR0 := AM hr0; have HC0 := AM hc0; clear hr0 hc0; have HR1 := AM hr1; have HC1 := AM hc1; clear hr1 hc1
 have H : (if (l0.length : Int) = (l1.length : Int) then (laws_eqUint32S.l0 k l0 l1 0) else (some false)) = some r := h
 clear h
 by_cases c3 : (l0.length : Int) = (l1.length : Int)
 rotate_left
 · rw [if_neg c3] at H
   have c3b0 : ((l0.length : Int) == (l1.length : Int)) = false := beq_eq_false_iff_ne.mpr c3
   have c3b1 : ((l0.length : Int) != (l1.length : Int)) = true := bne_iff_ne.mpr c3
   have c3b2 : (l0.length == l1.length) = false := by first | simpa using c3 | (simp at c3 ⊢; omega)
   obtain rfl := Option.some.inj H
   go_enter Tryd.func29, Tryd.ntmps29
   go_wp2
   repeat (go_quiet (fail); try go_wp2)
   go_ret
   exact ⟨by first | rfl | (simp; done) | (simp [*]; done), by repeat (first | exact Drawn0.refl _ | apply Drawn0.step)⟩

 rw [if_pos c3] at H
 have c3b0 : ((l0.length : Int) == (l1.length : Int)) = true := beq_iff_eq.mpr c3
 have c3b1 : ((l0.length : Int) != (l1.length : Int)) = false := bne_eq_false_iff_eq.mpr c3
 have c3b2 : (l0.length == l1.length) = true := by first | simpa using c3 | (simp at c3 ⊢; omega)
 clear c3
 have H' := AM H
 clear H
 go_enter Tryd.func29, Tryd.ntmps29
 go_wp2
 repeat (go_quiet (fail); try go_wp2)
 go_loopg [5] k (fun kq v5 w' => ∃ (x5_1 : Int), v5 = .int .i64 x5_1 ∧ Aside0 (laws_eqUint32S.l0 kq l0 l1 x5_1 = some r) ∧ Aside0 (kq ≤ k) ∧ Drawn0 w w')
 case atStart => exact ⟨(0), (by first | rfl | (simp; done) | (simp [*]; done)), H', ⟨Nat.le_refl _⟩, by repeat (first | exact Drawn0.refl _ | apply Drawn0.step)⟩
 case round =>
  clear H'
  try clear c1
  try clear c2
  try clear p2
  try clear c3
  try clear c3b0
  try clear c3b1
  try clear c3b2
  obtain ⟨x5_1, rfl, HA, HK1, ⟨m1, rfl⟩⟩ := hrel
  cases gk with
  | zero => exact absurd HA.out (by simp [laws_eqUint32S.l0])
  | succ k1 =>
   have H := HA.out; clear HA
   simp only [laws_eqUint32S.l0] at H
   by_cases c4 : x5_1 < (l0.length : Int)
   rotate_left
   · rw [if_neg c4] at H
     have c4b0 : decide (x5_1 < (l0.length : Int)) = false := decide_eq_false c4
     clear c4
     obtain rfl := Option.some.inj H
     go_wp2
     repeat (go_quiet (fail); try go_wp2)
     go_ret
     exact ⟨by first | rfl | (simp; done) | (simp [*]; done), by repeat (first | exact Drawn0.refl _ | apply Drawn0.step)⟩
   rw [if_pos c4] at H
   have c4b0 : decide (x5_1 < (l0.length : Int)) = true := decide_eq_true c4
   clear c4
   by_cases c5 : 0 ≤ x5_1
   rotate_left
   · rw [if_neg c5] at H
     exact absurd H (by simp)
   rw [if_pos c5] at H
   have c5b0 : decide (0 ≤ x5_1) = true := decide_eq_true c5
   clear c5
   by_cases c6 : x5_1 < (l1.length : Int)
   rotate_left
   · rw [if_neg c6] at H
     exact absurd H (by simp)
   rw [if_pos c6] at H
   have c6b0 : decide (x5_1 < (l1.length : Int)) = true := decide_eq_true c6
   clear c6
   by_cases c7 : (rd l0 x5_1) = (rd l1 x5_1)
   rotate_left
   · rw [if_neg c7] at H
     have c7b0 : ((rd l0 x5_1) == (rd l1 x5_1)) = false := beq_eq_false_iff_ne.mpr c7
     have c7b1 : ((rd l0 x5_1) != (rd l1 x5_1)) = true := bne_iff_ne.mpr c7
     obtain rfl := Option.some.inj H
     have p192 : 0 ≤ (x5_1 : Int) := of_decide_eq_true (by first | (with_reducible assumption) | assumption)
     have q192 : x5_1 < (l0.length : Int) := of_decide_eq_true (by first | (with_reducible assumption) | assumption)
     obtain ⟨ad192, e192, hx192_0⟩ := Kd.at_int HR0.out x5_1 p192 q192
     cases e192
     replace p192 := eq_true p192; replace q192 := eq_true q192
     have p193 : 0 ≤ (x5_1 : Int) := of_decide_eq_true (by first | (with_reducible assumption) | assumption)
     have q193 : x5_1 < (l1.length : Int) := of_decide_eq_true (by first | (with_reducible assumption) | assumption)
     obtain ⟨ad193, e193, hx193_0⟩ := Kd.at_int HR1.out x5_1 p193 q193
     cases e193
     replace p193 := eq_true p193; replace q193 := eq_true q193
     go_wp2
     repeat (go_quiet (fail); try go_wp2)
     go_ret
     exact ⟨by first | rfl | (simp; done) | (simp [*]; done), by repeat (first | exact Drawn0.refl _ | apply Drawn0.step)⟩
   rw [if_pos c7] at H
   have c7b0 : ((rd l0 x5_1) == (rd l1 x5_1)) = true := beq_iff_eq.mpr c7
   have c7b1 : ((rd l0 x5_1) != (rd l1 x5_1)) = false := bne_eq_false_iff_eq.mpr c7
   clear c7
   have H' := AM H
   clear H
   have p192 : 0 ≤ (x5_1 : Int) := of_decide_eq_true (by first | (with_reducible assumption) | assumption)
   have q192 : x5_1 < (l0.length : Int) := of_decide_eq_true (by first | (with_reducible assumption) | assumption)
   obtain ⟨ad192, e192, hx192_0⟩ := Kd.at_int HR0.out x5_1 p192 q192
   cases e192
   replace p192 := eq_true p192; replace q192 := eq_true q192
   have p193 : 0 ≤ (x5_1 : Int) := of_decide_eq_true (by first | (with_reducible assumption) | assumption)
   have q193 : x5_1 < (l1.length : Int) := of_decide_eq_true (by first | (with_reducible assumption) | assumption)
   obtain ⟨ad193, e193, hx193_0⟩ := Kd.at_int HR1.out x5_1 p193 q193
   cases e193
   replace p193 := eq_true p193; replace q193 := eq_true q193
   go_wp2
   repeat (go_quiet (fail); try go_wp2)
   go_roundg k1
   case measure => have := HK1.out; omega
   case rel => exact ⟨(wrap64 (x5_1 + 1)), (by first | rfl | (simp; done) | (simp [*]; done)), H', ⟨by have := HK1.out; omega⟩, by repeat (first | exact Drawn0.refl _ | apply Drawn0.step)⟩
/-! ### laws_eqBig: function 10 -/
def laws_eqBig.f (k : Nat) (a0_0 : Bool) (l0_1 : List Int) (a1_0 : Bool) (l1_1 : List Int) : Option (Bool) := if (a0_0 != a1_0) = true then (some false) else ((laws_eqUint32S.f k l0_1 l1_1).bind fun t196 => (if t196 = true then (some true) else (some false)))
theorem laws_eqBig.mono : ∀ a0 a1 a2 a3 k, LeO (laws_eqBig.f k a0 a1 a2 a3) (laws_eqBig.f (k + 1) a0 a1 a2 a3) := by
 intro a0 a1 a2 a3 k
 unfold laws_eqBig.f
 repeat' with_reducible first | exact laws_eqUint32S.mono _ _ _ | exact LeO.refl _ | exact LeO.none _ | refine LeO.ite ?_ ?_ | refine LeO.bind ?_ (fun _ => ?_)
set_option maxHeartbeats 8000000 in
set_option maxRecDepth 100000 in
theorem laws_eqBig.calls (k : Nat) (a0_0 : Bool) (A0_1 : Option Addr) (c0_1 : Nat) (l0_1 : List Int) (a1_0 : Bool) (A1_1 : Option Addr) (c1_1 : Nat) (l1_1 : List Int) (r : Bool) (w : World) (hr0_1 : Kd.C (Kd.int .u32) w A0_1 l0_1.length l0_1) (hc0_1 : l0_1.length ≤ c0_1) (hr1_1 : Kd.C (Kd.int .u32) w A1_1 l1_1.length l1_1) (hc1_1 : l1_1.length ≤ c1_1) (h : laws_eqBig.f k a0_0 l0_1 a1_0 l1_1 = some r) :
 Calls Tryd.prog 10 #[.agg #[.bool a0_0, .slice A0_1 l0_1.length c0_1], .agg #[.bool a1_0, .slice A1_1 l1_1.length c1_1]] w fun e w' => e = .returned (.bool r) ∧ Below w.heap.size w w' := by
 have hu29 := Tryd.underlying29; have HR0_1 := AM hr0_1; have HC0_1 := AM hc0_1; clear hr0_1 hc0_1; have HR1_1 := AM hr1_1; have HC1_1 := AM hc1_1; clear hr1_1 hc1_1; have HB := AM (Below.refl w.heap.size w)
 have H : (if (a0_0 != a1_0) = true then (some false) else ((laws_eqUint32S.f k l0_1 l1_1).bind fun t196 => (if t196 = true then (some true) else (some false)))) = some r := h
 clear h
 by_cases c3 : (a0_0 != a1_0) = true
 · rw [if_pos c3] at H
   have c3b0 : (a0_0 != a1_0) = true := c3
   (try (have c3b1 : decide (a0_0 = a1_0) = false := by simpa using c3))
   (try (have c3b2 : (a0_0 == a1_0) = false := by simpa using c3))
   (try (have c3b3 : ¬ (a0_0 = a1_0) := by simpa using c3))
   clear c3
   obtain rfl := Option.some.inj H
   go_enter Tryd.func10, Tryd.ntmps10
   go_wp2_with (first | ((with_reducible refine gate_dst (N := 2) rfl ?_); refine box_event ?hg (N := 2) ?hd (cs := #[.bool a0_0, .slice A0_1 l0_1.length c0_1]) (t := 29) ?hr ?_; (case hd => rfl); (case hg => rfl); (case hr => first | (go_simp; done) | (go_simp; rfl)); intro gb194 hg w4 hbox hb; have BK194 := AM (hbox); have GW194 := gH HB hg; have GE194 := gH HB hg; replace HB := AM (below_step (pH HB) hb); clear hb hbox hg) | ((with_reducible refine gate_dst (N := 3) rfl ?_); refine box_event ?hg (N := 3) ?hd (cs := #[.bool a1_0, .slice A1_1 l1_1.length c1_1]) (t := 29) ?hr ?_; (case hd => rfl); (case hg => rfl); (case hr => first | (go_simp; done) | (go_simp; rfl)); intro gb195 hg w5 hbox hb; have BK195 := AM (hbox); have GW195 := gH HB hg; have GE195 := gH HB hg; replace HB := AM (below_step (pH HB) hb); have NB194_195 := nL BK194 hg; have NB195_194 := nG BK194 hg; replace BK194 := bB BK194 hb; clear hb hbox hg; have hnb6 := NB194_195.out; have hnc6 := NB195_194.out; have ⟨hcz7_0, hcz7_1, hfz7_0, hfz7_1⟩ := z2 BK194; have ⟨hcz8_0, hcz8_1, hfz8_0, hfz8_1⟩ := z2 BK195))
   go_ret
   exact ⟨by first | rfl | (simp [errW_none, errW_some] <;> rfl) | (simp [*, errW_none, errW_some] <;> rfl), pH HB⟩
 rw [if_neg c3] at H
 have c3b0 : (a0_0 != a1_0) = false := by simpa using c3
 (try (have c3b1 : decide (a0_0 = a1_0) = true := by simpa using c3))
 (try (have c3b2 : (a0_0 == a1_0) = true := by simpa using c3))
 clear c3
 replace H := Option.bind_eq_some_iff.mp H
 obtain ⟨t196, A90, H⟩ := H
 (try dsimp only at H)
 have A9 := AM A90; clear A90
 by_cases c10 : t196 = true
 · subst c10
   have H1 : (some true) = some r := by rw [if_pos rfl] at H; exact H
   clear H; have H := H1; clear H1
   obtain rfl := Option.some.inj H
   go_enter Tryd.func10, Tryd.ntmps10
   go_wp2_with (first | ((with_reducible refine gate_dst (N := 2) rfl ?_); refine box_event ?hg (N := 2) ?hd (cs := #[.bool a0_0, .slice A0_1 l0_1.length c0_1]) (t := 29) ?hr ?_; (case hd => rfl); (case hg => rfl); (case hr => first | (go_simp; done) | (go_simp; rfl)); intro gb194 hg w11 hbox hb; have BK194 := AM (hbox); have GW194 := gH HB hg; have GE194 := gH HB hg; replace HB := AM (below_step (pH HB) hb); clear hb hbox hg) | ((with_reducible refine gate_dst (N := 3) rfl ?_); refine box_event ?hg (N := 3) ?hd (cs := #[.bool a1_0, .slice A1_1 l1_1.length c1_1]) (t := 29) ?hr ?_; (case hd => rfl); (case hg => rfl); (case hr => first | (go_simp; done) | (go_simp; rfl)); intro gb195 hg w12 hbox hb; have BK195 := AM (hbox); have GW195 := gH HB hg; have GE195 := gH HB hg; replace HB := AM (below_step (pH HB) hb); have NB194_195 := nL BK194 hg; have NB195_194 := nG BK194 hg; replace BK194 := bB BK194 hb; clear hb hbox hg; have hnb13 := NB194_195.out; have hnc13 := NB195_194.out; have ⟨hcz14_0, hcz14_1, hfz14_0, hfz14_1⟩ := z2 BK194; have ⟨hcz15_0, hcz15_1, hfz15_0, hfz15_1⟩ := z2 BK195) | ((with_reducible refine gate_callee (f := 29) rfl ?_); refine goesL_ (some 14) rfl rfl Tryd.func29 (by kernel_rfl) rfl #[.slice A0_1 l0_1.length c0_1, .slice A1_1 l1_1.length c1_1] rfl (by (try simp only [List.map_toArray, List.map_cons, List.map_nil]); first | done | rfl | (simp only [List.length_drop, List.length_take]; rfl)) ?_; (with_reducible refine (laws_eqUint32S.calls k _ _ l0_1 _ _ l1_1 true _ ?side1 ?side2 ?side3 ?side4 A9.out).mono ?_); (case side1 => exact cB HR0_1 HB); (case side2 => exact HC0_1.out); (case side3 => exact cB HR1_1 HB); (case side4 => exact HC1_1.out); rintro e w' ⟨rfl, ⟨nd, rfl⟩⟩; refine ⟨_, rfl, ?_⟩))
   go_ret
   exact ⟨by first | rfl | (simp [errW_none, errW_some] <;> rfl) | (simp [*, errW_none, errW_some] <;> rfl), pH HB⟩
 replace c10 := Bool.eq_false_iff.mpr c10
 subst c10
 have H1 : (some false) = some r := by rw [if_neg (show ¬ (false = true) by decide)] at H; exact H
 clear H; have H := H1; clear H1
 obtain rfl := Option.some.inj H
 go_enter Tryd.func10, Tryd.ntmps10
 go_wp2_with (first | ((with_reducible refine gate_dst (N := 2) rfl ?_); refine box_event ?hg (N := 2) ?hd (cs := #[.bool a0_0, .slice A0_1 l0_1.length c0_1]) (t := 29) ?hr ?_; (case hd => rfl); (case hg => rfl); (case hr => first | (go_simp; done) | (go_simp; rfl)); intro gb194 hg w16 hbox hb; have BK194 := AM (hbox); have GW194 := gH HB hg; have GE194 := gH HB hg; replace HB := AM (below_step (pH HB) hb); clear hb hbox hg) | ((with_reducible refine gate_dst (N := 3) rfl ?_); refine box_event ?hg (N := 3) ?hd (cs := #[.bool a1_0, .slice A1_1 l1_1.length c1_1]) (t := 29) ?hr ?_; (case hd => rfl); (case hg => rfl); (case hr => first | (go_simp; done) | (go_simp; rfl)); intro gb195 hg w17 hbox hb; have BK195 := AM (hbox); have GW195 := gH HB hg; have GE195 := gH HB hg; replace HB := AM (below_step (pH HB) hb); have NB194_195 := nL BK194 hg; have NB195_194 := nG BK194 hg; replace BK194 := bB BK194 hb; clear hb hbox hg; have hnb18 := NB194_195.out; have hnc18 := NB195_194.out; have ⟨hcz19_0, hcz19_1, hfz19_0, hfz19_1⟩ := z2 BK194; have ⟨hcz20_0, hcz20_1, hfz20_0, hfz20_1⟩ := z2 BK195) | ((with_reducible refine gate_callee (f := 29) rfl ?_); refine goesL_ (some 14) rfl rfl Tryd.func29 (by kernel_rfl) rfl #[.slice A0_1 l0_1.length c0_1, .slice A1_1 l1_1.length c1_1] rfl (by (try simp only [List.map_toArray, List.map_cons, List.map_nil]); first | done | rfl | (simp only [List.length_drop, List.length_take]; rfl)) ?_; (with_reducible refine (laws_eqUint32S.calls k _ _ l0_1 _ _ l1_1 false _ ?side1 ?side2 ?side3 ?side4 A9.out).mono ?_); (case side1 => exact cB HR0_1 HB); (case side2 => exact HC0_1.out); (case side3 => exact cB HR1_1 HB); (case side4 => exact HC1_1.out); rintro e w' ⟨rfl, ⟨nd, rfl⟩⟩; refine ⟨_, rfl, ?_⟩))
 go_ret
 exact ⟨by first | rfl | (simp [errW_none, errW_some] <;> rfl) | (simp [*, errW_none, errW_some] <;> rfl), pH HB⟩

/-! ### laws_markUint32S: function 30 -/
def laws_markUint32S.l0 : Nat → List Int → Int → Int → Option (Int × List Int)
 | 0, _, _, _ => none
 | k + 1, x0, x1, x5 => if x5 < (x0.length : Int) then (if 0 ≤ x5 then (laws_markUint32S.l0 k (x0.set (x5 : Int).toNat ((x1) % 4294967296)) (wrap64 (x1 + 1)) (wrap64 (x5 + 1))) else (none)) else (some (x1, x0))
def laws_markUint32S.f (k : Nat) (l0 : List Int) (a1 : Int) : Option (Int × List Int) := laws_markUint32S.l0 k l0 a1 0
theorem laws_markUint32S.mono_l : ∀ k, (∀ y0 y1 y2, LeO (laws_markUint32S.l0 k y0 y1 y2) (laws_markUint32S.l0 (k + 1) y0 y1 y2))
 | 0 => fun _ _ _ r h => by simp [laws_markUint32S.l0] at h
 | k + 1 => by
  have ih0 := laws_markUint32S.mono_l k
  · intro y0 y1 y2
    unfold laws_markUint32S.l0
    repeat' with_reducible first | exact ih0 _ _ _ | exact LeO.refl _ | exact LeO.none _ | refine LeO.ite ?_ ?_ | refine LeO.bind ?_ (fun _ => ?_)
theorem laws_markUint32S.mono : ∀ a0 a1 k, LeO (laws_markUint32S.f k a0 a1) (laws_markUint32S.f (k + 1) a0 a1) := by
 intro a0 a1 k
 have ih0 := laws_markUint32S.mono_l k
 unfold laws_markUint32S.f
 repeat' with_reducible first | exact ih0 _ _ _ | exact LeO.refl _ | exact LeO.none _ | refine LeO.ite ?_ ?_ | refine LeO.bind ?_ (fun _ => ?_)
set_option maxHeartbeats 8000000 in
set_option maxRecDepth 100000 in
theorem laws_markUint32S.calls (k : Nat) (P0_ : Nat → Prop) (u9000_ : Value) (l0 : List Int) (a1 : Int) (r1 : Int) (r2 : List Int) (w0 w : World) (hB : Below w0.heap.size w0 w) (ho0 : Kd.R (Kd.int .u32) 59 w w0.heap.size P0_ u9000_ l0) (h : laws_markUint32S.f k l0 a1 = some (r1, r2)) :
 Calls Tryd.prog 30 #[u9000_, .int .i64 a1] w fun e w' => e = .returned (.int .i64 r1) ∧ Kd.R (Kd.int .u32) 59 w' w0.heap.size (fun k_ => (P0_ k_ ∨ w.heap.size ≤ k_)) u9000_ r2 ∧ Below w0.heap.size w0 w' ∧ Kept w w' (fun k_ => P0_ k_) := by
 have HO0 := AM (show Kd.R (Kd.int .u32) 59 w w0.heap.size (fun k_ => (P0_ k_ ∨ w.heap.size ≤ k_)) u9000_ l0 from Kd.R_mono ho0 (fun k_ hk => (.inl hk))); have HK := AM (Kept.refl w (fun k_ => P0_ k_)); have HW0 := AM hB.size; have HB := AM hB; clear hB
 have H : (laws_markUint32S.l0 k l0 a1 0) = some (r1, r2) := h
 clear h
 have H' := AM H
 clear H
 go_enter Tryd.func30, Tryd.ntmps30
 go_wp2
 go_loopg [1, 5] k (fun kq v1 v5 w' => ∃ (x0_1 : List Int) (x1_1 : Int) (x5_1 : Int), v1 = .int .i64 x1_1 ∧ v5 = .int .i64 x5_1 ∧ Aside0 (laws_markUint32S.l0 kq x0_1 x1_1 x5_1 = some (r1, r2)) ∧ Aside0 (kq ≤ k) ∧ Aside0 (Kd.R (Kd.int .u32) 59 w' w0.heap.size (fun k_ => (P0_ k_ ∨ w.heap.size ≤ k_)) u9000_ x0_1) ∧ Aside0 (Kept w w' (fun k_ => P0_ k_)) ∧ Aside0 (Below w0.heap.size w0 w'))
 case atStart => exact ⟨(l0), (a1), (0), (by first | rfl | (simp; done) | (simp [*]; done)), (by first | rfl | (simp; done) | (simp [*]; done)), H', ⟨Nat.le_refl _⟩, ⟨by (with_reducible repeat (first | apply Kd.R_alloc | apply Kd.R_drewN | apply Kd.R_drew)); exact HO0.out⟩, ⟨by repeat (first | (with_reducible first | exact HK.out | apply Kept.alloc | apply Kept.drewN | apply Kept.drew) | exact HK.out)⟩, ⟨pH HB⟩⟩
 case round =>
  clear H'
  try clear p2
  obtain ⟨x0_1, x1_1, x5_1, rfl, rfl, HA, HK1, HO_0, HK, HB⟩ := hrel
  cases gk with
  | zero => exact absurd HA.out (by simp [laws_markUint32S.l0])
  | succ k1 =>
   have H := HA.out; clear HA
   simp only [laws_markUint32S.l0] at H
   by_cases c3 : x5_1 < (x0_1.length : Int)
   rotate_left
   · rw [if_neg c3] at H
     have c3b0 : decide (x5_1 < (x0_1.length : Int)) = false := decide_eq_false c3
     clear c3
     simp only [Option.some.injEq, Prod.mk.injEq] at H
     obtain ⟨rfl, rfl⟩ := H
     obtain ⟨Ao9, co9, eo9⟩ := Kd.R_slice HO_0.out
     subst eo9
     go_wp2
     go_ret
     exact ⟨by first | rfl | (simp [errW_none, errW_some] <;> rfl) | (simp [*, errW_none, errW_some] <;> rfl), by (with_reducible repeat (first | apply Kd.R_alloc | apply Kd.R_drewN | apply Kd.R_drew)); exact HO_0.out, pH HB, by repeat (first | (with_reducible first | exact HK.out | apply Kept.alloc | apply Kept.drewN | apply Kept.drew) | exact HK.out)⟩

   rw [if_pos c3] at H
   have c3b0 : decide (x5_1 < (x0_1.length : Int)) = true := decide_eq_true c3
   clear c3
   by_cases c4 : 0 ≤ x5_1
   rotate_left
   · rw [if_neg c4] at H
     exact absurd H (by simp)
   rw [if_pos c4] at H
   have c4b0 : decide (0 ≤ x5_1) = true := decide_eq_true c4
   clear c4
   obtain ⟨y197, hy197⟩ : ∃ y_ : List Int, y_ = (x0_1.set (x5_1 : Int).toNat ((x1_1) % 4294967296)) := ⟨_, rfl⟩
   replace H : (laws_markUint32S.l0 k1 y197 (wrap64 (x1_1 + 1)) (wrap64 (x5_1 + 1))) = some (r1, r2) := by first | (rw [hy197]; with_reducible exact H) | (have H2_ := (Option.bind_some _ _).symm.trans H; rw [hy197]; with_reducible exact H2_) | (have H2_ := (Option.bind_some _ _).symm.trans H; with_reducible exact H2_) | with_reducible exact H | (rw [hy197]; exact H) | exact H
   have Ny197 := AM hy197; clear hy197
   have H' := AM H
   clear H
   obtain ⟨Ao6, co6, eo6⟩ := Kd.R_slice HO_0.out
   subst eo6
   have p5 : 0 ≤ (x5_1 : Int) := of_decide_eq_true (by first | (with_reducible assumption) | assumption)
   have q5 : (x5_1 : Int) < ((x0_1.length : Int) : Int) := of_decide_eq_true (by first | (with_reducible assumption) | assumption)
   obtain ⟨go5, co5, eo5, gb5, gl5, cl5, HG5⟩ := Kd.R_form HO_0.out (by omega)
   (first | cases eo5 | (injection eo5 with ea_ en_ ec_; (first | subst ea_ | (injection ea_ with ea_; subst ea_)); subst ec_; clear en_))
   have GB5 := AM gb5; have GG5 := AM HG5; clear gb5 gl5 HG5; have HMgo5 := AM (show (P0_ go5 ∨ w.heap.size ≤ go5) from (HO_0.out.1 _ rfl))
   obtain ⟨hx5_0, hf5_0⟩ := Kd.R_celln 0 HO_0.out (x5_1 : Int) p5 q5
   replace p5 := eq_true p5; replace q5 := eq_true q5; have HP7 := Kd.R_putg HO_0.out (x5_1 : Int) ((x1_1) % 4294967296)
   go_wp2_with (first | ((with_reducible refine gate_store (t := 59) (p := 16) rfl ?_); refine store_event (t := 59) (p := 16) (v := ?vo_w8) (w1 := (wr.setCell ⟨go5, (x5_1 : Int).toNat, none⟩ (.int .u32 ((x1_1) % 4294967296)))) ?hg ?ho ?hn ?hr ?_; (case ho => rfl); (case hg => rfl); (case hn => rfl); (case hr => first | (go_simp; done) | (go_simp; rfl)); intro w8 hw; have hg : wr.grownBy w8 (some go5) := (by rw [hw]; exact HP7.2); have hp_ : Kd.R (Kd.int .u32) 59 w8 w0.heap.size (fun k_ => (P0_ k_ ∨ w.heap.size ≤ k_)) (.slice (some ⟨go5, 0, none⟩) x0_1.length co6) y197 := (by rw [hw, Ny197.out]; exact HP7.1); clear HP7; replace HB := AM ((by rw [hw]; exact below_set (HB.out) GB5.out : Below w0.heap.size w0 w8)); replace HK := AM (Kept.of_grown (S := (fun k_ => P0_ k_)) hg (by repeat (first | (with_reducible first | exact HK.out | apply Kept.alloc | apply Kept.drewN | apply Kept.drew) | exact HK.out)) (fun k_ e_ => (HO_0.out.1 k_ e_))); replace HO_0 := AM (hp_); clear hg hw hp_))
   go_roundg k1
   case measure => have := HK1.out; omega
   case rel => exact ⟨(y197), (wrap64 (x1_1 + 1)), (wrap64 (x5_1 + 1)), (by first | rfl | (simp; done) | (simp [*]; done)), (by first | rfl | (simp; done) | (simp [*]; done)), H', ⟨by have := HK1.out; omega⟩, ⟨by (with_reducible repeat (first | apply Kd.R_alloc | apply Kd.R_drewN | apply Kd.R_drew)); exact HO_0.out⟩, ⟨by repeat (first | (with_reducible first | exact HK.out | apply Kept.alloc | apply Kept.drewN | apply Kept.drew) | exact HK.out)⟩, ⟨pH HB⟩⟩
/-! ### laws_markBig: function 11 -/
def laws_markBig.f (k : Nat) (a0_0 : Bool) (l0_1 : List Int) (a1 : Int) : Option (Int × List Int) := (laws_markUint32S.f k l0_1 a1).bind fun bt199 => (some (bt199.1, bt199.2))
theorem laws_markBig.mono : ∀ a0 a1 a2 k, LeO (laws_markBig.f k a0 a1 a2) (laws_markBig.f (k + 1) a0 a1 a2) := by
 intro a0 a1 a2 k
 unfold laws_markBig.f
 repeat' with_reducible first | exact laws_markUint32S.mono _ _ _ | exact LeO.refl _ | exact LeO.none _ | refine LeO.ite ?_ ?_ | refine LeO.bind ?_ (fun _ => ?_)
set_option maxHeartbeats 8000000 in
set_option maxRecDepth 100000 in
theorem laws_markBig.calls (k : Nat) (a0_0 : Bool) (P0_1_ : Nat → Prop) (u9000_ : Value) (l0_1 : List Int) (a1 : Int) (r1 : Int) (r2 : List Int) (w0 w : World) (hB : Below w0.heap.size w0 w) (ho0_1 : Kd.R (Kd.int .u32) 59 w w0.heap.size P0_1_ u9000_ l0_1) (h : laws_markBig.f k a0_0 l0_1 a1 = some (r1, r2)) :
 Calls Tryd.prog 11 #[.agg #[.bool a0_0, u9000_], .int .i64 a1] w fun e w' => e = .returned (.int .i64 r1) ∧ Kd.R (Kd.int .u32) 59 w' w0.heap.size (fun k_ => (P0_1_ k_ ∨ w.heap.size ≤ k_)) u9000_ r2 ∧ Below w0.heap.size w0 w' ∧ Kept w w' (fun k_ => P0_1_ k_) := by
 have hu29 := Tryd.underlying29; have HO0_1 := AM (show Kd.R (Kd.int .u32) 59 w w0.heap.size (fun k_ => (P0_1_ k_ ∨ w.heap.size ≤ k_)) u9000_ l0_1 from Kd.R_mono ho0_1 (fun k_ hk => (.inl hk))); have HK := AM (Kept.refl w (fun k_ => P0_1_ k_)); have HW0 := AM hB.size; have HB := AM hB; clear hB
 have H : ((laws_markUint32S.f k l0_1 a1).bind fun bt199 => (some (bt199.1, bt199.2))) = some (r1, r2) := h
 clear h
 replace H := Option.bind_eq_some_iff.mp H
 obtain ⟨⟨t199, t200⟩, A30, H⟩ := H
 (try dsimp only at H)
 have A3 := AM A30; clear A30
 simp only [Option.some.injEq, Prod.mk.injEq] at H
 obtain ⟨rfl, rfl⟩ := H
 obtain ⟨Ao4, co4, eo4⟩ := Kd.R_slice HO0_1.out
 subst eo4
 go_enter Tryd.func11, Tryd.ntmps11
 go_wp2_with (first | ((with_reducible refine gate_dst (N := 2) rfl ?_); refine box_event ?hg (N := 2) ?hd (cs := #[.bool a0_0, .slice Ao4 l0_1.length co4]) (t := 29) ?hr ?_; (case hd => rfl); (case hg => rfl); (case hr => first | (go_simp; done) | (go_simp; rfl)); intro gb198 hg w5 hbox hb; replace HO0_1 := AM (Kd.R_below (pR HO0_1) hb); have BK198 := AM (hbox); have GW198 := AM ((by rw [hg]; exact (by first | exact HK.out.1 | exact (show Kept w _ (fun k_ => P0_1_ k_) from by repeat (first | (with_reducible first | exact HK.out | apply Kept.alloc | apply Kept.drewN | apply Kept.drew) | exact HK.out)).1) : w.heap.size ≤ gb198)); replace HK := AM (Kept.below (S := (fun k_ => P0_1_ k_)) (by repeat (first | (with_reducible first | exact HK.out | apply Kept.alloc | apply Kept.drewN | apply Kept.drew) | exact HK.out)) hb); have GE198 := gH HB hg; replace HB := AM (below_step (pH HB) hb); clear hb hbox hg; have ⟨hcz6_0, hcz6_1, hfz6_0, hfz6_1⟩ := z2 BK198) | ((with_reducible refine gate_callee (f := 30) rfl ?_); refine goesL_ (some 8) rfl rfl Tryd.func30 (by kernel_rfl) rfl #[.slice Ao4 l0_1.length co4, .int .i64 a1] rfl (by (try simp only [List.map_toArray, List.map_cons, List.map_nil]); first | done | rfl | (simp only [List.length_drop, List.length_take]; rfl)) ?_; (with_reducible refine (laws_markUint32S.calls k (fun k_ => some k_ = (.slice Ao4 l0_1.length co4 : Value).ownBlock) (.slice Ao4 l0_1.length co4) l0_1 a1 t199 t200 w0 _ ?side1 ?side2 A3.out).mono ?_); (case side1 => exact pH HB); (case side2 => exact Kd.R_tight rfl HO0_1.out); rintro e w7 ⟨rfl, hy0, hb, hkp⟩; refine ⟨_, rfl, ?_⟩; replace BK198 := AM (blk_kept (pB BK198) hkp (fun hs_ => (fun e_ => (Kd.R_ne HO0_1.out BK198.out (by decide)) e_) hs_)); replace HK := AM (Kept.then_ (S := (fun k_ => P0_1_ k_)) (by repeat (first | (with_reducible first | exact HK.out | apply Kept.alloc | apply Kept.drewN | apply Kept.drew | refine Kept.setCell ?_ (.inr GW198.out) _) | exact HK.out)) hkp (fun k_ hs_ => (fun e_ => (HO0_1.out.1 k_ e_.symm)) hs_)); replace HO0_1 := AM (Kd.R_reok rfl hy0 (fun k_ e_ => HO0_1.out.1 k_ e_)); replace HB := AM (hb); (try clear hb); (try clear hkp); (try clear hy0)))
 go_ret
 exact ⟨by first | rfl | (simp [errW_none, errW_some] <;> rfl) | (simp [*, errW_none, errW_some] <;> rfl), by (with_reducible repeat (first | apply Kd.R_alloc | apply Kd.R_drewN | apply Kd.R_drew)); exact HO0_1.out, pH HB, by repeat (first | (with_reducible first | exact HK.out | apply Kept.alloc | apply Kept.drewN | apply Kept.drew | refine Kept.setCell ?_ (.inr GW198.out) _) | exact HK.out)⟩

/-! ### laws_markByteS: function 12 -/
def laws_markByteS.l0 : Nat → List Int → Int → Int → Option (Int × List Int)
 | 0, _, _, _ => none
 | k + 1, x0, x1, x5 => if x5 < (x0.length : Int) then (if 0 ≤ x5 then (laws_markByteS.l0 k (x0.set (x5 : Int).toNat ((x1) % 256)) (wrap64 (x1 + 1)) (wrap64 (x5 + 1))) else (none)) else (some (x1, x0))
def laws_markByteS.f (k : Nat) (l0 : List Int) (a1 : Int) : Option (Int × List Int) := laws_markByteS.l0 k l0 a1 0
theorem laws_markByteS.mono_l : ∀ k, (∀ y0 y1 y2, LeO (laws_markByteS.l0 k y0 y1 y2) (laws_markByteS.l0 (k + 1) y0 y1 y2))
 | 0 => fun _ _ _ r h => by simp [laws_markByteS.l0] at h
 | k + 1 => by
  have ih0 := laws_markByteS.mono_l k
  · intro y0 y1 y2
    unfold laws_markByteS.l0
    repeat' with_reducible first | exact ih0 _ _ _ | exact LeO.refl _ | exact LeO.none _ | refine LeO.ite ?_ ?_ | refine LeO.bind ?_ (fun _ => ?_)
theorem laws_markByteS.mono : ∀ a0 a1 k, LeO (laws_markByteS.f k a0 a1) (laws_markByteS.f (k + 1) a0 a1) := by
 intro a0 a1 k
 have ih0 := laws_markByteS.mono_l k
 unfold laws_markByteS.f
 repeat' with_reducible first | exact ih0 _ _ _ | exact LeO.refl _ | exact LeO.none _ | refine LeO.ite ?_ ?_ | refine LeO.bind ?_ (fun _ => ?_)
set_option maxHeartbeats 8000000 in
set_option maxRecDepth 100000 in
theorem laws_markByteS.calls (k : Nat) (P0_ : Nat → Prop) (u9000_ : Value) (l0 : List Int) (a1 : Int) (r1 : Int) (r2 : List Int) (w0 w : World) (hB : Below w0.heap.size w0 w) (ho0 : Kd.R (Kd.int .u8) 5 w w0.heap.size P0_ u9000_ l0) (h : laws_markByteS.f k l0 a1 = some (r1, r2)) :
 Calls Tryd.prog 12 #[u9000_, .int .i64 a1] w fun e w' => e = .returned (.int .i64 r1) ∧ Kd.R (Kd.int .u8) 5 w' w0.heap.size (fun k_ => (P0_ k_ ∨ w.heap.size ≤ k_)) u9000_ r2 ∧ Below w0.heap.size w0 w' ∧ Kept w w' (fun k_ => P0_ k_) := by
 have HO0 := AM (show Kd.R (Kd.int .u8) 5 w w0.heap.size (fun k_ => (P0_ k_ ∨ w.heap.size ≤ k_)) u9000_ l0 from Kd.R_mono ho0 (fun k_ hk => (.inl hk))); have HK := AM (Kept.refl w (fun k_ => P0_ k_)); have HW0 := AM hB.size; have HB := AM hB; clear hB
 have H : (laws_markByteS.l0 k l0 a1 0) = some (r1, r2) := h
 clear h
 have H' := AM H
 clear H
 go_enter Tryd.func12, Tryd.ntmps12
 go_wp2
 go_loopg [1, 5] k (fun kq v1 v5 w' => ∃ (x0_1 : List Int) (x1_1 : Int) (x5_1 : Int), v1 = .int .i64 x1_1 ∧ v5 = .int .i64 x5_1 ∧ Aside0 (laws_markByteS.l0 kq x0_1 x1_1 x5_1 = some (r1, r2)) ∧ Aside0 (kq ≤ k) ∧ Aside0 (Kd.R (Kd.int .u8) 5 w' w0.heap.size (fun k_ => (P0_ k_ ∨ w.heap.size ≤ k_)) u9000_ x0_1) ∧ Aside0 (Kept w w' (fun k_ => P0_ k_)) ∧ Aside0 (Below w0.heap.size w0 w'))
 case atStart => exact ⟨(l0), (a1), (0), (by first | rfl | (simp; done) | (simp [*]; done)), (by first | rfl | (simp; done) | (simp [*]; done)), H', ⟨Nat.le_refl _⟩, ⟨by (with_reducible repeat (first | apply Kd.R_alloc | apply Kd.R_drewN | apply Kd.R_drew)); exact HO0.out⟩, ⟨by repeat (first | (with_reducible first | exact HK.out | apply Kept.alloc | apply Kept.drewN | apply Kept.drew) | exact HK.out)⟩, ⟨pH HB⟩⟩
 case round =>
  clear H'
  try clear c1
  try clear p2
  obtain ⟨x0_1, x1_1, x5_1, rfl, rfl, HA, HK1, HO_0, HK, HB⟩ := hrel
  cases gk with
  | zero => exact absurd HA.out (by simp [laws_markByteS.l0])
  | succ k1 =>
   have H := HA.out; clear HA
   simp only [laws_markByteS.l0] at H
   by_cases c3 : x5_1 < (x0_1.length : Int)
   rotate_left
   · rw [if_neg c3] at H
     have c3b0 : decide (x5_1 < (x0_1.length : Int)) = false := decide_eq_false c3
     clear c3
     simp only [Option.some.injEq, Prod.mk.injEq] at H
     obtain ⟨rfl, rfl⟩ := H
     obtain ⟨Ao9, co9, eo9⟩ := Kd.R_slice HO_0.out
     subst eo9
     go_wp2
     go_ret
     exact ⟨by first | rfl | (simp [errW_none, errW_some] <;> rfl) | (simp [*, errW_none, errW_some] <;> rfl), by (with_reducible repeat (first | apply Kd.R_alloc | apply Kd.R_drewN | apply Kd.R_drew)); exact HO_0.out, pH HB, by repeat (first | (with_reducible first | exact HK.out | apply Kept.alloc | apply Kept.drewN | apply Kept.drew) | exact HK.out)⟩

   rw [if_pos c3] at H
   have c3b0 : decide (x5_1 < (x0_1.length : Int)) = true := decide_eq_true c3
   clear c3
   by_cases c4 : 0 ≤ x5_1
   rotate_left
   · rw [if_neg c4] at H
     exact absurd H (by simp)
   rw [if_pos c4] at H
   have c4b0 : decide (0 ≤ x5_1) = true := decide_eq_true c4
   clear c4
   obtain ⟨y201, hy201⟩ : ∃ y_ : List Int, y_ = (x0_1.set (x5_1 : Int).toNat ((x1_1) % 256)) := ⟨_, rfl⟩
   replace H : (laws_markByteS.l0 k1 y201 (wrap64 (x1_1 + 1)) (wrap64 (x5_1 + 1))) = some (r1, r2) := by first | (rw [hy201]; with_reducible exact H) | (have H2_ := (Option.bind_some _ _).symm.trans H; rw [hy201]; with_reducible exact H2_) | (have H2_ := (Option.bind_some _ _).symm.trans H; with_reducible exact H2_) | with_reducible exact H | (rw [hy201]; exact H) | exact H
   have Ny201 := AM hy201; clear hy201
   have H' := AM H
   clear H
   obtain ⟨Ao6, co6, eo6⟩ := Kd.R_slice HO_0.out
   subst eo6
   have p5 : 0 ≤ (x5_1 : Int) := of_decide_eq_true (by first | (with_reducible assumption) | assumption)
   have q5 : (x5_1 : Int) < ((x0_1.length : Int) : Int) := of_decide_eq_true (by first | (with_reducible assumption) | assumption)
   obtain ⟨go5, co5, eo5, gb5, gl5, cl5, HG5⟩ := Kd.R_form HO_0.out (by omega)
   (first | cases eo5 | (injection eo5 with ea_ en_ ec_; (first | subst ea_ | (injection ea_ with ea_; subst ea_)); subst ec_; clear en_))
   have GB5 := AM gb5; have GG5 := AM HG5; clear gb5 gl5 HG5; have HMgo5 := AM (show (P0_ go5 ∨ w.heap.size ≤ go5) from (HO_0.out.1 _ rfl))
   obtain ⟨hx5_0, hf5_0⟩ := Kd.R_celln 0 HO_0.out (x5_1 : Int) p5 q5
   replace p5 := eq_true p5; replace q5 := eq_true q5; have HP7 := Kd.R_putg HO_0.out (x5_1 : Int) ((x1_1) % 256)
   go_wp2_with (first | ((with_reducible refine gate_store (t := 5) (p := 16) rfl ?_); refine store_event (t := 5) (p := 16) (v := ?vo_w8) (w1 := (wr.setCell ⟨go5, (x5_1 : Int).toNat, none⟩ (.int .u8 ((x1_1) % 256)))) ?hg ?ho ?hn ?hr ?_; (case ho => rfl); (case hg => rfl); (case hn => rfl); (case hr => first | (go_simp; done) | (go_simp; rfl)); intro w8 hw; have hg : wr.grownBy w8 (some go5) := (by rw [hw]; exact HP7.2); have hp_ : Kd.R (Kd.int .u8) 5 w8 w0.heap.size (fun k_ => (P0_ k_ ∨ w.heap.size ≤ k_)) (.slice (some ⟨go5, 0, none⟩) x0_1.length co6) y201 := (by rw [hw, Ny201.out]; exact HP7.1); clear HP7; replace HB := AM ((by rw [hw]; exact below_set (HB.out) GB5.out : Below w0.heap.size w0 w8)); replace HK := AM (Kept.of_grown (S := (fun k_ => P0_ k_)) hg (by repeat (first | (with_reducible first | exact HK.out | apply Kept.alloc | apply Kept.drewN | apply Kept.drew) | exact HK.out)) (fun k_ e_ => (HO_0.out.1 k_ e_))); replace HO_0 := AM (hp_); clear hg hw hp_))
   go_roundg k1
   case measure => have := HK1.out; omega
   case rel => exact ⟨(y201), (wrap64 (x1_1 + 1)), (wrap64 (x5_1 + 1)), (by first | rfl | (simp; done) | (simp [*]; done)), (by first | rfl | (simp; done) | (simp [*]; done)), H', ⟨by have := HK1.out; omega⟩, ⟨by (with_reducible repeat (first | apply Kd.R_alloc | apply Kd.R_drewN | apply Kd.R_drew)); exact HO_0.out⟩, ⟨by repeat (first | (with_reducible first | exact HK.out | apply Kept.alloc | apply Kept.drewN | apply Kept.drew) | exact HK.out)⟩, ⟨pH HB⟩⟩
/-! ### laws_heldByteS: function 13 -/
def laws_heldByteS.l0 : Nat → List Int → Int → Int → Option (Int)
 | 0, _, _, _ => none
 | k + 1, x0, x1, x5 => if x5 < (x0.length : Int) then (if 0 ≤ x5 then (if (rd x0 x5) = ((x1) % 256) then (laws_heldByteS.l0 k x0 (wrap64 (x1 + 1)) (wrap64 (x5 + 1))) else (some (-1))) else (none)) else (some x1)
def laws_heldByteS.f (k : Nat) (l0 : List Int) (a1 : Int) : Option (Int) := laws_heldByteS.l0 k l0 a1 0
theorem laws_heldByteS.mono_l : ∀ k, (∀ y0 y1 y2, LeO (laws_heldByteS.l0 k y0 y1 y2) (laws_heldByteS.l0 (k + 1) y0 y1 y2))
 | 0 => fun _ _ _ r h => by simp [laws_heldByteS.l0] at h
 | k + 1 => by
  have ih0 := laws_heldByteS.mono_l k
  · intro y0 y1 y2
    unfold laws_heldByteS.l0
    repeat' with_reducible first | exact ih0 _ _ _ | exact LeO.refl _ | exact LeO.none _ | refine LeO.ite ?_ ?_ | refine LeO.bind ?_ (fun _ => ?_)
theorem laws_heldByteS.mono : ∀ a0 a1 k, LeO (laws_heldByteS.f k a0 a1) (laws_heldByteS.f (k + 1) a0 a1) := by
 intro a0 a1 k
 have ih0 := laws_heldByteS.mono_l k
 unfold laws_heldByteS.f
 repeat' with_reducible first | exact ih0 _ _ _ | exact LeO.refl _ | exact LeO.none _ | refine LeO.ite ?_ ?_ | refine LeO.bind ?_ (fun _ => ?_)
set_option maxHeartbeats 8000000 in
set_option maxRecDepth 100000 in
theorem laws_heldByteS.calls (k : Nat) (A0 : Option Addr) (c0 : Nat) (l0 : List Int) (a1 : Int) (r : Int) (w : World) (hr0 : Kd.C (Kd.int .u8) w A0 l0.length l0) (hc0 : l0.length ≤ c0) (h : laws_heldByteS.f k l0 a1 = some r) :
 Calls Tryd.prog 13 #[.slice A0 l0.length c0, .int .i64 a1] w fun e w' => e = .returned (.int .i64 r) ∧ Drawn0 w w' := by
 have HR0 := AM hr0; have HC0 := AM hc0; clear hr0 hc0
 have H : (laws_heldByteS.l0 k l0 a1 0) = some r := h
 clear h
 have H' := AM H
 clear H
 go_enter Tryd.func13, Tryd.ntmps13
 go_wp2
 go_loopg [1, 5] k (fun kq v1 v5 w' => ∃ (x1_1 : Int) (x5_1 : Int), v1 = .int .i64 x1_1 ∧ v5 = .int .i64 x5_1 ∧ Aside0 (laws_heldByteS.l0 kq l0 x1_1 x5_1 = some r) ∧ Aside0 (kq ≤ k) ∧ Drawn0 w w')
 case atStart => exact ⟨(a1), (0), (by first | rfl | (simp; done) | (simp [*]; done)), (by first | rfl | (simp; done) | (simp [*]; done)), H', ⟨Nat.le_refl _⟩, by repeat (first | exact Drawn0.refl _ | apply Drawn0.step)⟩
 case round =>
  clear H'
  try clear c1
  try clear p2
  obtain ⟨x1_1, x5_1, rfl, rfl, HA, HK1, ⟨m1, rfl⟩⟩ := hrel
  cases gk with
  | zero => exact absurd HA.out (by simp [laws_heldByteS.l0])
  | succ k1 =>
   have H := HA.out; clear HA
   simp only [laws_heldByteS.l0] at H
   by_cases c3 : x5_1 < (l0.length : Int)
   rotate_left
   · rw [if_neg c3] at H
     have c3b0 : decide (x5_1 < (l0.length : Int)) = false := decide_eq_false c3
     clear c3
     obtain rfl := Option.some.inj H
     go_wp2
     go_ret
     exact ⟨by first | rfl | (simp; done) | (simp [*]; done), by repeat (first | exact Drawn0.refl _ | apply Drawn0.step)⟩

   rw [if_pos c3] at H
   have c3b0 : decide (x5_1 < (l0.length : Int)) = true := decide_eq_true c3
   clear c3
   by_cases c4 : 0 ≤ x5_1
   rotate_left
   · rw [if_neg c4] at H
     exact absurd H (by simp)
   rw [if_pos c4] at H
   have c4b0 : decide (0 ≤ x5_1) = true := decide_eq_true c4
   clear c4
   by_cases c5 : (rd l0 x5_1) = ((x1_1) % 256)
   rotate_left
   · rw [if_neg c5] at H
     have c5b0 : ((rd l0 x5_1) == ((x1_1) % 256)) = false := beq_eq_false_iff_ne.mpr c5
     have c5b1 : ((rd l0 x5_1) != ((x1_1) % 256)) = true := bne_iff_ne.mpr c5
     obtain rfl := Option.some.inj H
     have p202 : 0 ≤ (x5_1 : Int) := of_decide_eq_true (by first | (with_reducible assumption) | assumption)
     have q202 : x5_1 < (l0.length : Int) := of_decide_eq_true (by first | (with_reducible assumption) | assumption)
     obtain ⟨ad202, e202, hx202_0⟩ := Kd.at_int HR0.out x5_1 p202 q202
     cases e202
     replace p202 := eq_true p202; replace q202 := eq_true q202
     go_wp2
     go_ret
     exact ⟨by first | rfl | (simp; done) | (simp [*]; done), by repeat (first | exact Drawn0.refl _ | apply Drawn0.step)⟩
   rw [if_pos c5] at H
   have c5b0 : ((rd l0 x5_1) == ((x1_1) % 256)) = true := beq_iff_eq.mpr c5
   have c5b1 : ((rd l0 x5_1) != ((x1_1) % 256)) = false := bne_eq_false_iff_eq.mpr c5
   clear c5
   have H' := AM H
   clear H
   have p202 : 0 ≤ (x5_1 : Int) := of_decide_eq_true (by first | (with_reducible assumption) | assumption)
   have q202 : x5_1 < (l0.length : Int) := of_decide_eq_true (by first | (with_reducible assumption) | assumption)
   obtain ⟨ad202, e202, hx202_0⟩ := Kd.at_int HR0.out x5_1 p202 q202
   cases e202
   replace p202 := eq_true p202; replace q202 := eq_true q202
   go_wp2
   go_roundg k1
   case measure => have := HK1.out; omega
   case rel => exact ⟨(wrap64 (x1_1 + 1)), (wrap64 (x5_1 + 1)), (by first | rfl | (simp; done) | (simp [*]; done)), (by first | rfl | (simp; done) | (simp [*]; done)), H', ⟨by have := HK1.out; omega⟩, by repeat (first | exact Drawn0.refl _ | apply Drawn0.step)⟩
/-! ### laws_FnExactBigText: function 3 -/
theorem mark_one {k : Nat} {x a r1 : Int} {r2 : List Int} (h : laws_markByteS.f k [x] a = some (r1, r2)) : r1 = wrap64 (a + 1) ∧ r2 = [a % 256] := by
  unfold laws_markByteS.f at h
  match k, h with
  | 0, h => simp [laws_markByteS.l0] at h
  | 1, h => simp [laws_markByteS.l0] at h
  | k + 2, h =>
    rw [laws_markByteS.l0, if_pos (by simp), if_pos (by simp), laws_markByteS.l0, if_neg (by simp [wrap64])] at h
    have h := Option.some.inj h
    injection h with h1 h2
    exact ⟨h1.symm, h2.symm⟩
theorem laws_markByteS.callsM (k : Nat) (P0_ : Nat → Prop) (u9000_ : Value) (l0 : List Int) (a1 : Int) (r1 : Int) (r2 : List Int) (w0 w : World) (hB : Below w0.heap.size w0 w) (ho0 : RM w w0.heap.size P0_ u9000_ l0) (h : laws_markByteS.f k l0 a1 = some (r1, r2)) :
 Calls Tryd.prog 12 #[u9000_, .int .i64 a1] w fun e w' => e = .returned (.int .i64 r1) ∧ RM w' w0.heap.size (fun k_ => (P0_ k_ ∨ w.heap.size ≤ k_)) u9000_ r2 ∧ Below w0.heap.size w0 w' ∧ Kept w w' (fun k_ => P0_ k_) := by
  rcases ho0 with ho0 | ⟨gl, x, rfl, rfl, ho, hb, hg⟩
  · refine (laws_markByteS.calls k P0_ _ l0 a1 r1 r2 w0 w hB ho0 h).mono ?_
    rintro e w' ⟨h1, h2, h3, h4⟩
    exact ⟨h1, .inl h2, h3, h4⟩
  · obtain ⟨rfl, rfl⟩ := mark_one h
    clear h
    have hcell : w.cell? ⟨gl, 0, none⟩ = some (.int .u8 x) := by simp [World.cell?, hg]
    have hfro : w.frozen? ⟨gl, 0, none⟩ = false := by simp [World.frozen?, hg]
    have HG := AM hg
    have HB := AM hB
    clear hg hB
    go_enter Tryd.func12, Tryd.ntmps12
    go_wp2
    refine wp_loop_rounds 2 ?_
    rw [rounds_succ]
    go_wp2
    rw [rounds_succ]
    go_wp2
    go_ret
    refine ⟨rfl, .inr ⟨gl, _, rfl, rfl, .inl ho, hb, ?_⟩, HB.out.setCell hb _, ⟨Nat.le_of_eq (by simp [World.setCell]), fun i hi hS => Below.heap_setCell w ⟨gl, 0, none⟩ _ i (fun e => hS (e ▸ ho))⟩⟩
    have hG := HG.out
    simp [World.setCell, Array.getElem?_modify, hG]
def laws_FnExactBigText.f (k : Nat) (a0_0 : Bool) (l0_1 : List Int) : Option (Bool) := (laws_szBig.f a0_0 l0_1 1048576).bind fun t204 => (if t204 < 0 then (some true) else ((laws_toBig.f k a0_0 l0_1).bind fun bt205 => ((spec_BigText.f k bt205.1 bt205.2).bind fun bt209 => ((laws_toBig.f k a0_0 l0_1).bind fun bt213 => ((impl_BigText.f k bt213.1 bt213.2).bind fun bt218 => ((laws_eqByteS.f k bt218.1 bt209.1).bind fun t222 => (if t222 = true then (if bt218.2 = bt209.2 then ((laws_toBig.f k a0_0 l0_1).bind fun bt223 => ((laws_eqBig.f k bt213.1 bt213.2 bt223.1 bt223.2).bind fun t227 => (if t227 = true then ((laws_markBig.f k bt213.1 bt213.2 1).bind fun bt228 => (if bt228.1 < 0 then (none) else ((laws_eqByteS.f k bt218.1 bt209.1).bind fun t230 => (if t230 = true then ((laws_markByteS.f k bt218.1 1).bind fun bt231 => ((laws_heldByteS.f k bt231.2 1).bind fun t233 => (if t233 < 0 then (none) else (if t233 = bt231.1 then ((laws_toBig.f k a0_0 l0_1).bind fun bt234 => ((impl_BigText.f k bt234.1 bt234.2).bind fun bt238 => ((laws_eqByteS.f k bt238.1 bt209.1).bind fun t242 => (if t242 = true then (if bt238.2 = bt209.2 then ((laws_heldByteS.f k bt231.2 1).bind fun t243 => (if t243 < 0 then (none) else (if t243 = bt231.1 then (some true) else (none)))) else (none)) else (none))))) else (none))))) else (none))))) else (none)))) else (none)) else (none))))))))
theorem laws_FnExactBigText.mono : ∀ a0 a1 k, LeO (laws_FnExactBigText.f k a0 a1) (laws_FnExactBigText.f (k + 1) a0 a1) := by
 intro a0 a1 k
 unfold laws_FnExactBigText.f
 repeat' with_reducible first | exact impl_BigText.mono _ _ _ | exact laws_eqBig.mono _ _ _ _ _ | exact laws_eqByteS.mono _ _ _ | exact laws_heldByteS.mono _ _ _ | exact laws_markBig.mono _ _ _ _ | exact laws_markByteS.mono _ _ _ | exact laws_toBig.mono _ _ _ | exact spec_BigText.mono _ _ _ | exact LeO.refl _ | exact LeO.none _ | refine LeO.ite ?_ ?_ | refine LeO.bind ?_ (fun _ => ?_)
set_option maxHeartbeats 8000000 in
set_option maxRecDepth 100000 in
theorem laws_FnExactBigText.calls (k : Nat) (a0_0 : Bool) (A0_1 : Option Addr) (c0_1 : Nat) (l0_1 : List Int) (r : Bool) (w : World) (htab : TabW w) (hr0_1 : Kd.C (Kd.int .u32) w A0_1 l0_1.length l0_1) (hc0_1 : l0_1.length ≤ c0_1) (h : laws_FnExactBigText.f k a0_0 l0_1 = some r) :
 Calls Tryd.prog 3 #[.agg #[.bool a0_0, .slice A0_1 l0_1.length c0_1]] w fun e w' => e = .returned (.bool r) ∧ Below w.heap.size w w' := by
 have hu24 := Tryd.underlying24; have hu29 := Tryd.underlying29; have HR0_1 := AM hr0_1; have HC0_1 := AM hc0_1; clear hr0_1 hc0_1; have HT := AM htab; clear htab; have HB := AM (Below.refl w.heap.size w)
 have H : ((laws_szBig.f a0_0 l0_1 1048576).bind fun t204 => (if t204 < 0 then (some true) else ((laws_toBig.f k a0_0 l0_1).bind fun bt205 => ((spec_BigText.f k bt205.1 bt205.2).bind fun bt209 => ((laws_toBig.f k a0_0 l0_1).bind fun bt213 => ((impl_BigText.f k bt213.1 bt213.2).bind fun bt218 => ((laws_eqByteS.f k bt218.1 bt209.1).bind fun t222 => (if t222 = true then (if bt218.2 = bt209.2 then ((laws_toBig.f k a0_0 l0_1).bind fun bt223 => ((laws_eqBig.f k bt213.1 bt213.2 bt223.1 bt223.2).bind fun t227 => (if t227 = true then ((laws_markBig.f k bt213.1 bt213.2 1).bind fun bt228 => (if bt228.1 < 0 then (none) else ((laws_eqByteS.f k bt218.1 bt209.1).bind fun t230 => (if t230 = true then ((laws_markByteS.f k bt218.1 1).bind fun bt231 => ((laws_heldByteS.f k bt231.2 1).bind fun t233 => (if t233 < 0 then (none) else (if t233 = bt231.1 then ((laws_toBig.f k a0_0 l0_1).bind fun bt234 => ((impl_BigText.f k bt234.1 bt234.2).bind fun bt238 => ((laws_eqByteS.f k bt238.1 bt209.1).bind fun t242 => (if t242 = true then (if bt238.2 = bt209.2 then ((laws_heldByteS.f k bt231.2 1).bind fun t243 => (if t243 < 0 then (none) else (if t243 = bt231.1 then (some true) else (none)))) else (none)) else (none))))) else (none))))) else (none))))) else (none)))) else (none)) else (none))))))))) = some r := h
 clear h
 replace H := Option.bind_eq_some_iff.mp H
 obtain ⟨t204, A20, H⟩ := H
 (try dsimp only at H)
 have A2 := AM A20; clear A20
 by_cases c3 : t204 < 0
 · rw [if_pos c3] at H
   have c3b0 : decide (t204 < 0) = true := decide_eq_true c3
   clear c3
   obtain rfl := Option.some.inj H
   go_enter Tryd.func3, Tryd.ntmps3
   go_wp2_with (first | ((with_reducible refine gate_dst (N := 1) rfl ?_); refine box_event ?hg (N := 1) ?hd (cs := #[.bool a0_0, .slice A0_1 l0_1.length c0_1]) (t := 24) ?hr ?_; (case hd => rfl); (case hg => rfl); (case hr => first | (go_simp; done) | (go_simp; rfl)); intro gb203 hg w4 hbox hb; have BK203 := AM (hbox); have GW203 := gH HB hg; have GE203 := gH HB hg; replace HB := AM (below_step (pH HB) hb); clear hb hbox hg; have ⟨hcz5_0, hcz5_1, hfz5_0, hfz5_1⟩ := z2 BK203) | ((with_reducible refine gate_callee (f := 5) rfl ?_); refine goesL_ (some 16) rfl rfl Tryd.func5 (by kernel_rfl) rfl #[.agg #[.bool a0_0, .slice A0_1 l0_1.length c0_1], .int .i64 1048576] rfl (by (try simp only [List.map_toArray, List.map_cons, List.map_nil]); first | done | rfl | (simp only [List.length_drop, List.length_take]; rfl)) ?_; (with_reducible refine (laws_szBig.calls a0_0 _ _ l0_1 1048576 t204 _ ?side1 ?side2 A2.out).mono ?_); (case side1 => exact cB HR0_1 HB); (case side2 => exact HC0_1.out); rintro e w6 ⟨rfl, hb⟩; refine ⟨_, rfl, ?_⟩; replace BK203 := bB BK203 hb; replace HB := AM (below_step (pH HB) hb); (try clear hb); (try clear hb2); (try clear hk); (try clear hi)))
   go_ret
   exact ⟨by first | rfl | (simp [errW_none, errW_some] <;> rfl) | (simp [*, errW_none, errW_some] <;> rfl), pH HB⟩
 rw [if_neg c3] at H
 have c3b0 : decide (t204 < 0) = false := decide_eq_false c3
 clear c3
 replace H := Option.bind_eq_some_iff.mp H
 obtain ⟨⟨t205, t206⟩, A70, H⟩ := H
 (try dsimp only at H)
 have A7 := AM A70; clear A70
 replace H := Option.bind_eq_some_iff.mp H
 obtain ⟨⟨t209, t212⟩, A80, H⟩ := H
 (try dsimp only at H)
 have A8 := AM A80; clear A80
 replace H := Option.bind_eq_some_iff.mp H
 obtain ⟨⟨t213, t214⟩, A90, H⟩ := H
 (try dsimp only at H)
 have A9 := AM A90; clear A90
 replace H := Option.bind_eq_some_iff.mp H
 obtain ⟨⟨t218, t221⟩, A100, H⟩ := H
 (try dsimp only at H)
 have A10 := AM A100; clear A100
 replace H := Option.bind_eq_some_iff.mp H
 obtain ⟨t222, A110, H⟩ := H
 (try dsimp only at H)
 have A11 := AM A110; clear A110
 by_cases c12 : t222 = true
 rotate_left
 · replace c12 := Bool.eq_false_iff.mpr c12
   subst c12
   have H1 : (none) = some r := by rw [if_neg (show ¬ (false = true) by decide)] at H; exact H
   clear H; have H := H1; clear H1
   exact absurd H (by simp)

 subst c12
 have H1 : (if t221 = t212 then ((laws_toBig.f k a0_0 l0_1).bind fun bt223 => ((laws_eqBig.f k t213 t214 bt223.1 bt223.2).bind fun t227 => (if t227 = true then ((laws_markBig.f k t213 t214 1).bind fun bt228 => (if bt228.1 < 0 then (none) else ((laws_eqByteS.f k t218 t209).bind fun t230 => (if t230 = true then ((laws_markByteS.f k t218 1).bind fun bt231 => ((laws_heldByteS.f k bt231.2 1).bind fun t233 => (if t233 < 0 then (none) else (if t233 = bt231.1 then ((laws_toBig.f k a0_0 l0_1).bind fun bt234 => ((impl_BigText.f k bt234.1 bt234.2).bind fun bt238 => ((laws_eqByteS.f k bt238.1 t209).bind fun t242 => (if t242 = true then (if bt238.2 = t212 then ((laws_heldByteS.f k bt231.2 1).bind fun t243 => (if t243 < 0 then (none) else (if t243 = bt231.1 then (some true) else (none)))) else (none)) else (none))))) else (none))))) else (none))))) else (none)))) else (none)) = some r := by rw [if_pos rfl] at H; exact H
 clear H; have H := H1; clear H1
 by_cases c13 : t221 = t212
 rotate_left
 · rw [if_neg c13] at H
   exact absurd H (by simp)
 rw [if_pos c13] at H
 have c13b0 : (t221 == t212) = true := beq_iff_eq.mpr c13
 have c13b1 : (t221 != t212) = false := bne_eq_false_iff_eq.mpr c13
 clear c13
 replace H := Option.bind_eq_some_iff.mp H
 obtain ⟨⟨t223, t224⟩, A140, H⟩ := H
 (try dsimp only at H)
 have A14 := AM A140; clear A140
 replace H := Option.bind_eq_some_iff.mp H
 obtain ⟨t227, A150, H⟩ := H
 (try dsimp only at H)
 have A15 := AM A150; clear A150
 by_cases c16 : t227 = true
 rotate_left
 · replace c16 := Bool.eq_false_iff.mpr c16
   subst c16
   have H1 : (none) = some r := by rw [if_neg (show ¬ (false = true) by decide)] at H; exact H
   clear H; have H := H1; clear H1
   exact absurd H (by simp)
 subst c16
 have H1 : ((laws_markBig.f k t213 t214 1).bind fun bt228 => (if bt228.1 < 0 then (none) else ((laws_eqByteS.f k t218 t209).bind fun t230 => (if t230 = true then ((laws_markByteS.f k t218 1).bind fun bt231 => ((laws_heldByteS.f k bt231.2 1).bind fun t233 => (if t233 < 0 then (none) else (if t233 = bt231.1 then ((laws_toBig.f k a0_0 l0_1).bind fun bt234 => ((impl_BigText.f k bt234.1 bt234.2).bind fun bt238 => ((laws_eqByteS.f k bt238.1 t209).bind fun t242 => (if t242 = true then (if bt238.2 = t212 then ((laws_heldByteS.f k bt231.2 1).bind fun t243 => (if t243 < 0 then (none) else (if t243 = bt231.1 then (some true) else (none)))) else (none)) else (none))))) else (none))))) else (none))))) = some r := by rw [if_pos rfl] at H; exact H
 clear H; have H := H1; clear H1
 replace H := Option.bind_eq_some_iff.mp H
 obtain ⟨⟨t228, t229⟩, A170, H⟩ := H
 (try dsimp only at H)
 have A17 := AM A170; clear A170
 by_cases c18 : t228 < 0
 · rw [if_pos c18] at H
   exact absurd H (by simp)
 rw [if_neg c18] at H
 have c18b0 : decide (t228 < 0) = false := decide_eq_false c18
 clear c18
 replace H := Option.bind_eq_some_iff.mp H
 obtain ⟨t230, A190, H⟩ := H
 (try dsimp only at H)
 have A19 := AM A190; clear A190
 by_cases c20 : t230 = true
 rotate_left
 · replace c20 := Bool.eq_false_iff.mpr c20
   subst c20
   have H1 : (none) = some r := by rw [if_neg (show ¬ (false = true) by decide)] at H; exact H
   clear H; have H := H1; clear H1
   exact absurd H (by simp)
 subst c20
 have H1 : ((laws_markByteS.f k t218 1).bind fun bt231 => ((laws_heldByteS.f k bt231.2 1).bind fun t233 => (if t233 < 0 then (none) else (if t233 = bt231.1 then ((laws_toBig.f k a0_0 l0_1).bind fun bt234 => ((impl_BigText.f k bt234.1 bt234.2).bind fun bt238 => ((laws_eqByteS.f k bt238.1 t209).bind fun t242 => (if t242 = true then (if bt238.2 = t212 then ((laws_heldByteS.f k bt231.2 1).bind fun t243 => (if t243 < 0 then (none) else (if t243 = bt231.1 then (some true) else (none)))) else (none)) else (none))))) else (none))))) = some r := by rw [if_pos rfl] at H; exact H
 clear H; have H := H1; clear H1
 replace H := Option.bind_eq_some_iff.mp H
 obtain ⟨⟨t231, t232⟩, A210, H⟩ := H
 (try dsimp only at H)
 have A21 := AM A210; clear A210
 replace H := Option.bind_eq_some_iff.mp H
 obtain ⟨t233, A220, H⟩ := H
 (try dsimp only at H)
 have A22 := AM A220; clear A220
 by_cases c23 : t233 < 0
 · rw [if_pos c23] at H
   exact absurd H (by simp)
 rw [if_neg c23] at H
 have c23b0 : decide (t233 < 0) = false := decide_eq_false c23
 clear c23
 by_cases c24 : t233 = t231
 rotate_left
 · rw [if_neg c24] at H
   exact absurd H (by simp)
 rw [if_pos c24] at H
 have c24b0 : (t233 == t231) = true := beq_iff_eq.mpr c24
 have c24b1 : (t233 != t231) = false := bne_eq_false_iff_eq.mpr c24
 clear c24
 replace H := Option.bind_eq_some_iff.mp H
 obtain ⟨⟨t234, t235⟩, A250, H⟩ := H
 (try dsimp only at H)
 have A25 := AM A250; clear A250
 replace H := Option.bind_eq_some_iff.mp H
 obtain ⟨⟨t238, t241⟩, A260, H⟩ := H
 (try dsimp only at H)
 have A26 := AM A260; clear A260
 replace H := Option.bind_eq_some_iff.mp H
 obtain ⟨t242, A270, H⟩ := H
 (try dsimp only at H)
 have A27 := AM A270; clear A270
 by_cases c28 : t242 = true
 rotate_left
 · replace c28 := Bool.eq_false_iff.mpr c28
   subst c28
   have H1 : (none) = some r := by rw [if_neg (show ¬ (false = true) by decide)] at H; exact H
   clear H; have H := H1; clear H1
   exact absurd H (by simp)
 subst c28
 have H1 : (if t241 = t212 then ((laws_heldByteS.f k t232 1).bind fun t243 => (if t243 < 0 then (none) else (if t243 = t231 then (some true) else (none)))) else (none)) = some r := by rw [if_pos rfl] at H; exact H
 clear H; have H := H1; clear H1
 by_cases c29 : t241 = t212
 rotate_left
 · rw [if_neg c29] at H
   exact absurd H (by simp)
 rw [if_pos c29] at H
 have c29b0 : (t241 == t212) = true := beq_iff_eq.mpr c29
 have c29b1 : (t241 != t212) = false := bne_eq_false_iff_eq.mpr c29
 clear c29
 replace H := Option.bind_eq_some_iff.mp H
 obtain ⟨t243, A300, H⟩ := H
 (try dsimp only at H)
 have A30 := AM A300; clear A300
 by_cases c31 : t243 < 0
 · rw [if_pos c31] at H
   exact absurd H (by simp)
 rw [if_neg c31] at H
 have c31b0 : decide (t243 < 0) = false := decide_eq_false c31
 clear c31
 by_cases c32 : t243 = t231
 rotate_left
 · rw [if_neg c32] at H
   exact absurd H (by simp)
 rw [if_pos c32] at H
 have c32b0 : (t243 == t231) = true := beq_iff_eq.mpr c32
 have c32b1 : (t243 != t231) = false := bne_eq_false_iff_eq.mpr c32
 clear c32
 obtain rfl := Option.some.inj H
 go_enter Tryd.func3, Tryd.ntmps3
 try go_wp2_with (first | ((with_reducible refine gate_dst (N := 1) rfl ?_); refine box_event ?hg (N := 1) ?hd (cs := #[.bool a0_0, .slice A0_1 l0_1.length c0_1]) (t := 24) ?hr ?_; (case hd => rfl); (case hg => rfl); (case hr => first | (go_simp; done) | (go_simp; rfl)); intro gb203 hg w33 hbox hb; have BK203 := AM (hbox); have GW203 := gH HB hg; have GE203 := gH HB hg; replace HB := AM (below_step (pH HB) hb); clear hb hbox hg; have ⟨hcz34_0, hcz34_1, hfz34_0, hfz34_1⟩ := z2 BK203) | ((with_reducible refine gate_callee (f := 5) rfl ?_); refine goesL_ (some 16) rfl rfl Tryd.func5 (by kernel_rfl) rfl #[.agg #[.bool a0_0, .slice A0_1 l0_1.length c0_1], .int .i64 1048576] rfl (by (try simp only [List.map_toArray, List.map_cons, List.map_nil]); first | done | rfl | (simp only [List.length_drop, List.length_take]; rfl)) ?_; (with_reducible refine (laws_szBig.calls a0_0 _ _ l0_1 1048576 t204 _ ?side1 ?side2 A2.out).mono ?_); (case side1 => exact cB HR0_1 HB); (case side2 => exact HC0_1.out); rintro e w35 ⟨rfl, hb⟩; refine ⟨_, rfl, ?_⟩; replace BK203 := bB BK203 hb; replace HB := AM (below_step (pH HB) hb); (try clear hb); (try clear hb2); (try clear hk); (try clear hi); have ⟨hcz36_0, hcz36_1, hfz36_0, hfz36_1⟩ := z2 BK203) | ((with_reducible refine gate_callee (f := 7) rfl ?_); refine goesL_ (some 21) rfl rfl Tryd.func7 (by kernel_rfl) rfl #[.agg #[.bool a0_0, .slice A0_1 l0_1.length c0_1]] rfl (by (try simp only [List.map_toArray, List.map_cons, List.map_nil]); first | done | rfl | (simp only [List.length_drop, List.length_take]; rfl)) ?_; (with_reducible refine (laws_toBig.calls k a0_0 _ _ l0_1 t205 t206 _ ?side1 ?side2 A7.out).mono ?_); (case side1 => exact cB HR0_1 HB); (case side2 => exact HC0_1.out); rintro e w37 ⟨v207, rfl, ho0, hb⟩; refine ⟨_, rfl, ?_⟩; have HO208 := AM (Kd.R_lower ho0 (below_size (pH HB))); replace BK203 := bB BK203 hb; replace HB := AM (below_step (pH HB) hb); (try clear hb); (try clear hb2); (try clear hk); (try clear hi); (try clear ho0); obtain ⟨Ao38, co38, eo38⟩ := Kd.R_slice HO208.out; subst eo38) | ((with_reducible refine gate_callee (f := 6) rfl ?_); refine goesL_ (some 22) rfl rfl Tryd.func6 (by kernel_rfl) rfl #[.agg #[.bool t205, .slice Ao38 t206.length co38]] rfl (by (try simp only [List.map_toArray, List.map_cons, List.map_nil]); first | done | rfl | (simp only [List.length_drop, List.length_take]; rfl)) ?_; (with_reducible refine (spec_BigText.calls k t205 _ _ t206 t209 t212 _ ?side1 ?side2 A8.out).mono ?_); (case side1 => exact cR HO208); (case side2 => exact (Kd.R_reads' HO208.out).2.1); rintro e w39 ⟨v210, rfl, ho0, hb⟩; refine ⟨_, rfl, ?_⟩; replace HO208 := AM (Kd.R_below (pR HO208) hb); have HO211 := AM (Kd.R_lower ho0 (below_size (pH HB))); replace BK203 := bB BK203 hb; replace HB := AM (below_step (pH HB) hb); (try clear hb); (try clear hb2); (try clear hk); (try clear hi); (try clear ho0); have ⟨hcz40_0, hcz40_1, hfz40_0, hfz40_1⟩ := z2 BK203) | ((with_reducible refine gate_callee (f := 7) rfl ?_); refine goesL_ (some 26) rfl rfl Tryd.func7 (by kernel_rfl) rfl #[.agg #[.bool a0_0, .slice A0_1 l0_1.length c0_1]] rfl (by (try simp only [List.map_toArray, List.map_cons, List.map_nil]); first | done | rfl | (simp only [List.length_drop, List.length_take]; rfl)) ?_; (with_reducible refine (laws_toBig.calls k a0_0 _ _ l0_1 t213 t214 _ ?side1 ?side2 A9.out).mono ?_); (case side1 => exact cB HR0_1 HB); (case side2 => exact HC0_1.out); rintro e w41 ⟨v215, rfl, ho0, hb⟩; refine ⟨_, rfl, ?_⟩; replace HO211 := AM (Kd.R_below (pR HO211) hb); have HO216 := AM (Kd.R_lower (Kd.R_new' ho0 (Kd.R_lt (pR HO208))) (below_size (pH HB))); replace HO208 := AM (Kd.R_elder' (pR HO208) (Kd.R_base ho0) hb); replace BK203 := bB BK203 hb; replace HB := AM (below_step (pH HB) hb); (try clear hb); (try clear hb2); (try clear hk); (try clear hi); (try clear ho0)) | ((with_reducible refine gate_dst (N := 6) rfl ?_); refine box_event ?hg (N := 6) ?hd (cs := #[.bool false, .slice none 0 0]) (t := 29) ?hr ?_; (case hd => rfl); (case hg => rfl); (case hr => first | (go_simp; done) | (go_simp; rfl)); intro gb217 hg w42 hbox hb; replace HO208 := AM (Kd.R_below (pR HO208) hb); replace HO211 := AM (Kd.R_below (pR HO211) hb); replace HO216 := AM (Kd.R_below (pR HO216) hb); have BK217 := AM (hbox); have GW217 := gH HB hg; have GE217 := gH HB hg; replace HB := AM (below_step (pH HB) hb); have NB203_217 := nL BK203 hg; have NB217_203 := nG BK203 hg; replace BK203 := bB BK203 hb; clear hb hbox hg; have hnb43 := NB217_203.out; have hnc43 := NB203_217.out; have ⟨hcz44_0, hcz44_1, hfz44_0, hfz44_1⟩ := z2 BK217; obtain ⟨Ao45, co45, eo45⟩ := Kd.R_slice HO216.out; subst eo45) | ((with_reducible refine gate_callee (f := 8) rfl ?_); refine goesL_ (some 29) rfl rfl Tryd.func8 (by kernel_rfl) rfl #[.agg #[.bool t213, .slice Ao45 t214.length co45]] rfl (by (try simp only [List.map_toArray, List.map_cons, List.map_nil]); first | done | rfl | (simp only [List.length_drop, List.length_take]; rfl)) ?_; (with_reducible refine (impl_BigText.calls k t213 _ _ t214 t218 t221 _ ?sideT ?side1 ?side2 A10.out).mono ?_); (case sideT => exact tabW_below HT.out (pH HB)); (case side1 => refine (Kd.R_reads' (e := 59) (base := w.heap.size) (ok := fun k_ => (True ∧ some k_ ≠ (.slice Ao38 t206.length co38 : Value).ownBlock)) (n := t214.length) (c := co45) ?_).2.2; exact (by (with_reducible repeat (first | apply Kd.R_alloc | apply Kd.R_drewN | apply Kd.R_drew)); exact (Kd.R_mono (Kd.R_far (p := ⟨gb217, 1, none⟩) (Kd.R_far (p := ⟨gb217, 0, none⟩) (Kd.R_types HO216.out BK217.out (by decide)) (fun _ hk => hk.2) (.bool t213)) (fun _ hk => hk.2) (.slice Ao45 t214.length co45)) (fun _ h_ => h_.1)))); (case side2 => exact (Kd.R_reads' HO216.out).2.1); rintro e w46 ⟨v219, rfl, ho0, hb⟩; refine ⟨_, rfl, ?_⟩; replace HO208 := AM (Kd.R_below (by (with_reducible repeat (first | apply Kd.R_alloc | apply Kd.R_drewN | apply Kd.R_drew)); exact (Kd.R_mono (Kd.R_far (p := ⟨gb217, 1, none⟩) (Kd.R_far (p := ⟨gb217, 0, none⟩) (Kd.R_types HO208.out BK217.out (by decide)) (fun _ hk => hk.2) (.bool t213)) (fun _ hk => hk.2) (.slice Ao45 t214.length co45)) (fun _ h_ => h_.1))) hb); replace HO216 := AM (Kd.R_below (by (with_reducible repeat (first | apply Kd.R_alloc | apply Kd.R_drewN | apply Kd.R_drew)); exact (Kd.R_mono (Kd.R_far (p := ⟨gb217, 1, none⟩) (Kd.R_far (p := ⟨gb217, 0, none⟩) (Kd.R_types HO216.out BK217.out (by decide)) (fun _ hk => hk.2) (.bool t213)) (fun _ hk => hk.2) (.slice Ao45 t214.length co45)) (fun _ h_ => h_.1))) hb); have HO220 := AM (RM_lower (RM_new' ho0 (Kd.R_lt (by (with_reducible repeat (first | apply Kd.R_alloc | apply Kd.R_drewN | apply Kd.R_drew)); exact (Kd.R_mono (Kd.R_far (p := ⟨gb217, 1, none⟩) (Kd.R_far (p := ⟨gb217, 0, none⟩) (Kd.R_types HO211.out BK217.out (by decide)) (fun _ hk => hk.2) (.bool t213)) (fun _ hk => hk.2) (.slice Ao45 t214.length co45)) (fun _ h_ => h_.1))))) (below_size (pH HB))); replace HO211 := AM (Kd.R_elder' (by (with_reducible repeat (first | apply Kd.R_alloc | apply Kd.R_drewN | apply Kd.R_drew)); exact (Kd.R_mono (Kd.R_far (p := ⟨gb217, 1, none⟩) (Kd.R_far (p := ⟨gb217, 0, none⟩) (Kd.R_types HO211.out BK217.out (by decide)) (fun _ hk => hk.2) (.bool t213)) (fun _ hk => hk.2) (.slice Ao45 t214.length co45)) (fun _ h_ => h_.1))) (RM_base ho0) hb); replace BK203 := AM (blk_below (g := gb203) (o := .cells #[.bool a0_0, .slice A0_1 l0_1.length c0_1] 24 (0, 0)) (by refine sB ?_; refine blk_far ?_ NB203_217.out _; refine sB ?_; refine blk_far ?_ NB203_217.out _; refine sB ?_; exact BK203.out) hb); replace BK217 := AM (blk_below (g := gb217) (o := .cells #[.bool t213, .slice Ao45 t214.length co45] 29 (0, 0)) (by refine sB ?_; refine blk_put (cs := #[.bool t213, .slice none 0 0]) ?_ 1 _ rfl; refine sB ?_; refine blk_put (cs := #[.bool false, .slice none 0 0]) ?_ 0 _ rfl; refine sB ?_; exact BK217.out) hb); replace HB := AM (below_step (pH HB) hb); (try clear hb); (try clear hb2); (try clear hk); (try clear hi); (try clear ho0); obtain ⟨Ao47, co47, eo47⟩ := RM_slice HO220.out; subst eo47; obtain ⟨Ao48, co48, eo48⟩ := Kd.R_slice HO211.out; subst eo48) | ((with_reducible refine gate_callee (f := 9) rfl ?_); refine goesL_ (some 34) rfl rfl Tryd.func9 (by kernel_rfl) rfl #[.slice Ao47 t218.length co47, .slice Ao48 t209.length co48] rfl (by (try simp only [List.map_toArray, List.map_cons, List.map_nil]); first | done | rfl | (simp only [List.length_drop, List.length_take]; rfl)) ?_; (with_reducible refine (laws_eqByteS.calls k _ _ t218 _ _ t209 true _ ?side1 ?side2 ?side3 ?side4 A11.out).mono ?_); (case side1 => exact cM HO220); (case side2 => exact (RM_reads' HO220.out).2.1); (case side3 => exact cR HO211); (case side4 => exact (Kd.R_reads' HO211.out).2.1); rintro e w' ⟨rfl, ⟨nd, rfl⟩⟩; refine ⟨_, rfl, ?_⟩))
 (try (rw [drewN_self w46]; generalize hq_ : World.drewN w46 _ = w46; have n0_ : Aside0 (Kd.R (Kd.int .u32) 59 w46 w.heap.size (fun k_ => some k_ ≠ (.slice Ao45 t214.length co45 : Value).ownBlock) (.slice Ao38 t206.length co38) t206) := ⟨by rw [← hq_]; exact (by (with_reducible repeat (first | apply Kd.R_alloc | apply Kd.R_drewN | apply Kd.R_drew)); exact Kd.R_mono HO208.out (fun _ hk => hk.2))⟩; have n1_ : Aside0 (Kd.R (Kd.int .u8) 5 w46 w.heap.size (fun k_ => some k_ ≠ (.slice Ao47 t218.length co47 : Value).ownBlock) (.slice Ao48 t209.length co48) t209) := ⟨by rw [← hq_]; exact (by (with_reducible repeat (first | apply Kd.R_alloc | apply Kd.R_drewN | apply Kd.R_drew)); exact Kd.R_mono HO211.out (fun _ hk => hk.2))⟩; have n2_ : Aside0 (Kd.R (Kd.int .u32) 59 w46 w.heap.size (fun k_ => some k_ ≠ (.slice Ao38 t206.length co38 : Value).ownBlock) (.slice Ao45 t214.length co45) t214) := ⟨by rw [← hq_]; exact (by (with_reducible repeat (first | apply Kd.R_alloc | apply Kd.R_drewN | apply Kd.R_drew)); exact Kd.R_mono HO216.out (fun _ hk => hk.2))⟩; have n3_ : Aside0 (RM w46 w.heap.size (fun k_ => some k_ ≠ (.slice Ao48 t209.length co48 : Value).ownBlock) (.slice Ao47 t218.length co47) t218) := ⟨by rw [← hq_]; exact (by (with_reducible repeat (first | apply RM_alloc | apply RM_drewN | apply RM_drew)); exact RM_mono HO220.out (fun _ hk => hk.2))⟩; have n4_ : Aside0 (w46.heap[gb203]? = some (.cells #[.bool a0_0, .slice A0_1 l0_1.length c0_1] 24 (0, 0))) := ⟨by rw [← hq_]; exact (pB BK203)⟩; have n5_ : Aside0 (w46.heap[gb217]? = some (.cells #[.bool t213, .slice Ao45 t214.length co45] 29 (0, 0))) := ⟨by rw [← hq_]; exact (pB BK217)⟩; have n6_ : Aside0 (Below w.heap.size w w46) := ⟨by rw [← hq_]; exact (pH HB)⟩; clear HO208 HO211 HO216 HO220 BK203 BK217 HB hq_; have HO208 := n0_; have HO211 := n1_; have HO216 := n2_; have HO220 := n3_; have BK203 := n4_; have BK217 := n5_; have HB := n6_; clear n0_ n1_ n2_ n3_ n4_ n5_ n6_))
 replace HO208 := AM (Kd.R_drew HO208.out); replace HO211 := AM (Kd.R_drew HO211.out); replace HO216 := AM (Kd.R_drew HO216.out); replace HO220 := AM (RM_drew HO220.out); replace BK203 := AM (blk_drew BK203.out); replace BK217 := AM (blk_drew BK217.out); replace HB := AM (below_drew1 HB.out)
 refine start_ (n := 5) (S := fun w' => w'.cell? ⟨gb217, 0, none⟩ = some (.bool t213) ∧ w'.cell? ⟨gb217, 1, none⟩ = some (.slice Ao45 t214.length co45) ∧ w'.cell? ⟨gb203, 0, none⟩ = some (.bool a0_0) ∧ w'.cell? ⟨gb203, 1, none⟩ = some (.slice A0_1 l0_1.length c0_1)) (ds := []) #[false, false, false, false, false] (by kernel_rfl) rfl rfl ⟨(blk_cell BK217.out 0).trans rfl, (blk_cell BK217.out 1).trans rfl, (blk_cell BK203.out 0).trans rfl, (blk_cell BK203.out 1).trans rfl⟩ (fun hHeld => ?_)
 generalize w46.drew = w49 at HO208 HO211 HO216 HO220 BK203 BK217 HB hHeld ⊢
 refine take_ (i := 0) (N := some 41) (v := ?_) (a' := ?_) #[true, false, false, false, false] rfl rfl (by kernel_rfl) (fun _ _ _ h => h) (Or.inl ⟨by rfl, ?_⟩) hHeld ?_ ?_
 rotate_left
 · rintro w' ⟨s0, s1, s2, s3⟩
   go_simp
   with_reducible rfl
 rotate_left
 · simp only [Act.put, sa, sb, sc, i64_w, i32_w]
   rfl
 refine take_ (i := 1) (N := some 42) (v := ?_) (a' := ?_) #[true, true, false, false, false] rfl rfl (by kernel_rfl) (fun _ _ _ h => h) (Or.inl ⟨by rfl, ?_⟩) hHeld ?_ ?_
 rotate_left
 · rintro w' ⟨s0, s1, s2, s3⟩
   go_simp
   with_reducible rfl
 rotate_left
 · simp only [Act.put, sa, sb, sc, i64_w, i32_w]
   rfl
 refine one_ (i := 2) (N := some 43) #[true, true, true, false, false] rfl rfl (by kernel_rfl) (by decide) (fun K hK => ?_)
 refine goes_ Tryd.func7 (by kernel_rfl) rfl #[.agg #[.bool a0_0, .slice A0_1 l0_1.length c0_1]] (by rfl) rfl rfl (by (try simp only [List.map_toArray, List.map_cons, List.map_nil]); first | done | rfl | (simp only [List.length_drop, List.length_take]; rfl)) ?_
 with_reducible refine (laws_toBig.calls k a0_0 _ _ l0_1 t223 t224 _ ?side1 ?side2 A14.out).mono ?_
 (case side1 => exact cB HR0_1 HB)
 (case side2 => exact HC0_1.out)
 rintro e w50 ⟨v225, rfl, ho0, hb⟩
 refine ⟨_, rfl, ?_⟩
 replace HO211 := AM (Kd.R_below (pR HO211) hb); replace HO220 := AM (RM_below (pM HO220) hb); have HO226 := AM (Kd.R_lower (Kd.R_new' (Kd.R_new' ho0 (Kd.R_lt (pR HO208))) (Kd.R_lt (pR HO216))) (below_size (pH HB))); replace HO208 := AM (Kd.R_elder' (pR HO208) (Kd.R_base ho0) hb); replace HO216 := AM (Kd.R_elder' (pR HO216) (Kd.R_base ho0) hb); replace BK203 := bB BK203 hb; replace BK217 := bB BK217 hb; replace HB := AM (below_step (pH HB) hb)
 (try clear hb)
 (try clear hb2)
 (try clear hk)
 (try clear hi)
 (try clear ho0)
 obtain ⟨Ao51, co51, eo51⟩ := Kd.R_slice HO226.out
 (first | subst eo51 | (injection eo51 with f1_ f2_ f3_; have f4_ := f1_.symm; have f5_ := f3_.symm; clear f1_ f2_ f3_; subst f4_; subst f5_))
 refine hK.out _ _ ⟨(blk_cell BK217.out 0).trans rfl, (blk_cell BK217.out 1).trans rfl, (blk_cell BK203.out 0).trans rfl, (blk_cell BK203.out 1).trans rfl⟩ (fun hHeld => ?_)
 clear hK K
 refine norm_ (a' := ?_) ?_ ?_
 rotate_left
 · show Act.put _ (some 43) _ = _
   simp only [Act.put, sa, sb, sc, i64_w, i32_w]
   rfl
 refine one_ (i := 3) (N := some 44) #[true, true, true, true, false] rfl rfl (by kernel_rfl) (by decide) (fun K hK => ?_)
 refine goes_ Tryd.func10 (by kernel_rfl) rfl #[.agg #[.bool t213, .slice Ao45 t214.length co45], .agg #[.bool t223, .slice Ao51 t224.length co51]] (by rfl) rfl rfl (by (try simp only [List.map_toArray, List.map_cons, List.map_nil]); first | done | rfl | (simp only [List.length_drop, List.length_take]; rfl)) ?_
 with_reducible refine (laws_eqBig.calls k t213 _ _ t214 t223 _ _ t224 true _ ?side1 ?side2 ?side3 ?side4 A15.out).mono ?_
 (case side1 => exact cR HO216)
 (case side2 => exact (Kd.R_reads' HO216.out).2.1)
 (case side3 => exact cR HO226)
 (case side4 => exact (Kd.R_reads' HO226.out).2.1)
 rintro e w52 ⟨rfl, hb⟩
 refine ⟨_, rfl, ?_⟩
 replace HO208 := AM (Kd.R_below (pR HO208) hb); replace HO211 := AM (Kd.R_below (pR HO211) hb); replace HO216 := AM (Kd.R_below (pR HO216) hb); replace HO220 := AM (RM_below (pM HO220) hb); replace HO226 := AM (Kd.R_below (pR HO226) hb); replace BK203 := bB BK203 hb; replace BK217 := bB BK217 hb; replace HB := AM (below_step (pH HB) hb)
 (try clear hb)
 (try clear hb2)
 (try clear hk)
 (try clear hi)
 refine hK.out _ _ ⟨(blk_cell BK217.out 0).trans rfl, (blk_cell BK217.out 1).trans rfl, (blk_cell BK203.out 0).trans rfl, (blk_cell BK203.out 1).trans rfl⟩ (fun hHeld => ?_)
 clear hK K
 refine norm_ (a' := ?_) ?_ ?_
 rotate_left
 · show Act.put _ (some 44) _ = _
   simp only [Act.put, sa, sb, sc, i64_w, i32_w]
   rfl
 refine pure_ (i := 4) (N := some 45) (v := ?_) (a' := ?_) #[true, true, true, true, true] rfl rfl (by kernel_rfl) (fun _ _ _ h => h) (Or.inl ⟨by rfl, ?_⟩) ?_ ?_
 rotate_left
 · intro w'
   go_simp
   with_reducible rfl
 rotate_left
 · simp only [Act.put, sa, sb, sc, i64_w, i32_w]
   rfl
 refine done_ (by kernel_rfl) ?_
 have hcz53_0 : w52.cell? ⟨gb217, 0, none⟩ = some (.bool t213) := (blk_cell BK217.out 0).trans rfl
 have hcz53_1 : w52.cell? ⟨gb217, 1, none⟩ = some (.slice Ao45 t214.length co45) := (blk_cell BK217.out 1).trans rfl
 have hfz53_0 := blk_frozen BK217.out 0; have hfz53_1 := blk_frozen BK217.out 1
 try go_wp2_with (first | ((with_reducible refine gate_callee (f := 11) rfl ?_); refine goesL_ (some 48) rfl rfl Tryd.func11 (by kernel_rfl) rfl #[.agg #[.bool t213, .slice Ao45 t214.length co45], .int .i64 1] rfl (by (try simp only [List.map_toArray, List.map_cons, List.map_nil]); first | done | rfl | (simp only [List.length_drop, List.length_take]; rfl)) ?_; (with_reducible refine (laws_markBig.calls k t213 (fun k_ => some k_ = (.slice Ao45 t214.length co45 : Value).ownBlock) (.slice Ao45 t214.length co45) t214 1 t228 t229 w _ ?side1 ?side2 A17.out).mono ?_); (case side1 => exact pH HB); (case side2 => exact Kd.R_tight rfl HO216.out); rintro e w54 ⟨rfl, hy0, hb, hkp⟩; refine ⟨_, rfl, ?_⟩; replace BK203 := AM (blk_kept (pB BK203) hkp (fun hs_ => (fun e_ => (Kd.R_ne HO216.out BK203.out (by decide)) e_) hs_)); replace HO208 := AM (Kd.R_mono (ok' := fun k_ => some k_ ≠ (.slice Ao45 t214.length co45 : Value).ownBlock ∧ some k_ ≠ (.slice Ao51 t224.length co51 : Value).ownBlock) (Kd.R_keptB (HO208.out) hkp (fun k_ hk_ hs_ => by first | exact (hk_.1.2) hs_ | exact hk_.1 hs_ | exact hk_.2 hs_ | exact hk_.1.1 hs_ | exact hk_.2.1 hs_ | exact hk_.2.2 hs_)) (fun k_ hk_ => by first | exact ⟨hk_.1.1.2, hk_.1.2⟩ | (simp_all; done))); replace HO211 := AM (Kd.R_mono (ok' := fun k_ => some k_ ≠ (.slice Ao47 t218.length co47 : Value).ownBlock) (Kd.R_keptB ((Kd.R_apart' HO211.out (Kd.R_typed HO216.out) (by decide))) hkp (fun k_ hk_ hs_ => by first | exact (hk_.2) hs_ | exact hk_.1 hs_ | exact hk_.1.1 hs_ | exact hk_.1.2 hs_ | exact hk_.2.1 hs_ | exact hk_.2.2 hs_)) (fun k_ hk_ => by first | exact hk_.1.1.2 | (simp_all; done))); replace BK217 := AM (blk_kept (pB BK217) hkp (fun hs_ => (fun e_ => (Kd.R_ne HO216.out BK217.out (by decide)) e_) hs_)); replace HO220 := AM (RM_mono (ok' := fun k_ => some k_ ≠ (.slice Ao48 t209.length co48 : Value).ownBlock) (RM_keptB ((RM_apart' HO220.out (Kd.R_typed HO216.out) (by decide))) hkp (fun k_ hk_ hs_ => by first | exact (hk_.2) hs_ | exact hk_.1 hs_ | exact hk_.1.1 hs_ | exact hk_.1.2 hs_ | exact hk_.2.1 hs_ | exact hk_.2.2 hs_)) (fun k_ hk_ => by first | exact hk_.1.1.2 | (simp_all; done))); replace HO216 := AM (Kd.R_reok rfl hy0 (fun k_ e_ => HO216.out.1 k_ e_)); replace HO226 := AM (Kd.R_mono (ok' := fun k_ => some k_ ≠ (.slice Ao38 t206.length co38 : Value).ownBlock ∧ some k_ ≠ (.slice Ao45 t214.length co45 : Value).ownBlock) (Kd.R_keptB (HO226.out) hkp (fun k_ hk_ hs_ => by first | exact (hk_.2) hs_ | exact hk_.1 hs_ | exact hk_.1.1 hs_ | exact hk_.1.2 hs_ | exact hk_.2.1 hs_ | exact hk_.2.2 hs_)) (fun k_ hk_ => by first | exact ⟨hk_.1.1.2, hk_.1.2⟩ | (simp_all; done))); replace HB := AM (hb); (try clear hb); (try clear hkp); (try clear hy0)) | (go_at_call 9; (with_reducible refine (laws_eqByteS.calls k _ _ t218 _ _ t209 true _ ?side1 ?side2 ?side3 ?side4 A19.out).mono ?_); (case side1 => exact cM HO220); (case side2 => exact (RM_reads' HO220.out).2.1); (case side3 => exact cR HO211); (case side4 => exact (Kd.R_reads' HO211.out).2.1); rintro e w' ⟨rfl, ⟨nd, rfl⟩⟩) | ((with_reducible refine gate_callee (f := 12) rfl ?_); refine goesL_ (some 64) rfl rfl Tryd.func12 (by kernel_rfl) rfl #[.slice Ao47 t218.length co47, .int .i64 1] rfl (by (try simp only [List.map_toArray, List.map_cons, List.map_nil]); first | done | rfl | (simp only [List.length_drop, List.length_take]; rfl)) ?_; (with_reducible refine (laws_markByteS.callsM k (fun k_ => some k_ = (.slice Ao47 t218.length co47 : Value).ownBlock) (.slice Ao47 t218.length co47) t218 1 t231 t232 w _ ?side1 ?side2 A21.out).mono ?_); (case side1 => exact pH HB); (case side2 => exact RM_tight HO220.out); rintro e w55 ⟨rfl, hy0, hb, hkp⟩; refine ⟨_, rfl, ?_⟩; replace BK203 := AM (blk_kept (pB BK203) hkp (fun hs_ => (fun e_ => (RM_ne HO220.out BK203.out (by decide)) e_) hs_)); replace HO208 := AM (Kd.R_mono (ok' := fun k_ => some k_ ≠ (.slice Ao45 t214.length co45 : Value).ownBlock ∧ some k_ ≠ (.slice Ao51 t224.length co51 : Value).ownBlock) (Kd.R_keptB ((R_apartM rfl HO208.out HO220.out (by decide))) hkp (fun k_ hk_ hs_ => by first | exact (hk_.2) hs_ | exact hk_.1 hs_ | exact hk_.1.1 hs_ | exact hk_.1.2 hs_ | exact hk_.2.1 hs_ | exact hk_.2.2 hs_)) (fun k_ hk_ => by first | exact ⟨hk_.1.1.1, hk_.1.1.2⟩ | (simp_all; done))); replace HO211 := AM (Kd.R_mono (ok' := fun k_ => some k_ ≠ (.slice Ao47 t218.length co47 : Value).ownBlock) (Kd.R_keptB (HO211.out) hkp (fun k_ hk_ hs_ => (hk_) hs_)) (fun k_ hk_ => by first | exact hk_.1 | (simp_all; done))); replace HO216 := AM (Kd.R_mono (ok' := fun k_ => some k_ ≠ (.slice Ao38 t206.length co38 : Value).ownBlock ∧ some k_ ≠ (.slice Ao51 t224.length co51 : Value).ownBlock) (Kd.R_keptB ((R_apartM rfl HO216.out HO220.out (by decide))) hkp (fun k_ hk_ hs_ => by first | exact (hk_.2) hs_ | exact hk_.1 hs_ | exact hk_.1.1 hs_ | exact hk_.1.2 hs_ | exact hk_.2.1 hs_ | exact hk_.2.2 hs_)) (fun k_ hk_ => by first | exact ⟨hk_.1.1.1.2, hk_.1.1.2⟩ | (simp_all; done))); replace BK217 := AM (blk_kept (pB BK217) hkp (fun hs_ => (fun e_ => (RM_ne HO220.out BK217.out (by decide)) e_) hs_)); replace HO226 := AM (Kd.R_mono (ok' := fun k_ => some k_ ≠ (.slice Ao38 t206.length co38 : Value).ownBlock ∧ some k_ ≠ (.slice Ao45 t214.length co45 : Value).ownBlock) (Kd.R_keptB ((R_apartM rfl HO226.out HO220.out (by decide))) hkp (fun k_ hk_ hs_ => by first | exact (hk_.2) hs_ | exact hk_.1 hs_ | exact hk_.1.1 hs_ | exact hk_.1.2 hs_ | exact hk_.2.1 hs_ | exact hk_.2.2 hs_)) (fun k_ hk_ => by first | exact ⟨hk_.1.1.1, hk_.1.1.2⟩ | (simp_all; done))); replace HO220 := AM (RM_reok hy0 (fun k_ e_ => RM_ok HO220.out k_ e_)); replace HB := AM (hb); (try clear hb); (try clear hkp); (try clear hy0)) | ((with_reducible refine gate_callee (f := 13) rfl ?_); refine goesL_ (some 67) rfl rfl Tryd.func13 (by kernel_rfl) rfl #[.slice Ao47 t232.length co47, .int .i64 1] rfl (by (try simp only [List.map_toArray, List.map_cons, List.map_nil]); first | done | (rw [show t232.length = t218.length from (RM_reads' HO220.out).1.symm] <;> rfl) | rfl | (simp only [List.length_drop, List.length_take]; rfl)) ?_; (with_reducible refine (laws_heldByteS.calls k _ _ t232 1 t233 _ ?side1 ?side2 A22.out).mono ?_); (case side1 => exact cM HO220); (case side2 => rw [show t232.length = t218.length from (RM_reads' HO220.out).1.symm]; exact (RM_reads' HO220.out).2.1); rintro e w' ⟨rfl, ⟨nd, rfl⟩⟩; refine ⟨_, rfl, ?_⟩; have ⟨hcz56_0, hcz56_1, hfz56_0, hfz56_1⟩ := z2 BK203) | ((with_reducible refine gate_callee (f := 7) rfl ?_); refine goesL_ (some 75) rfl rfl Tryd.func7 (by kernel_rfl) rfl #[.agg #[.bool a0_0, .slice A0_1 l0_1.length c0_1]] rfl (by (try simp only [List.map_toArray, List.map_cons, List.map_nil]); first | done | rfl | (simp only [List.length_drop, List.length_take]; rfl)) ?_; (with_reducible refine (laws_toBig.calls k a0_0 _ _ l0_1 t234 t235 _ ?side1 ?side2 A25.out).mono ?_); (case side1 => repeat (first | exact (Kd.C_below HR0_1.out (pH HB)) | (with_reducible refine Kd.C_alloc ?_ _) | (with_reducible refine Kd.C_drewN ?_ _) | (with_reducible refine Kd.C_drew ?_))); (case side2 => exact HC0_1.out); rintro e w57 ⟨v236, rfl, ho0, hb⟩; refine ⟨_, rfl, ?_⟩; replace HO211 := AM (Kd.R_below (pR HO211) hb); replace HO220 := AM (RM_below (pM HO220) hb); have HO237 := AM (Kd.R_lower (Kd.R_new' (Kd.R_new' (Kd.R_new' ho0 (Kd.R_lt (pR HO208))) (Kd.R_lt (pR HO216))) (Kd.R_lt (pR HO226))) (below_size (pH HB))); replace HO208 := AM (Kd.R_elder' (pR HO208) (Kd.R_base ho0) hb); replace HO216 := AM (Kd.R_elder' (pR HO216) (Kd.R_base ho0) hb); replace HO226 := AM (Kd.R_elder' (pR HO226) (Kd.R_base ho0) hb); replace BK203 := bB BK203 hb; replace BK217 := bB BK217 hb; replace HB := AM (below_step (pH HB) hb); (try clear hb); (try clear hb2); (try clear hk); (try clear hi); (try clear ho0); obtain ⟨Ao58, co58, eo58⟩ := Kd.R_slice HO237.out; subst eo58) | ((with_reducible refine gate_callee (f := 8) rfl ?_); refine goesL_ (some 76) rfl rfl Tryd.func8 (by kernel_rfl) rfl #[.agg #[.bool t234, .slice Ao58 t235.length co58]] rfl (by (try simp only [List.map_toArray, List.map_cons, List.map_nil]); first | done | rfl | (simp only [List.length_drop, List.length_take]; rfl)) ?_; (with_reducible refine (impl_BigText.calls k t234 _ _ t235 t238 t241 _ ?sideT ?side1 ?side2 A26.out).mono ?_); (case sideT => exact tabW_below HT.out (pH HB)); (case side1 => exact cR HO237); (case side2 => exact (Kd.R_reads' HO237.out).2.1); rintro e w59 ⟨v239, rfl, ho0, hb⟩; refine ⟨_, rfl, ?_⟩; replace HO208 := AM (Kd.R_below (pR HO208) hb); replace HO216 := AM (Kd.R_below (pR HO216) hb); replace HO226 := AM (Kd.R_below (pR HO226) hb); replace HO237 := AM (Kd.R_below (pR HO237) hb); have HO240 := AM (RM_lower (RM_new' (RM_new' ho0 (Kd.R_lt (pR HO211))) (RM_lt (pM HO220))) (below_size (pH HB))); replace HO211 := AM (Kd.R_elder' (pR HO211) (RM_base ho0) hb); replace HO220 := AM (RM_elder' (pM HO220) (RM_base ho0) hb); replace BK203 := bB BK203 hb; replace BK217 := bB BK217 hb; replace HB := AM (below_step (pH HB) hb); (try clear hb); (try clear hb2); (try clear hk); (try clear hi); (try clear ho0); obtain ⟨Ao60, co60, eo60⟩ := RM_slice HO240.out; subst eo60) | ((with_reducible refine gate_callee (f := 9) rfl ?_); refine goesL_ (some 81) rfl rfl Tryd.func9 (by kernel_rfl) rfl #[.slice Ao60 t238.length co60, .slice Ao48 t209.length co48] rfl (by (try simp only [List.map_toArray, List.map_cons, List.map_nil]); first | done | rfl | (simp only [List.length_drop, List.length_take]; rfl)) ?_; (with_reducible refine (laws_eqByteS.calls k _ _ t238 _ _ t209 true _ ?side1 ?side2 ?side3 ?side4 A27.out).mono ?_); (case side1 => exact cM HO240); (case side2 => exact (RM_reads' HO240.out).2.1); (case side3 => exact cR HO211); (case side4 => exact (Kd.R_reads' HO211.out).2.1); rintro e w' ⟨rfl, ⟨nd, rfl⟩⟩; refine ⟨_, rfl, ?_⟩) | ((with_reducible refine gate_callee (f := 13) rfl ?_); refine goesL_ (some 90) rfl rfl Tryd.func13 (by kernel_rfl) rfl #[.slice Ao47 t232.length co47, .int .i64 1] rfl (by (try simp only [List.map_toArray, List.map_cons, List.map_nil]); first | done | (rw [show t232.length = t218.length from (RM_reads' HO220.out).1.symm] <;> rfl) | rfl | (simp only [List.length_drop, List.length_take]; rfl)) ?_; (with_reducible refine (laws_heldByteS.calls k _ _ t232 1 t243 _ ?side1 ?side2 A30.out).mono ?_); (case side1 => exact cM HO220); (case side2 => rw [show t232.length = t218.length from (RM_reads' HO220.out).1.symm]; exact (RM_reads' HO220.out).2.1); rintro e w' ⟨rfl, ⟨nd, rfl⟩⟩; refine ⟨_, rfl, ?_⟩))
 go_ret
 exact ⟨by first | rfl | (simp [errW_none, errW_some] <;> rfl) | (simp [*, errW_none, errW_some] <;> rfl), pH HB⟩
end Go.Proofs.YtcpdeenhjodmfaaDoor.QBigText
