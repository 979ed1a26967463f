-- Written by wip/tools/mkprint.py (my program) out of the translation, for this claim. Not trusted: Lean checks it.
import Derived.Test.YtcpdeenhjodmfaaQDyOfx0
import Derived.Test.YtcpdeenhjodmfaaQDyOfx1
namespace Go.Proofs.Ytcpdeenhjodmfaa.QDyOf
open Go.RowKit Go.Proofs.YtcpdeenhjodmfaaW.PrintWords Go.Proofs.YtcpdeenhjodmfaaW.PrintLast Go.Proofs.YtcpdeenhjodmfaaW.PrintMore
attribute [local go_sem] max2_int min2_int max_two min_two max_three min_three max_four min_four   -- for this text's walks alone
set_option linter.unusedVariables false
set_option linter.unusedSimpArgs false

/-! ### spec_l1trim: function 146 -/
def spec_l1trim.l0 : Nat → List Int → Int → Option (List Int)
 | 0, _, _ => none
 | k + 1, x0, x3 => if x3 > 0 then (if 0 ≤ (wrap64 (x3 - 1)) then (if (wrap64 (x3 - 1)) < (x0.length : Int) then (if (rd x0 (wrap64 (x3 - 1))) = 0 then (spec_l1trim.l0 k x0 (wrap64 (x3 - 1))) else (if 0 ≤ x3 then (if x3 ≤ (x0.length : Int) then (some (x0.take (x3 : Int).toNat)) else (none)) else (none))) else (none)) else (none)) else (if 0 ≤ x3 then (if x3 ≤ (x0.length : Int) then (some (x0.take (x3 : Int).toNat)) else (none)) else (none))
def spec_l1trim.f (k : Nat) (l0 : List Int) : Option (List Int) := spec_l1trim.l0 k l0 (l0.length : Int)
theorem spec_l1trim.mono_l : ∀ k, (∀ y0 y1, LeO (spec_l1trim.l0 k y0 y1) (spec_l1trim.l0 (k + 1) y0 y1))
 | 0 => fun _ _ r h => by simp [spec_l1trim.l0] at h
 | k + 1 => by
  have ih0 := spec_l1trim.mono_l k
  · intro y0 y1
    unfold spec_l1trim.l0
    repeat' with_reducible first | exact ih0 _ _ | exact LeO.refl _ | exact LeO.none _ | refine LeO.ite ?_ ?_ | refine LeO.bind ?_ (fun _ => ?_)
theorem spec_l1trim.mono : ∀ a0 k, LeO (spec_l1trim.f k a0) (spec_l1trim.f (k + 1) a0) := by
 intro a0 k
 have ih0 := spec_l1trim.mono_l k
 unfold spec_l1trim.f
 repeat' with_reducible first | exact ih0 _ _ | exact LeO.refl _ | exact LeO.none _ | refine LeO.ite ?_ ?_ | refine LeO.bind ?_ (fun _ => ?_)
set_option maxHeartbeats 8000000 in
set_option maxRecDepth 100000 in
theorem spec_l1trim.calls (k : Nat) (P0_ : Nat → Prop) (u9000_ : Value) (l0 : List Int) (r : List Int) (w0 w : World) (hB : Below w0.heap.size w0 w) (ho0 : Kd.R (Kd.int .i64) 3 w w0.heap.size P0_ u9000_ l0) (h : spec_l1trim.f k l0 = some r) :
 Calls Try.prog 146 #[u9000_] w fun e w' => ∃ v0_ : Value, e = .returned (v0_) ∧ Kd.R (Kd.int .i64) 3 w' w0.heap.size (fun k_ => (P0_ k_ ∨ w.heap.size ≤ k_)) v0_ r ∧ Below w0.heap.size w0 w' ∧ Kept w w' (fun k_ => P0_ k_) := by
 have HO0 := AM (show Kd.R (Kd.int .i64) 3 w w0.heap.size (fun k_ => (P0_ k_ ∨ w.heap.size ≤ k_)) u9000_ l0 from Kd.R_mono ho0 (fun k_ hk => (.inl hk))); have HK := AM (Kept.refl w (fun k_ => P0_ k_)); have HW0 := AM hB.size; have HB := AM hB; clear hB
 have H : (spec_l1trim.l0 k l0 (l0.length : Int)) = some r := h
 clear h
 have H' := AM H
 clear H
 obtain ⟨Ao2, co2, eo2⟩ := Kd.R_slice HO0.out
 subst eo2
 go_enter Try.func146, Try.ntmps146
 go_wp2
 go_loopg [3] k (fun kq v3 w' => ∃ (x3_1 : Int), v3 = .int .i64 x3_1 ∧ Aside0 (spec_l1trim.l0 kq l0 x3_1 = some r) ∧ Aside0 (kq ≤ k) ∧ Aside0 (Kd.R (Kd.int .i64) 3 w' w0.heap.size (fun k_ => (P0_ k_ ∨ w.heap.size ≤ k_)) (.slice Ao2 l0.length co2) l0) ∧ Aside0 (Kept w w' (fun k_ => P0_ k_)) ∧ Aside0 (Below w0.heap.size w0 w'))
 case atStart => exact ⟨((l0.length : Int)), (by first | rfl | (simp; done) | (simp [*]; done)), H', ⟨Nat.le_refl _⟩, ⟨by (with_reducible repeat (first | apply Kd.R_alloc | apply Kd.R_drewN | apply Kd.R_drew)); exact HO0.out⟩, ⟨by repeat (first | (with_reducible first | exact HK.out | apply Kept.alloc | apply Kept.drewN | apply Kept.drew) | exact HK.out)⟩, ⟨pH HB⟩⟩
 case round =>
  clear H'
  try clear c1
  try clear p2
  obtain ⟨x3_1, rfl, HA, HK1, HO_0, HK, HB⟩ := hrel
  cases gk with
  | zero => exact absurd HA.out (by simp [spec_l1trim.l0])
  | succ k1 =>
   have H := HA.out; clear HA
   simp only [spec_l1trim.l0] at H
   by_cases c3 : x3_1 > 0
   rotate_left
   · rw [if_neg c3] at H
     have c3b0 : decide (0 < x3_1) = false := decide_eq_false c3
     clear c3
     by_cases c11 : 0 ≤ x3_1
     rotate_left
     · rw [if_neg c11] at H
       exact absurd H (by simp)

     rw [if_pos c11] at H
     have c11b0 := eq_true c11
     have c11b1 : decide (0 ≤ x3_1) = true := decide_eq_true c11
     clear c11
     by_cases c12 : x3_1 ≤ (l0.length : Int)
     rotate_left
     · rw [if_neg c12] at H
       exact absurd H (by simp)
     rw [if_pos c12] at H
     have c12b0 := eq_true c12
     have c12b1 : decide (x3_1 ≤ (l0.length : Int)) = true := decide_eq_true c12
     clear c12
     obtain ⟨y139, hy139⟩ : ∃ y_ : List Int, y_ = (l0.take (x3_1 : Int).toNat) := ⟨_, rfl⟩
     replace H : (some y139) = some r := by first | (rw [hy139]; with_reducible exact H) | (have H2_ := (Option.bind_some _ _).symm.trans H; rw [hy139]; with_reducible exact H2_) | (have H2_ := (Option.bind_some _ _).symm.trans H; with_reducible exact H2_) | with_reducible exact H | (rw [hy139]; exact H) | exact H
     have Ny139 := AM hy139; clear hy139
     obtain rfl := Option.some.inj H
     have q13 : (x3_1 : Int) ≤ ((l0.length : Int) : Int) := of_decide_eq_true (by first | (with_reducible assumption) | assumption)
     obtain ⟨i013, hi013, _, hsz13, _⟩ := info_parts info3
     have hcut13 := cut_to (P := Try.prog) 36 3 .i64 Try.underlying36 hi013 Ao2 l0.length co2 x3_1 (of_decide_eq_true (by first | (with_reducible assumption) | assumption)) q13 (Kd.R_reads' HO_0.out).2.1; have hr13 := Kd.R_take (m := (x3_1 : Int).toNat) HO_0.out (by omega)
     have hy13 : y139.length = (x3_1 : Int).toNat := (by rw [Ny139.out, List.length_take]; omega)
     rw [← Ny139.out] at hr13
     rw [← hy13] at hr13 hcut13
     clear hy13 hi013 hsz13 HO_0; have HO141 := AM hr13; clear hr13; replace q13 := eq_true q13
     go_wp2
     go_ret
     exact ⟨_, by first | rfl | (simp [errW_none, errW_some] <;> rfl) | (simp [*, errW_none, errW_some] <;> rfl), by (with_reducible repeat (first | apply Kd.R_alloc | apply Kd.R_drewN | apply Kd.R_drew)); exact HO141.out, pH HB, by repeat (first | (with_reducible first | exact HK.out | apply Kept.alloc | apply Kept.drewN | apply Kept.drew) | exact HK.out)⟩
   rw [if_pos c3] at H
   have c3b0 : decide (0 < x3_1) = true := decide_eq_true c3
   clear c3
   obtain ⟨ji4, hji4⟩ : ∃ j_ : Int, (wrap64 (x3_1 - 1)) = j_ := ⟨_, rfl⟩
   replace H : (if 0 ≤ (ji4) then (if (ji4) < (l0.length : Int) then (if (rd l0 (ji4)) = 0 then (spec_l1trim.l0 k1 l0 ji4) else (if 0 ≤ x3_1 then (if x3_1 ≤ (l0.length : Int) then (some (l0.take (x3_1 : Int).toNat)) else (none)) else (none))) else (none)) else (none)) = some r := by first | (rw [hji4] at H; exact H) | (simp only [hji4] at H ⊢; exact H)
   have hji4w : (IntKind.i64.wrap (x3_1 - 1)) = ji4 := (i64_w _).trans hji4
   by_cases c5 : 0 ≤ (ji4)
   rotate_left
   · rw [if_neg c5] at H
     exact absurd H (by simp)
   rw [if_pos c5] at H
   have c5b0 : decide (0 ≤ (ji4)) = true := decide_eq_true c5
   clear c5
   by_cases c6 : (ji4) < (l0.length : Int)
   rotate_left
   · rw [if_neg c6] at H
     exact absurd H (by simp)
   rw [if_pos c6] at H
   have c6b0 : decide ((ji4) < (l0.length : Int)) = true := decide_eq_true c6
   clear c6
   by_cases c7 : (rd l0 (ji4)) = 0
   · rw [if_pos c7] at H
     have c7b0 : ((rd l0 (ji4)) == 0) = true := beq_iff_eq.mpr c7
     have c7b1 : ((rd l0 (ji4)) != 0) = false := bne_eq_false_iff_eq.mpr c7
     clear c7
     have H' := AM H
     clear H
     have p135 : 0 ≤ ((ji4) : Int) := of_decide_eq_true (by first | (with_reducible assumption) | assumption)
     have q135 : (ji4) < (l0.length : Int) := of_decide_eq_true (by first | (with_reducible assumption) | assumption)
     obtain ⟨ad135, e135, hx135_0⟩ := Kd.at_int (Kd.R_reads' HO_0.out).2.2 (ji4) p135 q135
     cases e135
     replace p135 := eq_true p135; replace q135 := eq_true q135
     go_wp2
     go_roundg k1
     case measure => have := HK1.out; omega
     case rel => exact ⟨(ji4), (by first | rfl | (simp; done) | (simp only [← hji4] <;> (first | rfl | simp)) | (simp [*]; done)), H', ⟨by have := HK1.out; omega⟩, ⟨by (with_reducible repeat (first | apply Kd.R_alloc | apply Kd.R_drewN | apply Kd.R_drew)); exact HO_0.out⟩, ⟨by repeat (first | (with_reducible first | exact HK.out | apply Kept.alloc | apply Kept.drewN | apply Kept.drew) | exact HK.out)⟩, ⟨pH HB⟩⟩
   rw [if_neg c7] at H
   have c7b0 : ((rd l0 (ji4)) == 0) = false := beq_eq_false_iff_ne.mpr c7
   have c7b1 : ((rd l0 (ji4)) != 0) = true := bne_iff_ne.mpr c7
   by_cases c8 : 0 ≤ x3_1
   rotate_left
   · rw [if_neg c8] at H
     exact absurd H (by simp)
   rw [if_pos c8] at H
   have c8b0 := eq_true c8
   have c8b1 : decide (0 ≤ x3_1) = true := decide_eq_true c8
   clear c8
   by_cases c9 : x3_1 ≤ (l0.length : Int)
   rotate_left
   · rw [if_neg c9] at H
     exact absurd H (by simp)
   rw [if_pos c9] at H
   have c9b0 := eq_true c9
   have c9b1 : decide (x3_1 ≤ (l0.length : Int)) = true := decide_eq_true c9
   clear c9
   obtain ⟨y136, hy136⟩ : ∃ y_ : List Int, y_ = (l0.take (x3_1 : Int).toNat) := ⟨_, rfl⟩
   replace H : (some y136) = some r := by first | (rw [hy136]; with_reducible exact H) | (have H2_ := (Option.bind_some _ _).symm.trans H; rw [hy136]; with_reducible exact H2_) | (have H2_ := (Option.bind_some _ _).symm.trans H; with_reducible exact H2_) | with_reducible exact H | (rw [hy136]; exact H) | exact H
   have Ny136 := AM hy136; clear hy136
   obtain rfl := Option.some.inj H
   have p135 : 0 ≤ ((ji4) : Int) := of_decide_eq_true (by first | (with_reducible assumption) | assumption)
   have q135 : (ji4) < (l0.length : Int) := of_decide_eq_true (by first | (with_reducible assumption) | assumption)
   obtain ⟨ad135, e135, hx135_0⟩ := Kd.at_int (Kd.R_reads' HO_0.out).2.2 (ji4) p135 q135
   cases e135
   replace p135 := eq_true p135; replace q135 := eq_true q135
   have q10 : (x3_1 : Int) ≤ ((l0.length : Int) : Int) := of_decide_eq_true (by first | (with_reducible assumption) | assumption)
   obtain ⟨i010, hi010, _, hsz10, _⟩ := info_parts info3
   have hcut10 := cut_to (P := Try.prog) 36 3 .i64 Try.underlying36 hi010 (some ad135) l0.length co2 x3_1 (of_decide_eq_true (by first | (with_reducible assumption) | assumption)) q10 (Kd.R_reads' HO_0.out).2.1; have hr10 := Kd.R_take (m := (x3_1 : Int).toNat) HO_0.out (by omega)
   have hy10 : y136.length = (x3_1 : Int).toNat := (by rw [Ny136.out, List.length_take]; omega)
   rw [← Ny136.out] at hr10
   rw [← hy10] at hr10 hcut10
   clear hy10 hi010 hsz10 HO_0; have HO138 := AM hr10; clear hr10; replace q10 := eq_true q10
   go_wp2
   go_ret
   exact ⟨_, by first | rfl | (simp [errW_none, errW_some] <;> rfl) | (simp only [← hji4]; first | rfl | (simp [errW_none, errW_some] <;> rfl)) | (simp [*, errW_none, errW_some] <;> rfl), by (with_reducible repeat (first | apply Kd.R_alloc | apply Kd.R_drewN | apply Kd.R_drew)); exact HO138.out, pH HB, by repeat (first | (with_reducible first | exact HK.out | apply Kept.alloc | apply Kept.drewN | apply Kept.drew) | exact HK.out)⟩
/-! ### spec_l1make: function 115 -/
def spec_l1make.f (k : Nat) (a0 : Bool) (l1 : List Int) : Option (Bool × List Int) := (spec_l1trim.f k l1).bind fun t143 => (if a0 = true then (some (decide (0 < t143.length), t143)) else (some (false, t143)))
theorem spec_l1make.mono : ∀ a0 a1 k, LeO (spec_l1make.f k a0 a1) (spec_l1make.f (k + 1) a0 a1) := by
 intro a0 a1 k
 unfold spec_l1make.f
 repeat' with_reducible first | exact spec_l1trim.mono _ _ | exact LeO.refl _ | exact LeO.none _ | refine LeO.ite ?_ ?_ | refine LeO.bind ?_ (fun _ => ?_)
set_option maxHeartbeats 8000000 in
set_option maxRecDepth 100000 in
theorem spec_l1make.calls (k : Nat) (a0 : Bool) (P1_ : Nat → Prop) (u9000_ : Value) (l1 : List Int) (r1 : Bool) (r2 : List Int) (w0 w : World) (hB : Below w0.heap.size w0 w) (ho1 : Kd.R (Kd.int .i64) 3 w w0.heap.size P1_ u9000_ l1) (h : spec_l1make.f k a0 l1 = some (r1, r2)) :
 Calls Try.prog 115 #[.bool a0, u9000_] w fun e w' => ∃ v1_ : Value, e = .returned (.agg #[.bool r1, v1_]) ∧ Kd.R (Kd.int .i64) 3 w' w0.heap.size (fun k_ => (P1_ k_ ∨ w.heap.size ≤ k_)) v1_ r2 ∧ Below w0.heap.size w0 w' ∧ Kept w w' (fun k_ => P1_ k_) := by
 have hu93 := Try.underlying93; have HO1 := AM (show Kd.R (Kd.int .i64) 3 w w0.heap.size (fun k_ => (P1_ k_ ∨ w.heap.size ≤ k_)) u9000_ l1 from Kd.R_mono ho1 (fun k_ hk => (.inl hk))); have HK := AM (Kept.refl w (fun k_ => P1_ k_)); have HW0 := AM hB.size; have HB := AM hB; clear hB
 have H : ((spec_l1trim.f k l1).bind fun t143 => (if a0 = true then (some (decide (0 < t143.length), t143)) else (some (false, t143)))) = some (r1, r2) := h
 clear h
 replace H := Option.bind_eq_some_iff.mp H
 obtain ⟨t143, A30, H⟩ := H
 (try dsimp only at H)
 have A3 := AM A30; clear A30
 by_cases c4 : a0 = true
 · subst c4
   have H1 : (some (decide (0 < t143.length), t143)) = some (r1, r2) := by rw [if_pos rfl] at H; exact H
   clear H; have H := H1; clear H1
   simp only [Option.some.injEq, Prod.mk.injEq] at H
   obtain ⟨rfl, rfl⟩ := H
   go_enter Try.func115, Try.ntmps115
   go_wp2_with (first | ((with_reducible refine gate_dst (N := 4) rfl ?_); (try (refine gate_guard (by rfl) ?_; dsimp only)); refine box_event ?hg (N := 4) ?hd (cs := #[.bool false, .slice none 0 0]) (t := 93) ?hr ?_; (case hd => rfl); (case hg => rfl); (case hr => first | (go_simp; done) | (go_simp; rfl)); intro gb142 hg w5 hbox hb; replace HO1 := AM (Kd.R_below (pR HO1) hb); have BK142 := AM (hbox); have GW142 := AM ((by rw [hg]; exact (by first | exact HK.out.1 | exact (show Kept w _ (fun k_ => P1_ k_) from by repeat (first | (with_reducible first | exact HK.out | apply Kept.alloc | apply Kept.drewN | apply Kept.drew) | exact HK.out)).1) : w.heap.size ≤ gb142)); replace HK := AM (Kept.below (S := (fun k_ => P1_ k_)) (by repeat (first | (with_reducible first | exact HK.out | apply Kept.alloc | apply Kept.drewN | apply Kept.drew) | exact HK.out)) hb); have GE142 := gH HB hg; replace HB := AM (below_step (pH HB) hb); clear hb hbox hg; obtain ⟨Ao6, co6, eo6⟩ := Kd.R_slice HO1.out; subst eo6) | ((with_reducible refine gate_callee (f := 146) rfl ?_); refine goesL_ (some 6) rfl rfl Try.func146 (by kernel_rfl) rfl #[.slice Ao6 l1.length co6] rfl (by (try simp only [List.map_toArray, List.map_cons, List.map_nil]); first | done | rfl | (simp only [List.length_drop, List.length_take]; rfl)) ?_; (with_reducible refine (spec_l1trim.calls k (fun k_ => some k_ = (.slice Ao6 l1.length co6 : Value).ownBlock) (.slice Ao6 l1.length co6) l1 t143 w0 _ ?side1 ?side2 A3.out).mono ?_); (case side1 => exact pH HB); (case side2 => exact Kd.R_tight rfl HO1.out); rintro e w7 ⟨v144, rfl, ho0, hb, hkp⟩; refine ⟨_, rfl, ?_⟩; replace BK142 := AM (blk_kept (pB BK142) hkp (fun hs_ => (fun e_ => (Kd.R_ne HO1.out BK142.out (by decide)) e_) hs_)); have HO145 := AM (Kd.R_mono (ok' := fun k_ => (P1_ k_ ∨ w.heap.size ≤ k_)) ho0 (fun k_ hk_ => Or.elim hk_ (fun hs_ => (HO1.out.1 k_ (hs_).symm)) (fun hn_ => (.inr (Nat.le_trans (by first | exact HK.out.1 | exact (show Kept w _ (fun k_ => P1_ k_) from by repeat (first | (with_reducible first | exact HK.out | apply Kept.alloc | apply Kept.drewN | apply Kept.drew | refine Kept.setCell ?_ (.inr GW142.out) _) | exact HK.out)).1) hn_))))); replace HK := AM (Kept.then_ (S := (fun k_ => P1_ k_)) (by repeat (first | (with_reducible first | exact HK.out | apply Kept.alloc | apply Kept.drewN | apply Kept.drew | refine Kept.setCell ?_ (.inr GW142.out) _) | exact HK.out)) hkp (fun k_ hs_ => (fun e_ => (HO1.out.1 k_ e_.symm)) hs_)); replace HB := AM (hb); clear HO1; (try clear hb); (try clear hkp); (try clear ho0); obtain ⟨Ao8, co8, eo8⟩ := Kd.R_slice HO145.out; subst eo8; have ⟨hcz9_0, hcz9_1, hfz9_0, hfz9_1⟩ := z2 BK142))
   refine bodyPost_ret (results_cell_row rfl _ _ gb142 93 #[.bool (decide (0 < t143.length)), .slice Ao8 t143.length co8] (0, 0) _ rfl (by refine sB ?_; refine blk_put (cs := #[.bool (decide (0 < t143.length)), .slice none 0 0]) ?_ 1 _ rfl; refine sB ?_; refine blk_put (cs := #[.bool false, .slice none 0 0]) ?_ 0 _ rfl; refine sB ?_; exact BK142.out) Try.underlying93 rfl (by kernel_rfl)) rfl ?_
   exact ⟨_, by first | rfl | (simp [errW_none, errW_some] <;> rfl) | (simp [*, errW_none, errW_some] <;> rfl), by (with_reducible repeat (first | apply Kd.R_alloc | apply Kd.R_drewN | apply Kd.R_drew)); exact Kd.R_mono (Kd.R_far (p := ⟨gb142, 1, none⟩) (Kd.R_far (p := ⟨gb142, 0, none⟩) (Kd.R_types HO145.out BK142.out (by decide)) (fun _ hk => hk.2) (.bool (decide (0 < t143.length)))) (fun _ hk => hk.2) (.slice Ao8 t143.length co8)) (fun _ hk => hk.1), pH HB, by repeat (first | (with_reducible first | exact HK.out | apply Kept.alloc | apply Kept.drewN | apply Kept.drew | refine Kept.setCell ?_ (.inr GW142.out) _) | exact HK.out)⟩
 replace c4 := Bool.eq_false_iff.mpr c4
 subst c4
 have H1 : (some (false, t143)) = some (r1, r2) := by rw [if_neg (show ¬ (false = true) by decide)] at H; exact H
 clear H; have H := H1; clear H1
 simp only [Option.some.injEq, Prod.mk.injEq] at H
 obtain ⟨rfl, rfl⟩ := H
 go_enter Try.func115, Try.ntmps115
 go_wp2_with (first | ((with_reducible refine gate_dst (N := 4) rfl ?_); (try (refine gate_guard (by rfl) ?_; dsimp only)); refine box_event ?hg (N := 4) ?hd (cs := #[.bool false, .slice none 0 0]) (t := 93) ?hr ?_; (case hd => rfl); (case hg => rfl); (case hr => first | (go_simp; done) | (go_simp; rfl)); intro gb142 hg w10 hbox hb; replace HO1 := AM (Kd.R_below (pR HO1) hb); have BK142 := AM (hbox); have GW142 := AM ((by rw [hg]; exact (by first | exact HK.out.1 | exact (show Kept w _ (fun k_ => P1_ k_) from by repeat (first | (with_reducible first | exact HK.out | apply Kept.alloc | apply Kept.drewN | apply Kept.drew) | exact HK.out)).1) : w.heap.size ≤ gb142)); replace HK := AM (Kept.below (S := (fun k_ => P1_ k_)) (by repeat (first | (with_reducible first | exact HK.out | apply Kept.alloc | apply Kept.drewN | apply Kept.drew) | exact HK.out)) hb); have GE142 := gH HB hg; replace HB := AM (below_step (pH HB) hb); clear hb hbox hg; obtain ⟨Ao11, co11, eo11⟩ := Kd.R_slice HO1.out; subst eo11) | ((with_reducible refine gate_callee (f := 146) rfl ?_); refine goesL_ (some 6) rfl rfl Try.func146 (by kernel_rfl) rfl #[.slice Ao11 l1.length co11] rfl (by (try simp only [List.map_toArray, List.map_cons, List.map_nil]); first | done | rfl | (simp only [List.length_drop, List.length_take]; rfl)) ?_; (with_reducible refine (spec_l1trim.calls k (fun k_ => some k_ = (.slice Ao11 l1.length co11 : Value).ownBlock) (.slice Ao11 l1.length co11) l1 t143 w0 _ ?side1 ?side2 A3.out).mono ?_); (case side1 => exact pH HB); (case side2 => exact Kd.R_tight rfl HO1.out); rintro e w12 ⟨v144, rfl, ho0, hb, hkp⟩; refine ⟨_, rfl, ?_⟩; replace BK142 := AM (blk_kept (pB BK142) hkp (fun hs_ => (fun e_ => (Kd.R_ne HO1.out BK142.out (by decide)) e_) hs_)); have HO145 := AM (Kd.R_mono (ok' := fun k_ => (P1_ k_ ∨ w.heap.size ≤ k_)) ho0 (fun k_ hk_ => Or.elim hk_ (fun hs_ => (HO1.out.1 k_ (hs_).symm)) (fun hn_ => (.inr (Nat.le_trans (by first | exact HK.out.1 | exact (show Kept w _ (fun k_ => P1_ k_) from by repeat (first | (with_reducible first | exact HK.out | apply Kept.alloc | apply Kept.drewN | apply Kept.drew | refine Kept.setCell ?_ (.inr GW142.out) _) | exact HK.out)).1) hn_))))); replace HK := AM (Kept.then_ (S := (fun k_ => P1_ k_)) (by repeat (first | (with_reducible first | exact HK.out | apply Kept.alloc | apply Kept.drewN | apply Kept.drew | refine Kept.setCell ?_ (.inr GW142.out) _) | exact HK.out)) hkp (fun k_ hs_ => (fun e_ => (HO1.out.1 k_ e_.symm)) hs_)); replace HB := AM (hb); clear HO1; (try clear hb); (try clear hkp); (try clear ho0); obtain ⟨Ao13, co13, eo13⟩ := Kd.R_slice HO145.out; subst eo13; have ⟨hcz14_0, hcz14_1, hfz14_0, hfz14_1⟩ := z2 BK142))
 refine bodyPost_ret (results_cell_row rfl _ _ gb142 93 #[.bool false, .slice Ao13 t143.length co13] (0, 0) _ rfl (by refine sB ?_; refine blk_put (cs := #[.bool false, .slice none 0 0]) ?_ 1 _ rfl; refine sB ?_; refine blk_put (cs := #[.bool false, .slice none 0 0]) ?_ 0 _ rfl; refine sB ?_; exact BK142.out) Try.underlying93 rfl (by kernel_rfl)) rfl ?_
 exact ⟨_, by first | rfl | (simp [errW_none, errW_some] <;> rfl) | (simp [*, errW_none, errW_some] <;> rfl), by (with_reducible repeat (first | apply Kd.R_alloc | apply Kd.R_drewN | apply Kd.R_drew)); exact Kd.R_mono (Kd.R_far (p := ⟨gb142, 1, none⟩) (Kd.R_far (p := ⟨gb142, 0, none⟩) (Kd.R_types HO145.out BK142.out (by decide)) (fun _ hk => hk.2) (.bool false)) (fun _ hk => hk.2) (.slice Ao13 t143.length co13)) (fun _ hk => hk.1), pH HB, by repeat (first | (with_reducible first | exact HK.out | apply Kept.alloc | apply Kept.drewN | apply Kept.drew | refine Kept.setCell ?_ (.inr GW142.out) _) | exact HK.out)⟩

/-! ### spec_l1down: function 155 -/
mutual
def spec_l1down.j1 : Nat → Int → Bool → Bool → List Int → Option (Bool × List Int × Bool)
 | 0, _, _, _, _ => none
 | k + 1, x1, x6, x147000, x147001 => if (wrap64 (Int.tdiv x1 16)) ≥ (x147001.length : Int) then (some (false, ([] : List Int), x6)) else (spec_l1down.l1 k x1 x6 ([] : List Int) (wrap64 (Int.tdiv x1 16)) x147000 x147001)
def spec_l1down.l1 : Nat → Int → Bool → List Int → Int → Bool → List Int → Option (Bool × List Int × Bool)
 | 0, _, _, _, _, _, _ => none
 | k + 1, x1, x6, x8, x9, x147000, x147001 => if x9 < (x147001.length : Int) then (if 0 ≤ x9 then (if 0 ≤ (IntKind.u64.wrap (Int.tmod x1 16)) then (if (wrap64 (x9 + 1)) < (x147001.length : Int) then (if 0 ≤ (wrap64 (x9 + 1)) then (if 0 ≤ (IntKind.u64.wrap (wrap64 (16 - (Int.tmod x1 16)))) then (if x8.length < 17592186044416 then (spec_l1down.l1 k x1 x6 (x8 ++ [Int.tmod (wrap64 ((shr .i64 (rd x147001 x9) (IntKind.u64.wrap (Int.tmod x1 16))) + (Int.tmod (shl .i64 (rd x147001 (wrap64 (x9 + 1))) (IntKind.u64.wrap (wrap64 (16 - (Int.tmod x1 16))))) 65536))) 65536]) (wrap64 (x9 + 1)) x147000 x147001) else (none)) else (none)) else (none)) else (if x8.length < 17592186044416 then (spec_l1down.l1 k x1 x6 (x8 ++ [Int.tmod (shr .i64 (rd x147001 x9) (IntKind.u64.wrap (Int.tmod x1 16))) 65536]) (wrap64 (x9 + 1)) x147000 x147001) else (none))) else (none)) else (none)) else (if x6 = true then ((spec_l1make.f k x147000 x8).bind fun bt157 => (some (bt157.1, bt157.2, true))) else (if 0 ≤ (wrap64 (Int.tdiv x1 16)) then (if (wrap64 (Int.tdiv x1 16)) < (x147001.length : Int) then (if 0 ≤ (IntKind.u64.wrap (Int.tmod x1 16)) then (if (shl .i64 1 (IntKind.u64.wrap (Int.tmod x1 16))) = 0 then (none) else ((spec_l1make.f k x147000 x8).bind fun bt162 => (some (bt162.1, bt162.2, ((Int.tmod (rd x147001 (wrap64 (Int.tdiv x1 16))) (shl .i64 1 (IntKind.u64.wrap (Int.tmod x1 16)))) != 0))))) else (none)) else (none)) else (none)))
def spec_l1down.l0 : Nat → Int → Bool → Int → Bool → List Int → Option (Bool × List Int × Bool)
 | 0, _, _, _, _, _ => none
 | k + 1, x1, x6, x7, x147000, x147001 => if x7 < (wrap64 (Int.tdiv x1 16)) then (if x7 < (x147001.length : Int) then (if x6 = true then (spec_l1down.l0 k x1 true (wrap64 (x7 + 1)) x147000 x147001) else (if 0 ≤ x7 then (spec_l1down.l0 k x1 ((rd x147001 x7) != 0) (wrap64 (x7 + 1)) x147000 x147001) else (none))) else (spec_l1down.j1 k x1 x6 x147000 x147001)) else (spec_l1down.j1 k x1 x6 x147000 x147001)
end
def spec_l1down.f (k : Nat) (a0_0 : Bool) (l0_1 : List Int) (a1 : Int) : Option (Bool × List Int × Bool) := spec_l1down.l0 k a1 false 0 a0_0 l0_1
theorem spec_l1down.mono_l : ∀ k, (∀ y0 y1 y2 y3, LeO (spec_l1down.j1 k y0 y1 y2 y3) (spec_l1down.j1 (k + 1) y0 y1 y2 y3)) ∧ (∀ y0 y1 y2 y3 y4 y5, LeO (spec_l1down.l1 k y0 y1 y2 y3 y4 y5) (spec_l1down.l1 (k + 1) y0 y1 y2 y3 y4 y5)) ∧ (∀ y0 y1 y2 y3 y4, LeO (spec_l1down.l0 k y0 y1 y2 y3 y4) (spec_l1down.l0 (k + 1) y0 y1 y2 y3 y4))
 | 0 => ⟨fun _ _ _ _ r h => by simp [spec_l1down.j1] at h, fun _ _ _ _ _ _ r h => by simp [spec_l1down.l1] at h, fun _ _ _ _ _ r h => by simp [spec_l1down.l0] at h⟩
 | k + 1 => by
  obtain ⟨ih0, ih1, ih2⟩ := spec_l1down.mono_l k
  refine ⟨?_, ?_, ?_⟩
  · intro y0 y1 y2 y3
    unfold spec_l1down.j1
    repeat' with_reducible first | exact ih0 _ _ _ _ | exact ih1 _ _ _ _ _ _ | exact ih2 _ _ _ _ _ | exact spec_l1make.mono _ _ _ | exact LeO.refl _ | exact LeO.none _ | refine LeO.ite ?_ ?_ | refine LeO.bind ?_ (fun _ => ?_)
  · intro y0 y1 y2 y3 y4 y5
    unfold spec_l1down.l1
    repeat' with_reducible first | exact ih0 _ _ _ _ | exact ih1 _ _ _ _ _ _ | exact ih2 _ _ _ _ _ | exact spec_l1make.mono _ _ _ | exact LeO.refl _ | exact LeO.none _ | refine LeO.ite ?_ ?_ | refine LeO.bind ?_ (fun _ => ?_)
  intro y0 y1 y2 y3 y4
  unfold spec_l1down.l0
  repeat' with_reducible first | exact ih0 _ _ _ _ | exact ih1 _ _ _ _ _ _ | exact ih2 _ _ _ _ _ | exact spec_l1make.mono _ _ _ | exact LeO.refl _ | exact LeO.none _ | refine LeO.ite ?_ ?_ | refine LeO.bind ?_ (fun _ => ?_)
theorem spec_l1down.mono : ∀ a0 a1 a2 k, LeO (spec_l1down.f k a0 a1 a2) (spec_l1down.f (k + 1) a0 a1 a2) := by
 intro a0 a1 a2 k
 obtain ⟨ih0, ih1, ih2⟩ := spec_l1down.mono_l k
 unfold spec_l1down.f
 repeat' with_reducible first | exact ih0 _ _ _ _ | exact ih1 _ _ _ _ _ _ | exact ih2 _ _ _ _ _ | exact spec_l1make.mono _ _ _ | exact LeO.refl _ | exact LeO.none _ | refine LeO.ite ?_ ?_ | refine LeO.bind ?_ (fun _ => ?_)
set_option maxHeartbeats 8000000 in
set_option maxRecDepth 100000 in
theorem spec_l1down.calls (k : Nat) (a0_0 : Bool) (A0_1 : Option Addr) (c0_1 : Nat) (l0_1 : List Int) (a1 : Int) (r1 : Bool) (r2 : List Int) (r3 : Bool) (w : World) (hr0_1 : Kd.C (Kd.int .i64) w A0_1 l0_1.length l0_1) (hc0_1 : l0_1.length ≤ c0_1) (h : spec_l1down.f k a0_0 l0_1 a1 = some (r1, r2, r3)) :
 Calls Try.prog 155 #[.agg #[.bool a0_0, .slice A0_1 l0_1.length c0_1], .int .i64 a1] w fun e w' => ∃ v1_ : Value, e = .returned (.tuple #[.agg #[.bool r1, v1_], .bool r3]) ∧ Kd.R (Kd.int .i64) 3 w' w.heap.size (fun _ => True) v1_ r2 ∧ Below w.heap.size w w' := by
 have hu93 := Try.underlying93; have HR0_1 := AM hr0_1; have HC0_1 := AM hc0_1; clear hr0_1 hc0_1; have HB := AM (Below.refl w.heap.size w)
 have H : (spec_l1down.l0 k a1 false 0 a0_0 l0_1) = some (r1, r2, r3) := h
 clear h; have HC3 := AM H; clear H
 go_enter Try.func155, Try.ntmps155
 go_upto_block 0 with (first | ((with_reducible refine gate_dst (N := 2) rfl ?_); (try (refine gate_guard (by rfl) ?_; dsimp only)); refine box_event ?hg (N := 2) ?hd (cs := #[.bool a0_0, .slice A0_1 l0_1.length c0_1]) (t := 93) ?hr ?_; (case hd => rfl); (case hg => rfl); (case hr => first | (go_simp; done) | (go_simp; rfl)); intro gb146 hg w4 hbox hb; have BK146 := AM (hbox); have GW146 := gH HB hg; have GE146 := gH HB hg; replace HB := AM (below_step (pH HB) hb); clear hb hbox hg) | ((with_reducible refine gate_dst (N := 4) rfl ?_); (try (refine gate_guard (by rfl) ?_; dsimp only)); refine box_event ?hg (N := 4) ?hd (cs := #[.bool false, .slice none 0 0]) (t := 93) ?hr ?_; (case hd => rfl); (case hg => rfl); (case hr => first | (go_simp; done) | (go_simp; rfl)); intro gb147 hg w5 hbox hb; have BK147 := AM (hbox); have GW147 := gH HB hg; have GE147 := gH HB hg; replace HB := AM (below_step (pH HB) hb); have NB146_147 := nL BK146 hg; have NB147_146 := nG BK146 hg; replace BK146 := bB BK146 hb; clear hb hbox hg))
 (try simp only [Act.put, List.setIfInBounds_toArray, List.set_cons_zero, List.set_cons_succ])
 go_cut [6] (fun v6 wc => ∃ (kq : Nat) (x6_2 : Bool), v6 = .bool x6_2 ∧ Aside0 (spec_l1down.j1 kq a1 x6_2 a0_0 l0_1 = some (r1, r2, r3)) ∧ Aside0 (kq ≤ k) ∧ Aside0 (wc.heap[gb146]? = some (.cells #[.bool a0_0, (.slice A0_1 l0_1.length c0_1)] 93 (0, 0))) ∧ Aside0 (wc.heap[gb147]? = some (.cells #[.bool false, (.slice none 0 0)] 93 (0, 0))) ∧ Aside0 (Below w.heap.size w wc))
 case first =>
  have H := HC3.out; clear HC3
  have H' := AM H
  clear H
  go_wp2
  go_loopg [6, 7] k (fun kq v6 v7 w' => ∃ (x6_1 : Bool) (x7_1 : Int), v6 = .bool x6_1 ∧ v7 = .int .i64 x7_1 ∧ Aside0 (spec_l1down.l0 kq a1 x6_1 x7_1 a0_0 l0_1 = some (r1, r2, r3)) ∧ Aside0 (kq ≤ k) ∧ Aside0 (w'.heap[gb146]? = some (.cells #[.bool a0_0, (.slice A0_1 l0_1.length c0_1)] 93 (0, 0))) ∧ Aside0 (w'.heap[gb147]? = some (.cells #[.bool false, (.slice none 0 0)] 93 (0, 0))) ∧ Aside0 (Below w.heap.size w w'))
  case atStart => exact ⟨(false), (0), (by first | rfl | (simp; done) | (simp [*]; done)), (by first | rfl | (simp; done) | (simp [*]; done)), H', ⟨Nat.le_refl _⟩, ⟨by refine sB ?_; exact BK146.out⟩, ⟨by refine sB ?_; exact BK147.out⟩, ⟨pH HB⟩⟩
  case round =>
   clear H'
   try clear c1
   try clear p2
   obtain ⟨x6_1, x7_1, rfl, rfl, HA, HK1, BK146, BK147, HB⟩ := hrel
   cases gk with
   | zero => exact absurd HA.out (by simp [spec_l1down.l0])
   | succ k1 =>
    have H := HA.out; clear HA
    simp only [spec_l1down.l0] at H
    by_cases c6 : x7_1 < (wrap64 (Int.tdiv a1 16))
    rotate_left
    · rw [if_neg c6] at H
      have c6b0 : decide (x7_1 < (wrap64 (Int.tdiv a1 16))) = false := decide_eq_false c6
      clear c6
      (first | rw [c6b0] | (simp only [i64_w, i32_w]; rw [c6b0]) | skip)
      have H' := AM H
      clear H
      go_wp2
      go_meet
      case rel => exact ⟨_, (x6_1), (by first | rfl | (simp; done) | (simp [*]; done)), H', ⟨by have := HK1.out; first | omega | exact Nat.le_refl _⟩, ⟨by refine sB ?_; exact BK146.out⟩, ⟨by refine sB ?_; exact BK147.out⟩, ⟨pH HB⟩⟩
    rw [if_pos c6] at H
    have c6b0 : decide (x7_1 < (wrap64 (Int.tdiv a1 16))) = true := decide_eq_true c6
    clear c6
    (first | rw [c6b0] | (simp only [i64_w, i32_w]; rw [c6b0]) | skip)
    by_cases c7 : x7_1 < (l0_1.length : Int)
    rotate_left
    · rw [if_neg c7] at H
      have c7b0 : decide (x7_1 < (l0_1.length : Int)) = false := decide_eq_false c7
      clear c7
      have H' := AM H
      clear H; have hnb14 := NB146_147.out; have hnc14 := NB147_146.out
      have hcz15_0 : wr.cell? ⟨gb146, 0, none⟩ = some (.bool a0_0) := (blk_cell BK146.out 0).trans rfl
      have hcz15_1 : wr.cell? ⟨gb146, 1, none⟩ = some (.slice A0_1 l0_1.length c0_1) := (blk_cell BK146.out 1).trans rfl
      have hfz15_0 := blk_frozen BK146.out 0; have hfz15_1 := blk_frozen BK146.out 1
      go_wp2
      go_meet
      case rel => exact ⟨_, (x6_1), (by first | rfl | (simp; done) | (simp [*]; done)), H', ⟨by have := HK1.out; first | omega | exact Nat.le_refl _⟩, ⟨by refine sB ?_; exact BK146.out⟩, ⟨by refine sB ?_; exact BK147.out⟩, ⟨pH HB⟩⟩
    rw [if_pos c7] at H
    have c7b0 : decide (x7_1 < (l0_1.length : Int)) = true := decide_eq_true c7
    clear c7
    by_cases c8 : x6_1 = true
    · subst c8
      have H1 : (spec_l1down.l0 k1 a1 true (wrap64 (x7_1 + 1)) a0_0 l0_1) = some (r1, r2, r3) := by rw [if_pos rfl] at H; exact H
      clear H; have H := H1; clear H1
      have H' := AM H
      clear H; have hnb9 := NB146_147.out; have hnc9 := NB147_146.out
      have hcz10_0 : wr.cell? ⟨gb146, 0, none⟩ = some (.bool a0_0) := (blk_cell BK146.out 0).trans rfl
      have hcz10_1 : wr.cell? ⟨gb146, 1, none⟩ = some (.slice A0_1 l0_1.length c0_1) := (blk_cell BK146.out 1).trans rfl
      have hfz10_0 := blk_frozen BK146.out 0; have hfz10_1 := blk_frozen BK146.out 1
      go_wp2
      go_roundg k1
      case measure => have := HK1.out; omega
      case rel => exact ⟨(true), (wrap64 (x7_1 + 1)), (by first | rfl | (simp; done) | (simp [*]; done)), (by first | rfl | (simp; done) | (simp [*]; done)), H', ⟨by have := HK1.out; omega⟩, ⟨by refine sB ?_; exact BK146.out⟩, ⟨by refine sB ?_; exact BK147.out⟩, ⟨pH HB⟩⟩
    replace c8 := Bool.eq_false_iff.mpr c8
    subst c8
    have H1 : (if 0 ≤ x7_1 then (spec_l1down.l0 k1 a1 ((rd l0_1 x7_1) != 0) (wrap64 (x7_1 + 1)) a0_0 l0_1) else (none)) = some (r1, r2, r3) := by rw [if_neg (show ¬ (false = true) by decide)] at H; exact H
    clear H; have H := H1; clear H1
    by_cases c11 : 0 ≤ x7_1
    rotate_left
    · rw [if_neg c11] at H
      exact absurd H (by simp)
    rw [if_pos c11] at H
    have c11b0 : decide (0 ≤ x7_1) = true := decide_eq_true c11
    clear c11
    have H' := AM H
    clear H; have hnb12 := NB146_147.out; have hnc12 := NB147_146.out
    have hcz13_0 : wr.cell? ⟨gb146, 0, none⟩ = some (.bool a0_0) := (blk_cell BK146.out 0).trans rfl
    have hcz13_1 : wr.cell? ⟨gb146, 1, none⟩ = some (.slice A0_1 l0_1.length c0_1) := (blk_cell BK146.out 1).trans rfl
    have hfz13_0 := blk_frozen BK146.out 0; have hfz13_1 := blk_frozen BK146.out 1
    have p148 : 0 ≤ (x7_1 : Int) := of_decide_eq_true (by first | (with_reducible assumption) | assumption)
    have q148 : x7_1 < (l0_1.length : Int) := of_decide_eq_true (by first | (with_reducible assumption) | assumption)
    obtain ⟨ad148, e148, hx148_0⟩ := Kd.at_int HR0_1.out x7_1 p148 q148
    cases e148
    replace hx148_0 := (HB.out.cell (World.block_lt_of_cell? w _ hx148_0)).trans hx148_0; replace p148 := eq_true p148; replace q148 := eq_true q148
    go_wp2
    go_roundg k1
    case measure => have := HK1.out; omega
    case rel => exact ⟨(((rd l0_1 x7_1) != 0)), (wrap64 (x7_1 + 1)), (by first | rfl | (simp; done) | (simp [*]; done)), (by first | rfl | (simp; done) | (simp [*]; done)), H', ⟨by have := HK1.out; omega⟩, ⟨by refine sB ?_; exact BK146.out⟩, ⟨by refine sB ?_; exact BK147.out⟩, ⟨pH HB⟩⟩
 case rest =>
  clear HC3
  try clear c1
  try clear p1
  try clear q1
  try clear hx1
  try clear p2
  try clear c6
  try clear c6b0
  try clear p6
  try clear c7
  try clear c7b0
  try clear c8
  try clear c9
  try clear c11
  try clear c11b0
  try clear c12
  try clear c14
  try clear p14
  try clear q14
  try clear hx14
  try clear c15
  try clear hcz10_0
  try clear hcz10_1
  try clear hcz13_0
  try clear hcz13_1
  try clear hcz15_0
  try clear hcz15_1
  try clear hfz10_0
  try clear hfz10_1
  try clear hfz13_0
  try clear hfz13_1
  try clear hfz15_0
  try clear hfz15_1
  try clear hx148_0
  try clear p148
  try clear p2
  try clear q148
  obtain ⟨kq, x6_2, rfl, HA, HJ2, BK146, BK147, HB⟩ := hcut
  cases kq with
  | zero => exact absurd HA.out (by simp [spec_l1down.j1])
  | succ kj2 =>
   have H := HA.out; clear HA
   simp only [spec_l1down.j1] at H
   by_cases c16 : (wrap64 (Int.tdiv a1 16)) ≥ (l0_1.length : Int)
   · rw [if_pos c16] at H
     have c16b0 : decide ((l0_1.length : Int) ≤ (wrap64 (Int.tdiv a1 16))) = true := decide_eq_true c16
     clear c16
     simp only [Option.some.injEq, Prod.mk.injEq] at H
     obtain ⟨rfl, rfl, rfl⟩ := H
     have hnb17 := NB146_147.out; have hnc17 := NB147_146.out
     have hcz18_0 : wc.cell? ⟨gb146, 0, none⟩ = some (.bool a0_0) := (blk_cell BK146.out 0).trans rfl
     have hcz18_1 : wc.cell? ⟨gb146, 1, none⟩ = some (.slice A0_1 l0_1.length c0_1) := (blk_cell BK146.out 1).trans rfl
     have hfz18_0 := blk_frozen BK146.out 0; have hfz18_1 := blk_frozen BK146.out 1
     have hcz19_0 : wc.cell? ⟨gb147, 0, none⟩ = some (.bool false) := (blk_cell BK147.out 0).trans rfl
     have hcz19_1 : wc.cell? ⟨gb147, 1, none⟩ = some (.slice none 0 0) := (blk_cell BK147.out 1).trans rfl
     have hfz19_0 := blk_frozen BK147.out 0; have hfz19_1 := blk_frozen BK147.out 1
     go_wp2
     refine bodyPost_ret (results_ct rfl _ _ gb147 93 #[.bool false, .slice none 0 0] (0, 0) _ rfl (by refine sB ?_; refine blk_put (cs := #[.bool false, .slice none 0 0]) ?_ 1 _ rfl; refine sB ?_; refine blk_put (cs := #[.bool false, .slice none 0 0]) ?_ 0 _ rfl; refine sB ?_; exact BK147.out) Try.underlying93 rfl (by kernel_rfl)) rfl ?_
     exact ⟨_, by first | rfl | (simp [errW_none, errW_some] <;> rfl) | (simp [*, errW_none, errW_some] <;> rfl), by first | exact Kd.R_nil _ _ _ _ _ | exact Kd.N_nil _ _ _ _ _ | exact Kd.V_nil _ _ _ _ _ | exact Kd.Q_nil _ _ _ _ _ | exact Kd.S_nil _ _ _ _ _, pH HB⟩
   rw [if_neg c16] at H
   have c16b0 : decide ((l0_1.length : Int) ≤ (wrap64 (Int.tdiv a1 16))) = false := decide_eq_false c16
   clear c16
   have H' := AM H
   clear H; have hnb20 := NB146_147.out; have hnc20 := NB147_146.out
   have hcz21_0 : wc.cell? ⟨gb146, 0, none⟩ = some (.bool a0_0) := (blk_cell BK146.out 0).trans rfl
   have hcz21_1 : wc.cell? ⟨gb146, 1, none⟩ = some (.slice A0_1 l0_1.length c0_1) := (blk_cell BK146.out 1).trans rfl
   have hfz21_0 := blk_frozen BK146.out 0; have hfz21_1 := blk_frozen BK146.out 1
   go_wp2
   go_loopg [8, 9] kj2 (fun kq v8 v9 w' => ∃ (x8_2 : List Int) (x9_2 : Int), v9 = .int .i64 x9_2 ∧ Aside0 (spec_l1down.l1 kq a1 x6_2 x8_2 x9_2 a0_0 l0_1 = some (r1, r2, r3)) ∧ Aside0 (kq ≤ kj2) ∧ Aside0 (Kd.R (Kd.int .i64) 3 w' w.heap.size (fun _ => True) v8 x8_2) ∧ Aside0 (w'.heap[gb146]? = some (.cells #[.bool a0_0, (.slice A0_1 l0_1.length c0_1)] 93 (0, 0))) ∧ Aside0 (w'.heap[gb147]? = some (.cells #[.bool false, (.slice none 0 0)] 93 (0, 0))) ∧ Aside0 (Below w.heap.size w w'))
   case atStart => exact ⟨(([] : List Int)), (wrap64 (Int.tdiv a1 16)), (by first | rfl | (simp; done) | (simp [*]; done)), H', ⟨Nat.le_refl _⟩, ⟨by first | exact Kd.R_nil _ _ _ _ _ | exact Kd.N_nil _ _ _ _ _ | exact Kd.V_nil _ _ _ _ _ | exact Kd.Q_nil _ _ _ _ _ | exact Kd.S_nil _ _ _ _ _⟩, ⟨by refine sB ?_; exact BK146.out⟩, ⟨by refine sB ?_; exact BK147.out⟩, ⟨pH HB⟩⟩
   case round =>
    clear H'
    try clear c1
    try clear p1
    try clear q1
    try clear hx1
    try clear c2
    try clear p2
    try clear c6
    try clear c6b0
    try clear p6
    try clear c7
    try clear c7b0
    try clear c8
    try clear c9
    try clear c11
    try clear c11b0
    try clear c12
    try clear c14
    try clear p14
    try clear q14
    try clear hx14
    try clear c15
    try clear c16
    try clear c16b0
    try clear c17
    try clear c20
    try clear hcz10_0
    try clear hcz10_1
    try clear hcz13_0
    try clear hcz13_1
    try clear hcz15_0
    try clear hcz15_1
    try clear hcz18_0
    try clear hcz18_1
    try clear hcz19_0
    try clear hcz19_1
    try clear hcz21_0
    try clear hcz21_1
    try clear hfz10_0
    try clear hfz10_1
    try clear hfz13_0
    try clear hfz13_1
    try clear hfz15_0
    try clear hfz15_1
    try clear hfz18_0
    try clear hfz18_1
    try clear hfz19_0
    try clear hfz19_1
    try clear hfz21_0
    try clear hfz21_1
    try clear hx148_0
    try clear p1
    try clear p14
    try clear p148
    try clear p2
    try clear p6
    try clear q1
    try clear q14
    try clear q148
    obtain ⟨x8_2, x9_2, rfl, HA, HK2, HO_8, BK146, BK147, HB⟩ := hrel
    cases gk with
    | zero => exact absurd HA.out (by simp [spec_l1down.l1])
    | succ k2 =>
     have H := HA.out; clear HA
     simp only [spec_l1down.l1] at H
     by_cases c22 : x9_2 < (l0_1.length : Int)
     rotate_left
     · rw [if_neg c22] at H
       have c22b0 : decide (x9_2 < (l0_1.length : Int)) = false := decide_eq_false c22
       clear c22
       by_cases c41 : x6_2 = true
       · subst c41
         have H1 : ((spec_l1make.f k2 a0_0 x8_2).bind fun bt157 => (some (bt157.1, bt157.2, true))) = some (r1, r2, r3) := by rw [if_pos rfl] at H; exact H
         clear H; have H := H1; clear H1
         replace H := Option.bind_eq_some_iff.mp H
         obtain ⟨⟨t157, t158⟩, A420, H⟩ := H
         (try dsimp only at H)
         have A42 := AM A420; clear A420
         simp only [Option.some.injEq, Prod.mk.injEq] at H
         obtain ⟨rfl, rfl, rfl⟩ := H
         have hnb43 := NB146_147.out; have hnc43 := NB147_146.out
         have hcz44_0 : wr.cell? ⟨gb146, 0, none⟩ = some (.bool a0_0) := (blk_cell BK146.out 0).trans rfl
         have hcz44_1 : wr.cell? ⟨gb146, 1, none⟩ = some (.slice A0_1 l0_1.length c0_1) := (blk_cell BK146.out 1).trans rfl
         have hfz44_0 := blk_frozen BK146.out 0; have hfz44_1 := blk_frozen BK146.out 1
         obtain ⟨Ao45, co45, eo45⟩ := Kd.R_slice HO_8.out
         subst eo45
         go_wp2_with (first | ((with_reducible refine gate_callee (f := 115) rfl ?_); refine goesL_ (some 102) rfl rfl Try.func115 (by kernel_rfl) rfl #[.bool a0_0, .slice Ao45 x8_2.length co45] rfl (by (try simp only [List.map_toArray, List.map_cons, List.map_nil]); first | done | rfl | (simp only [List.length_drop, List.length_take]; rfl)) ?_; (with_reducible refine (spec_l1make.calls k2 a0_0 (fun k_ => some k_ = (.slice Ao45 x8_2.length co45 : Value).ownBlock) (.slice Ao45 x8_2.length co45) x8_2 t157 t158 w _ ?side1 ?side2 A42.out).mono ?_); (case side1 => exact pH HB); (case side2 => exact Kd.R_tight rfl HO_8.out); rintro e w46 ⟨v159, rfl, ho0, hb, hkp⟩; refine ⟨_, rfl, ?_⟩; replace BK146 := AM (blk_kept (pB BK146) hkp (fun hs_ => (fun e_ => (Kd.R_ne HO_8.out BK146.out (by decide)) e_) hs_)); replace BK147 := AM (blk_kept (pB BK147) hkp (fun hs_ => (fun e_ => (Kd.R_ne HO_8.out BK147.out (by decide)) e_) hs_)); have HO160 := AM (Kd.R_mono (ok' := fun k_ => True) ho0 (fun k_ hk_ => trivial)); replace HB := AM (hb); clear HO_8; (try clear hb); (try clear hkp); (try clear ho0); have ⟨hcz47_0, hcz47_1, hfz47_0, hfz47_1⟩ := z2 BK147; obtain ⟨Ao48, co48, eo48⟩ := Kd.R_slice HO160.out; subst eo48))
         refine bodyPost_ret (results_ct rfl _ _ gb147 93 #[.bool t157, .slice Ao48 t158.length co48] (0, 0) _ rfl (by refine sB ?_; refine blk_put (cs := #[.bool t157, .slice none 0 0]) ?_ 1 _ rfl; refine sB ?_; refine blk_put (cs := #[.bool false, .slice none 0 0]) ?_ 0 _ rfl; refine sB ?_; exact BK147.out) Try.underlying93 rfl (by kernel_rfl)) rfl ?_
         exact ⟨_, by first | rfl | (simp [errW_none, errW_some] <;> rfl) | (simp [*, errW_none, errW_some] <;> rfl), by (with_reducible repeat (first | apply Kd.R_alloc | apply Kd.R_drewN | apply Kd.R_drew)); exact Kd.R_mono (Kd.R_far (p := ⟨gb147, 1, none⟩) (Kd.R_far (p := ⟨gb147, 0, none⟩) (Kd.R_types HO160.out BK147.out (by decide)) (fun _ hk => hk.2) (.bool t157)) (fun _ hk => hk.2) (.slice Ao48 t158.length co48)) (fun _ hk => trivial), pH HB⟩
       replace c41 := Bool.eq_false_iff.mpr c41
       subst c41
       have H1 : (if 0 ≤ (wrap64 (Int.tdiv a1 16)) then (if (wrap64 (Int.tdiv a1 16)) < (l0_1.length : Int) then (if 0 ≤ (IntKind.u64.wrap (Int.tmod a1 16)) then (if (shl .i64 1 (IntKind.u64.wrap (Int.tmod a1 16))) = 0 then (none) else ((spec_l1make.f k2 a0_0 x8_2).bind fun bt162 => (some (bt162.1, bt162.2, ((Int.tmod (rd l0_1 (wrap64 (Int.tdiv a1 16))) (shl .i64 1 (IntKind.u64.wrap (Int.tmod a1 16)))) != 0))))) else (none)) else (none)) else (none)) = some (r1, r2, r3) := by rw [if_neg (show ¬ (false = true) by decide)] at H; exact H
       clear H; have H := H1; clear H1
       obtain ⟨ji49, hji49⟩ : ∃ j_ : Int, (wrap64 (Int.tdiv a1 16)) = j_ := ⟨_, rfl⟩
       replace H : (if 0 ≤ (ji49) then (if (ji49) < (l0_1.length : Int) then (if 0 ≤ (IntKind.u64.wrap (Int.tmod a1 16)) then (if (shl .i64 1 (IntKind.u64.wrap (Int.tmod a1 16))) = 0 then (none) else ((spec_l1make.f k2 a0_0 x8_2).bind fun bt162 => (some (bt162.1, bt162.2, ((Int.tmod (rd l0_1 (ji49)) (shl .i64 1 (IntKind.u64.wrap (Int.tmod a1 16)))) != 0))))) else (none)) else (none)) else (none)) = some (r1, r2, r3) := by first | (rw [hji49] at H; exact H) | (simp only [hji49] at H ⊢; exact H)
       (try rw [hji49] at c16b0)
       have hji49w : (IntKind.i64.wrap (Int.tdiv a1 16)) = ji49 := (i64_w _).trans hji49
       by_cases c50 : 0 ≤ (ji49)
       rotate_left
       · rw [if_neg c50] at H
         exact absurd H (by simp)

       rw [if_pos c50] at H
       have c50b0 : decide (0 ≤ (ji49)) = true := decide_eq_true c50
       clear c50
       by_cases c51 : (ji49) < (l0_1.length : Int)
       rotate_left
       · rw [if_neg c51] at H
         exact absurd H (by simp)
       rw [if_pos c51] at H
       have c51b0 : decide ((ji49) < (l0_1.length : Int)) = true := decide_eq_true c51
       clear c51
       obtain ⟨ji52, hji52⟩ : ∃ j_ : Int, (IntKind.u64.wrap (Int.tmod a1 16)) = j_ := ⟨_, rfl⟩
       replace H : (if 0 ≤ (ji52) then (if (shl .i64 1 (ji52)) = 0 then (none) else ((spec_l1make.f k2 a0_0 x8_2).bind fun bt162 => (some (bt162.1, bt162.2, ((Int.tmod (rd l0_1 (ji49)) (shl .i64 1 (ji52))) != 0))))) else (none)) = some (r1, r2, r3) := by first | (rw [hji52] at H; exact H) | (simp only [hji52] at H ⊢; exact H)
       by_cases c53 : 0 ≤ (ji52)
       rotate_left
       · rw [if_neg c53] at H
         exact absurd H (by simp)
       rw [if_pos c53] at H
       have c53b0 := eq_true c53
       have c53b1 : decide (0 ≤ (ji52)) = true := decide_eq_true c53
       clear c53
       obtain ⟨ji54, hji54⟩ : ∃ j_ : Int, (shl .i64 1 (ji52)) = j_ := ⟨_, rfl⟩
       replace H : (if (ji54) = 0 then (none) else ((spec_l1make.f k2 a0_0 x8_2).bind fun bt162 => (some (bt162.1, bt162.2, ((Int.tmod (rd l0_1 (ji49)) (ji54)) != 0))))) = some (r1, r2, r3) := by first | (rw [hji54] at H; exact H) | (simp only [hji54] at H ⊢; exact H)
       have hji54_ : (IntKind.i64.wrap (1 * 2 ^ min (ji52).toNat 64)) = ji54 := hji54
       have hji54z : (ji52) ≤ 64 → (IntKind.i64.wrap (1 * 2 ^ (ji52).toNat)) = ji54 := shl_small hji54
       have hji54u : (IntKind.i64.wrap (2 ^ min (ji52).toNat 64)) = ji54 := by have h_ := hji54_; rw [Int.one_mul] at h_; exact h_
       have hji54v : (ji52) ≤ 64 → (IntKind.i64.wrap (2 ^ (ji52).toNat)) = ji54 := fun hle_ => by have h_ := hji54z hle_; rw [Int.one_mul] at h_; exact h_
       have hji54y : (wrap64 (1 * 2 ^ min (ji52).toNat 64)) = ji54 := (i64_w _).symm.trans hji54_
       have hji54x : (ji52) ≤ 64 → (wrap64 (1 * 2 ^ (ji52).toNat)) = ji54 := fun h_ => (i64_w _).symm.trans (hji54z h_)
       by_cases c55 : (ji54) = 0
       · rw [if_pos c55] at H
         exact absurd H (by simp)
       rw [if_neg c55] at H
       have c55b0 : ((ji54) == 0) = false := beq_eq_false_iff_ne.mpr c55
       have c55b1 : ((ji54) != 0) = true := bne_iff_ne.mpr c55
       replace H := Option.bind_eq_some_iff.mp H
       obtain ⟨⟨t162, t163⟩, A560, H⟩ := H
       (try dsimp only at H)
       have A56 := AM A560; clear A560
       simp only [Option.some.injEq, Prod.mk.injEq] at H
       obtain ⟨rfl, rfl, rfl⟩ := H
       have hnb57 := NB146_147.out; have hnc57 := NB147_146.out
       have hcz58_0 : wr.cell? ⟨gb146, 0, none⟩ = some (.bool a0_0) := (blk_cell BK146.out 0).trans rfl
       have hcz58_1 : wr.cell? ⟨gb146, 1, none⟩ = some (.slice A0_1 l0_1.length c0_1) := (blk_cell BK146.out 1).trans rfl
       have hfz58_0 := blk_frozen BK146.out 0; have hfz58_1 := blk_frozen BK146.out 1
       have p161 : 0 ≤ ((ji49) : Int) := of_decide_eq_true (by first | (with_reducible assumption) | assumption)
       have q161 : (ji49) < (l0_1.length : Int) := of_decide_eq_true (by first | (with_reducible assumption) | assumption)
       obtain ⟨ad161, e161, hx161_0⟩ := Kd.at_int HR0_1.out (ji49) p161 q161
       cases e161
       replace hx161_0 := (HB.out.cell (World.block_lt_of_cell? w _ hx161_0)).trans hx161_0; replace p161 := eq_true p161; replace q161 := eq_true q161
       obtain ⟨Ao59, co59, eo59⟩ := Kd.R_slice HO_8.out
       subst eo59
       go_wp2_with (first | ((with_reducible refine gate_callee (f := 115) rfl ?_); refine goesL_ (some 102) rfl rfl Try.func115 (by kernel_rfl) rfl #[.bool a0_0, .slice Ao59 x8_2.length co59] rfl (by (try simp only [List.map_toArray, List.map_cons, List.map_nil]); first | done | rfl | (simp only [List.length_drop, List.length_take]; rfl)) ?_; (with_reducible refine (spec_l1make.calls k2 a0_0 (fun k_ => some k_ = (.slice Ao59 x8_2.length co59 : Value).ownBlock) (.slice Ao59 x8_2.length co59) x8_2 t162 t163 w _ ?side1 ?side2 A56.out).mono ?_); (case side1 => exact pH HB); (case side2 => exact Kd.R_tight rfl HO_8.out); rintro e w60 ⟨v164, rfl, ho0, hb, hkp⟩; refine ⟨_, rfl, ?_⟩; replace BK146 := AM (blk_kept (pB BK146) hkp (fun hs_ => (fun e_ => (Kd.R_ne HO_8.out BK146.out (by decide)) e_) hs_)); replace BK147 := AM (blk_kept (pB BK147) hkp (fun hs_ => (fun e_ => (Kd.R_ne HO_8.out BK147.out (by decide)) e_) hs_)); have HO165 := AM (Kd.R_mono (ok' := fun k_ => True) ho0 (fun k_ hk_ => trivial)); replace HB := AM (hb); clear HO_8; (try clear hb); (try clear hkp); (try clear ho0); have ⟨hcz61_0, hcz61_1, hfz61_0, hfz61_1⟩ := z2 BK147; obtain ⟨Ao62, co62, eo62⟩ := Kd.R_slice HO165.out; subst eo62))
       refine bodyPost_ret (results_ct rfl _ _ gb147 93 #[.bool t162, .slice Ao62 t163.length co62] (0, 0) _ rfl (by refine sB ?_; refine blk_put (cs := #[.bool t162, .slice none 0 0]) ?_ 1 _ rfl; refine sB ?_; refine blk_put (cs := #[.bool false, .slice none 0 0]) ?_ 0 _ rfl; refine sB ?_; exact BK147.out) Try.underlying93 rfl (by kernel_rfl)) rfl ?_
       exact ⟨_, by first | rfl | (simp [errW_none, errW_some] <;> rfl) | (simp only [← hji49, ← hji52, ← hji54]; first | rfl | (simp [errW_none, errW_some] <;> rfl)) | (simp [*, errW_none, errW_some] <;> rfl), by (with_reducible repeat (first | apply Kd.R_alloc | apply Kd.R_drewN | apply Kd.R_drew)); exact Kd.R_mono (Kd.R_far (p := ⟨gb147, 1, none⟩) (Kd.R_far (p := ⟨gb147, 0, none⟩) (Kd.R_types HO165.out BK147.out (by decide)) (fun _ hk => hk.2) (.bool t162)) (fun _ hk => hk.2) (.slice Ao62 t163.length co62)) (fun _ hk => trivial), pH HB⟩
     rw [if_pos c22] at H
     have c22b0 : decide (x9_2 < (l0_1.length : Int)) = true := decide_eq_true c22
     clear c22
     by_cases c23 : 0 ≤ x9_2
     rotate_left
     · rw [if_neg c23] at H
       exact absurd H (by simp)
     rw [if_pos c23] at H
     have c23b0 : decide (0 ≤ x9_2) = true := decide_eq_true c23
     clear c23
     obtain ⟨ji24, hji24⟩ : ∃ j_ : Int, (IntKind.u64.wrap (Int.tmod a1 16)) = j_ := ⟨_, rfl⟩
     replace H : (if 0 ≤ (ji24) then (if (wrap64 (x9_2 + 1)) < (l0_1.length : Int) then (if 0 ≤ (wrap64 (x9_2 + 1)) then (if 0 ≤ (IntKind.u64.wrap (wrap64 (16 - (Int.tmod a1 16)))) then (if x8_2.length < 17592186044416 then (spec_l1down.l1 k2 a1 x6_2 (x8_2 ++ [Int.tmod (wrap64 ((shr .i64 (rd l0_1 x9_2) (ji24)) + (Int.tmod (shl .i64 (rd l0_1 (wrap64 (x9_2 + 1))) (IntKind.u64.wrap (wrap64 (16 - (Int.tmod a1 16))))) 65536))) 65536]) (wrap64 (x9_2 + 1)) a0_0 l0_1) else (none)) else (none)) else (none)) else (if x8_2.length < 17592186044416 then (spec_l1down.l1 k2 a1 x6_2 (x8_2 ++ [Int.tmod (shr .i64 (rd l0_1 x9_2) (ji24)) 65536]) (wrap64 (x9_2 + 1)) a0_0 l0_1) else (none))) else (none)) = some (r1, r2, r3) := by first | (rw [hji24] at H; exact H) | (simp only [hji24] at H ⊢; exact H)
     by_cases c25 : 0 ≤ (ji24)
     rotate_left
     · rw [if_neg c25] at H
       exact absurd H (by simp)
     rw [if_pos c25] at H
     have c25b0 := eq_true c25
     have c25b1 : decide (0 ≤ (ji24)) = true := decide_eq_true c25
     clear c25
     obtain ⟨ji26, hji26⟩ : ∃ j_ : Int, (shr .i64 (rd l0_1 x9_2) (ji24)) = j_ := ⟨_, rfl⟩
     replace H : (if (wrap64 (x9_2 + 1)) < (l0_1.length : Int) then (if 0 ≤ (wrap64 (x9_2 + 1)) then (if 0 ≤ (IntKind.u64.wrap (wrap64 (16 - (Int.tmod a1 16)))) then (if x8_2.length < 17592186044416 then (spec_l1down.l1 k2 a1 x6_2 (x8_2 ++ [Int.tmod (wrap64 ((ji26) + (Int.tmod (shl .i64 (rd l0_1 (wrap64 (x9_2 + 1))) (IntKind.u64.wrap (wrap64 (16 - (Int.tmod a1 16))))) 65536))) 65536]) (wrap64 (x9_2 + 1)) a0_0 l0_1) else (none)) else (none)) else (none)) else (if x8_2.length < 17592186044416 then (spec_l1down.l1 k2 a1 x6_2 (x8_2 ++ [Int.tmod (ji26) 65536]) (wrap64 (x9_2 + 1)) a0_0 l0_1) else (none))) = some (r1, r2, r3) := by first | (rw [hji26] at H; exact H) | (simp only [hji26] at H ⊢; exact H)
     have hji26_ : ((rd l0_1 x9_2) / 2 ^ min (ji24).toNat 64) = ji26 := hji26
     have hji26z : (ji24) ≤ 64 → ((rd l0_1 x9_2) / 2 ^ (ji24).toNat) = ji26 := shr_small hji26
     by_cases c27 : (wrap64 (x9_2 + 1)) < (l0_1.length : Int)
     rotate_left
     · rw [if_neg c27] at H
       have c27b0 : decide ((wrap64 (x9_2 + 1)) < (l0_1.length : Int)) = false := decide_eq_false c27
       clear c27
       by_cases c37 : x8_2.length < 17592186044416
       rotate_left
       · rw [if_neg c37] at H
         exact absurd H (by simp)
       rw [if_pos c37] at H
       have LMc37 := AM c37; clear c37
       obtain ⟨y154, hy154⟩ : ∃ y_ : List Int, y_ = (x8_2 ++ [Int.tmod (ji26) 65536]) := ⟨_, rfl⟩
       replace H : (spec_l1down.l1 k2 a1 x6_2 y154 (wrap64 (x9_2 + 1)) a0_0 l0_1) = some (r1, r2, r3) := by first | (rw [hy154]; with_reducible exact H) | (have H2_ := (Option.bind_some _ _).symm.trans H; rw [hy154]; with_reducible exact H2_) | (have H2_ := (Option.bind_some _ _).symm.trans H; with_reducible exact H2_) | with_reducible exact H | (rw [hy154]; exact H) | exact H
       have Ny154 := AM hy154; clear hy154
       have H' := AM H
       clear H; have hnb38 := NB146_147.out; have hnc38 := NB147_146.out
       have hcz39_0 : wr.cell? ⟨gb146, 0, none⟩ = some (.bool a0_0) := (blk_cell BK146.out 0).trans rfl
       have hcz39_1 : wr.cell? ⟨gb146, 1, none⟩ = some (.slice A0_1 l0_1.length c0_1) := (blk_cell BK146.out 1).trans rfl
       have hfz39_0 := blk_frozen BK146.out 0; have hfz39_1 := blk_frozen BK146.out 1
       have p149 : 0 ≤ (x9_2 : Int) := of_decide_eq_true (by first | (with_reducible assumption) | assumption)
       have q149 : x9_2 < (l0_1.length : Int) := of_decide_eq_true (by first | (with_reducible assumption) | assumption)
       obtain ⟨ad149, e149, hx149_0⟩ := Kd.at_int HR0_1.out x9_2 p149 q149
       cases e149
       replace hx149_0 := (HB.out.cell (World.block_lt_of_cell? w _ hx149_0)).trans hx149_0; replace p149 := eq_true p149; replace q149 := eq_true q149
       go_wp2_with (first | ((with_reducible refine gate_builtin (b := .append) (xs := #[.tmp 79, .tmp 82]) rfl ?_); (try (refine gate_guard (by rfl) ?_; dsimp only)); at_builtin; refine Kd.R_append (Kd.int .i64) (w0 := w) w.heap.size rfl (.tmp 79) (.tmp 82) 36 3 (.int .i64 0) 8 rfl Try.underlying36 info3 rfl (by decide) (by omega) u8 x8_2 (Int.tmod (ji26) 65536) [.int .i64 (Int.tmod (ji26) 65536)] (fun _ => True) (fun _ => False) rfl rfl ?aP (fun _ hk => hk.elim) ?aF ?aO ?aB ?aS ?aL ?_; (case aP => exact rfl); (case aB => exact (pH HB)); (case aF => exact (fun _ _ => trivial)); (case aO => exact (pR HO_8)); (case aS => exact (below_size (pH HB))); (case aL => have := LMc37.out; omega); intro v155 w40 ho hb hg hat; rw [← Ny154.out] at ho; replace BK146 := AM (blk_grown (g := gb146) (o := .cells #[.bool a0_0, .slice (some ad149) l0_1.length c0_1] 93 (0, 0)) (pB BK146) hg (Kd.R_ne HO_8.out BK146.out (by decide))); replace BK147 := AM (blk_grown (g := gb147) (o := .cells #[.bool false, .slice none 0 0] 93 (0, 0)) (pB BK147) hg (Kd.R_ne HO_8.out BK147.out (by decide))); replace HB := AM (hb); have HO156 := AM (ho); clear HO_8; clear ho hb hg hat))
       go_roundg k2
       case measure => have := HJ2.out; have := HK2.out; omega
       case rel => exact ⟨(y154), (wrap64 (x9_2 + 1)), (by first | rfl | (simp; done) | (simp [*]; done)), H', ⟨by have := HJ2.out; have := HK2.out; omega⟩, ⟨by (with_reducible repeat (first | apply Kd.R_alloc | apply Kd.R_drewN | apply Kd.R_drew)); exact HO156.out⟩, ⟨by refine sB ?_; exact BK146.out⟩, ⟨by refine sB ?_; exact BK147.out⟩, ⟨pH HB⟩⟩
     rw [if_pos c27] at H
     have c27b0 : decide ((wrap64 (x9_2 + 1)) < (l0_1.length : Int)) = true := decide_eq_true c27
     clear c27
     obtain ⟨ji28, hji28⟩ : ∃ j_ : Int, (wrap64 (x9_2 + 1)) = j_ := ⟨_, rfl⟩
     replace H : (if 0 ≤ (ji28) then (if 0 ≤ (IntKind.u64.wrap (wrap64 (16 - (Int.tmod a1 16)))) then (if x8_2.length < 17592186044416 then (spec_l1down.l1 k2 a1 x6_2 (x8_2 ++ [Int.tmod (wrap64 ((ji26) + (Int.tmod (shl .i64 (rd l0_1 (ji28)) (IntKind.u64.wrap (wrap64 (16 - (Int.tmod a1 16))))) 65536))) 65536]) ji28 a0_0 l0_1) else (none)) else (none)) else (none)) = some (r1, r2, r3) := by first | (rw [hji28] at H; exact H) | (simp only [hji28] at H ⊢; exact H)
     (try rw [hji28] at c27b0)
     have hji28w : (IntKind.i64.wrap (x9_2 + 1)) = ji28 := (i64_w _).trans hji28
     by_cases c29 : 0 ≤ (ji28)
     rotate_left
     · rw [if_neg c29] at H
       exact absurd H (by simp)
     rw [if_pos c29] at H
     have c29b0 : decide (0 ≤ (ji28)) = true := decide_eq_true c29
     clear c29
     obtain ⟨ji30, hji30⟩ : ∃ j_ : Int, (IntKind.u64.wrap (wrap64 (16 - (Int.tmod a1 16)))) = j_ := ⟨_, rfl⟩
     replace H : (if 0 ≤ (ji30) then (if x8_2.length < 17592186044416 then (spec_l1down.l1 k2 a1 x6_2 (x8_2 ++ [Int.tmod (wrap64 ((ji26) + (Int.tmod (shl .i64 (rd l0_1 (ji28)) (ji30)) 65536))) 65536]) ji28 a0_0 l0_1) else (none)) else (none)) = some (r1, r2, r3) := by first | (rw [hji30] at H; exact H) | (simp only [hji30] at H ⊢; exact H)
     by_cases c31 : 0 ≤ (ji30)
     rotate_left
     · rw [if_neg c31] at H
       exact absurd H (by simp)
     rw [if_pos c31] at H
     have c31b0 := eq_true c31
     have c31b1 : decide (0 ≤ (ji30)) = true := decide_eq_true c31
     clear c31
     obtain ⟨ji32, hji32⟩ : ∃ j_ : Int, (shl .i64 (rd l0_1 (ji28)) (ji30)) = j_ := ⟨_, rfl⟩
     replace H : (if x8_2.length < 17592186044416 then (spec_l1down.l1 k2 a1 x6_2 (x8_2 ++ [Int.tmod (wrap64 ((ji26) + (Int.tmod (ji32) 65536))) 65536]) ji28 a0_0 l0_1) else (none)) = some (r1, r2, r3) := by first | (rw [hji32] at H; exact H) | (simp only [hji32] at H ⊢; exact H)
     have hji32_ : (IntKind.i64.wrap ((rd l0_1 (ji28)) * 2 ^ min (ji30).toNat 64)) = ji32 := hji32
     have hji32z : (ji30) ≤ 64 → (IntKind.i64.wrap ((rd l0_1 (ji28)) * 2 ^ (ji30).toNat)) = ji32 := shl_small hji32
     have hji32y : (wrap64 ((rd l0_1 (ji28)) * 2 ^ min (ji30).toNat 64)) = ji32 := (i64_w _).symm.trans hji32_
     have hji32x : (ji30) ≤ 64 → (wrap64 ((rd l0_1 (ji28)) * 2 ^ (ji30).toNat)) = ji32 := fun h_ => (i64_w _).symm.trans (hji32z h_)
     by_cases c33 : x8_2.length < 17592186044416
     rotate_left
     · rw [if_neg c33] at H
       exact absurd H (by simp)
     rw [if_pos c33] at H
     have LMc33 := AM c33; clear c33
     obtain ⟨y151, hy151⟩ : ∃ y_ : List Int, y_ = (x8_2 ++ [Int.tmod (wrap64 ((ji26) + (Int.tmod (ji32) 65536))) 65536]) := ⟨_, rfl⟩
     replace H : (spec_l1down.l1 k2 a1 x6_2 y151 ji28 a0_0 l0_1) = some (r1, r2, r3) := by first | (rw [hy151]; with_reducible exact H) | (have H2_ := (Option.bind_some _ _).symm.trans H; rw [hy151]; with_reducible exact H2_) | (have H2_ := (Option.bind_some _ _).symm.trans H; with_reducible exact H2_) | with_reducible exact H | (rw [hy151]; exact H) | exact H
     have Ny151 := AM hy151; clear hy151
     have H' := AM H
     clear H; have hnb34 := NB146_147.out; have hnc34 := NB147_146.out
     have hcz35_0 : wr.cell? ⟨gb146, 0, none⟩ = some (.bool a0_0) := (blk_cell BK146.out 0).trans rfl
     have hcz35_1 : wr.cell? ⟨gb146, 1, none⟩ = some (.slice A0_1 l0_1.length c0_1) := (blk_cell BK146.out 1).trans rfl
     have hfz35_0 := blk_frozen BK146.out 0; have hfz35_1 := blk_frozen BK146.out 1
     have p149 : 0 ≤ (x9_2 : Int) := of_decide_eq_true (by first | (with_reducible assumption) | assumption)
     have q149 : x9_2 < (l0_1.length : Int) := of_decide_eq_true (by first | (with_reducible assumption) | assumption)
     obtain ⟨ad149, e149, hx149_0⟩ := Kd.at_int HR0_1.out x9_2 p149 q149
     cases e149
     replace hx149_0 := (HB.out.cell (World.block_lt_of_cell? w _ hx149_0)).trans hx149_0; replace p149 := eq_true p149; replace q149 := eq_true q149
     have p150 : 0 ≤ ((ji28) : Int) := of_decide_eq_true (by first | (with_reducible assumption) | assumption)
     have q150 : (ji28) < (l0_1.length : Int) := of_decide_eq_true (by first | (with_reducible assumption) | assumption)
     obtain ⟨ad150, e150, hx150_0⟩ := Kd.at_int HR0_1.out (ji28) p150 q150
     obtain rfl : ad149 = ad150 := (by injection e150)
     replace hx150_0 := (HB.out.cell (World.block_lt_of_cell? w _ hx150_0)).trans hx150_0; replace p150 := eq_true p150; replace q150 := eq_true q150
     go_wp2_with (first | ((with_reducible refine gate_builtin (b := .append) (xs := #[.tmp 79, .tmp 82]) rfl ?_); (try (refine gate_guard (by rfl) ?_; dsimp only)); at_builtin; refine Kd.R_append (Kd.int .i64) (w0 := w) w.heap.size rfl (.tmp 79) (.tmp 82) 36 3 (.int .i64 0) 8 rfl Try.underlying36 info3 rfl (by decide) (by omega) u8 x8_2 (Int.tmod (wrap64 ((ji26) + (Int.tmod (ji32) 65536))) 65536) [.int .i64 (Int.tmod (wrap64 ((ji26) + (Int.tmod (ji32) 65536))) 65536)] (fun _ => True) (fun _ => False) rfl rfl ?aP (fun _ hk => hk.elim) ?aF ?aO ?aB ?aS ?aL ?_; (case aP => exact rfl); (case aB => exact (pH HB)); (case aF => exact (fun _ _ => trivial)); (case aO => exact (pR HO_8)); (case aS => exact (below_size (pH HB))); (case aL => have := LMc33.out; omega); intro v152 w36 ho hb hg hat; rw [← Ny151.out] at ho; replace BK146 := AM (blk_grown (g := gb146) (o := .cells #[.bool a0_0, .slice (some ad149) l0_1.length c0_1] 93 (0, 0)) (pB BK146) hg (Kd.R_ne HO_8.out BK146.out (by decide))); replace BK147 := AM (blk_grown (g := gb147) (o := .cells #[.bool false, .slice none 0 0] 93 (0, 0)) (pB BK147) hg (Kd.R_ne HO_8.out BK147.out (by decide))); replace HB := AM (hb); have HO153 := AM (ho); clear HO_8; clear ho hb hg hat))
     go_roundg k2
     case measure => have := HJ2.out; have := HK2.out; omega
     case rel => exact ⟨(y151), (ji28), (by first | rfl | (simp; done) | (simp only [← hji28] <;> (first | rfl | simp)) | (simp [*]; done)), H', ⟨by have := HJ2.out; have := HK2.out; omega⟩, ⟨by (with_reducible repeat (first | apply Kd.R_alloc | apply Kd.R_drewN | apply Kd.R_drew)); exact HO153.out⟩, ⟨by refine sB ?_; exact BK146.out⟩, ⟨by refine sB ?_; exact BK147.out⟩, ⟨pH HB⟩⟩
/-! ### spec_l2norm: function 139 -/
def spec_l2norm.f (k : Nat) (a0_0 : Bool) (l0_1 : List Int) (a0_2 : Int) : Option (Bool × List Int × Int) := if (l0_1.length : Int) = 0 then (some (false, ([] : List Int), 0)) else ((spec_l1twos.f k a0_0 l0_1).bind fun t168 => ((spec_l1down.f k a0_0 l0_1 t168).bind fun bt169 => (some (bt169.1, bt169.2.1, wrap64 (a0_2 + t168)))))
theorem spec_l2norm.mono : ∀ a0 a1 a2 k, LeO (spec_l2norm.f k a0 a1 a2) (spec_l2norm.f (k + 1) a0 a1 a2) := by
 intro a0 a1 a2 k
 unfold spec_l2norm.f
 repeat' with_reducible first | exact spec_l1down.mono _ _ _ _ | exact spec_l1twos.mono _ _ _ | exact LeO.refl _ | exact LeO.none _ | refine LeO.ite ?_ ?_ | refine LeO.bind ?_ (fun _ => ?_)
set_option maxHeartbeats 8000000 in
set_option maxRecDepth 100000 in
theorem spec_l2norm.calls (k : Nat) (a0_0 : Bool) (A0_1 : Option Addr) (c0_1 : Nat) (l0_1 : List Int) (a0_2 : Int) (r1 : Bool) (r2 : List Int) (r3 : Int) (w : World) (hr0_1 : Kd.C (Kd.int .i64) w A0_1 l0_1.length l0_1) (hc0_1 : l0_1.length ≤ c0_1) (h : spec_l2norm.f k a0_0 l0_1 a0_2 = some (r1, r2, r3)) :
 Calls Try.prog 139 #[.agg #[.bool a0_0, .slice A0_1 l0_1.length c0_1, .int .i64 a0_2]] w fun e w' => ∃ v1_ : Value, e = .returned (.agg #[.bool r1, v1_, .int .i64 r3]) ∧ Kd.R (Kd.int .i64) 3 w' w.heap.size (fun _ => True) v1_ r2 ∧ Below w.heap.size w w' := by
 have hu139 := Try.underlying139; have hu93 := Try.underlying93; have HR0_1 := AM hr0_1; have HC0_1 := AM hc0_1; clear hr0_1 hc0_1; have HB := AM (Below.refl w.heap.size w)
 have H : (if (l0_1.length : Int) = 0 then (some (false, ([] : List Int), 0)) else ((spec_l1twos.f k a0_0 l0_1).bind fun t168 => ((spec_l1down.f k a0_0 l0_1 t168).bind fun bt169 => (some (bt169.1, bt169.2.1, wrap64 (a0_2 + t168)))))) = some (r1, r2, r3) := h
 clear h
 by_cases c2 : (l0_1.length : Int) = 0
 · rw [if_pos c2] at H
   have c2b0 : ((l0_1.length : Int) == 0) = true := beq_iff_eq.mpr c2
   have c2b1 : ((l0_1.length : Int) != 0) = false := bne_eq_false_iff_eq.mpr c2
   clear c2
   simp only [Option.some.injEq, Prod.mk.injEq] at H
   obtain ⟨rfl, rfl, rfl⟩ := H
   go_enter Try.func139, Try.ntmps139
   go_wp2_with (first | ((with_reducible refine gate_dst (N := 1) rfl ?_); refine box_event ?hg (N := 1) ?hd (cs := #[.bool a0_0, .slice A0_1 l0_1.length c0_1, .int .i64 a0_2]) (t := 139) ?hr ?_; (case hd => rfl); (case hg => rfl); (case hr => first | (go_simp; done) | (go_simp; rfl)); intro gb166 hg w3 hbox hb; have BK166 := AM (hbox); have GW166 := gH HB hg; have GE166 := gH HB hg; replace HB := AM (below_step (pH HB) hb); clear hb hbox hg) | ((with_reducible refine gate_dst (N := 2) rfl ?_); refine box_event ?hg (N := 2) ?hd (cs := #[.bool false, .slice none 0 0, .int .i64 0]) (t := 139) ?hr ?_; (case hd => rfl); (case hg => rfl); (case hr => first | (go_simp; done) | (go_simp; rfl)); intro gb167 hg w4 hbox hb; have BK167 := AM (hbox); have GW167 := gH HB hg; have GE167 := gH HB hg; replace HB := AM (below_step (pH HB) hb); have NB166_167 := nL BK166 hg; have NB167_166 := nG BK166 hg; replace BK166 := bB BK166 hb; clear hb hbox hg; have hnb5 := NB166_167.out; have hnc5 := NB167_166.out; have ⟨hcz6_0, hcz6_1, hcz6_2, hfz6_0, hfz6_1, hfz6_2⟩ := z3 BK166; have ⟨hcz7_0, hcz7_1, hcz7_2, hfz7_0, hfz7_1, hfz7_2⟩ := z3 BK167))
   refine bodyPost_ret (results_cell_row rfl _ _ gb167 139 #[.bool false, .slice none 0 0, .int .i64 0] (0, 0) _ rfl (by refine sB ?_; refine blk_put (cs := #[.bool false, .slice none 0 0, .int .i64 0]) ?_ 2 _ rfl; refine sB ?_; refine blk_put (cs := #[.bool false, .slice none 0 0, .int .i64 0]) ?_ 1 _ rfl; refine sB ?_; refine blk_put (cs := #[.bool false, .slice none 0 0, .int .i64 0]) ?_ 0 _ rfl; refine sB ?_; exact BK167.out) Try.underlying139 rfl (by kernel_rfl)) rfl ?_
   exact ⟨_, by first | rfl | (simp [errW_none, errW_some] <;> rfl) | (simp [*, errW_none, errW_some] <;> rfl), by first | exact Kd.R_nil _ _ _ _ _ | exact Kd.N_nil _ _ _ _ _ | exact Kd.V_nil _ _ _ _ _ | exact Kd.Q_nil _ _ _ _ _ | exact Kd.S_nil _ _ _ _ _, pH HB⟩
 rw [if_neg c2] at H
 have c2b0 : ((l0_1.length : Int) == 0) = false := beq_eq_false_iff_ne.mpr c2
 have c2b1 : ((l0_1.length : Int) != 0) = true := bne_iff_ne.mpr c2
 have c2b2 : ¬ (l0_1 = []) := fun h_ => c2 (by rw [h_]; rfl)
 replace H := Option.bind_eq_some_iff.mp H
 obtain ⟨t168, A80, H⟩ := H
 (try dsimp only at H)
 have A8 := AM A80; clear A80
 replace H := Option.bind_eq_some_iff.mp H
 obtain ⟨⟨t169, t170, t173⟩, A90, H⟩ := H
 (try dsimp only at H)
 have A9 := AM A90; clear A90
 simp only [Option.some.injEq, Prod.mk.injEq] at H
 obtain ⟨rfl, rfl, rfl⟩ := H
 go_enter Try.func139, Try.ntmps139
 go_wp2_with (first | ((with_reducible refine gate_dst (N := 1) rfl ?_); refine box_event ?hg (N := 1) ?hd (cs := #[.bool a0_0, .slice A0_1 l0_1.length c0_1, .int .i64 a0_2]) (t := 139) ?hr ?_; (case hd => rfl); (case hg => rfl); (case hr => first | (go_simp; done) | (go_simp; rfl)); intro gb166 hg w10 hbox hb; have BK166 := AM (hbox); have GW166 := gH HB hg; have GE166 := gH HB hg; replace HB := AM (below_step (pH HB) hb); clear hb hbox hg) | ((with_reducible refine gate_dst (N := 2) rfl ?_); refine box_event ?hg (N := 2) ?hd (cs := #[.bool false, .slice none 0 0, .int .i64 0]) (t := 139) ?hr ?_; (case hd => rfl); (case hg => rfl); (case hr => first | (go_simp; done) | (go_simp; rfl)); intro gb167 hg w11 hbox hb; have BK167 := AM (hbox); have GW167 := gH HB hg; have GE167 := gH HB hg; replace HB := AM (below_step (pH HB) hb); have NB166_167 := nL BK166 hg; have NB167_166 := nG BK166 hg; replace BK166 := bB BK166 hb; clear hb hbox hg; have hnb12 := NB166_167.out; have hnc12 := NB167_166.out; have ⟨hcz13_0, hcz13_1, hcz13_2, hfz13_0, hfz13_1, hfz13_2⟩ := z3 BK166) | ((with_reducible refine gate_callee (f := 154) rfl ?_); refine goesL_ (some 14) rfl rfl Try.func154 (by kernel_rfl) rfl #[.agg #[.bool a0_0, .slice A0_1 l0_1.length c0_1]] rfl (by (try simp only [List.map_toArray, List.map_cons, List.map_nil]); first | done | rfl | (simp only [List.length_drop, List.length_take]; rfl)) ?_; (with_reducible refine (spec_l1twos.calls k a0_0 _ _ l0_1 t168 _ ?side1 ?side2 A8.out).mono ?_); (case side1 => exact cB HR0_1 HB); (case side2 => exact HC0_1.out); rintro e w14 ⟨rfl, hb⟩; refine ⟨_, rfl, ?_⟩; replace BK166 := bB BK166 hb; replace BK167 := bB BK167 hb; replace HB := AM (below_step (pH HB) hb); (try clear hb); (try clear hb2); (try clear hk); (try clear hi); have ⟨hcz15_0, hcz15_1, hcz15_2, hfz15_0, hfz15_1, hfz15_2⟩ := z3 BK166) | ((with_reducible refine gate_callee (f := 155) rfl ?_); refine goesL_ (some 19) rfl rfl Try.func155 (by kernel_rfl) rfl #[.agg #[.bool a0_0, .slice A0_1 l0_1.length c0_1], .int .i64 t168] rfl (by (try simp only [List.map_toArray, List.map_cons, List.map_nil]); first | done | rfl | (simp only [List.length_drop, List.length_take]; rfl)) ?_; (with_reducible refine (spec_l1down.calls k a0_0 _ _ l0_1 t168 t169 t170 t173 _ ?side1 ?side2 A9.out).mono ?_); (case side1 => exact cB HR0_1 HB); (case side2 => exact HC0_1.out); rintro e w16 ⟨v171, rfl, ho0, hb⟩; refine ⟨_, rfl, ?_⟩; have HO172 := AM (Kd.R_lower ho0 (below_size (pH HB))); replace BK166 := bB BK166 hb; replace BK167 := bB BK167 hb; replace HB := AM (below_step (pH HB) hb); (try clear hb); (try clear hb2); (try clear hk); (try clear hi); (try clear ho0)) | ((with_reducible refine gate_dst (N := 4) rfl ?_); refine box_event ?hg (N := 4) ?hd (cs := #[.bool false, .slice none 0 0]) (t := 93) ?hr ?_; (case hd => rfl); (case hg => rfl); (case hr => first | (go_simp; done) | (go_simp; rfl)); intro gb174 hg w17 hbox hb; replace HO172 := AM (Kd.R_below (pR HO172) hb); have BK174 := AM (hbox); have GW174 := gH HB hg; have GE174 := gH HB hg; replace HB := AM (below_step (pH HB) hb); have NB166_174 := nL BK166 hg; have NB174_166 := nG BK166 hg; replace BK166 := bB BK166 hb; have NB167_174 := nL BK167 hg; have NB174_167 := nG BK167 hg; replace BK167 := bB BK167 hb; clear hb hbox hg; have hnb18 := NB174_166.out; have hnc18 := NB166_174.out; have hnb19 := NB174_167.out; have hnc19 := NB167_174.out; have ⟨hcz20_0, hcz20_1, hfz20_0, hfz20_1⟩ := z2 BK174; obtain ⟨Ao21, co21, eo21⟩ := Kd.R_slice HO172.out; subst eo21; have ⟨hcz22_0, hcz22_1, hcz22_2, hfz22_0, hfz22_1, hfz22_2⟩ := z3 BK166; have ⟨hcz23_0, hcz23_1, hcz23_2, hfz23_0, hfz23_1, hfz23_2⟩ := z3 BK167))
 refine bodyPost_ret (results_cell_row rfl _ _ gb167 139 #[.bool t169, .slice Ao21 t170.length co21, .int .i64 (wrap64 (a0_2 + t168))] (0, 0) _ rfl (by refine sB ?_; refine blk_put (cs := #[.bool t169, .slice Ao21 t170.length co21, .int .i64 0]) ?_ 2 _ rfl; refine sB ?_; refine blk_put (cs := #[.bool t169, .slice none 0 0, .int .i64 0]) ?_ 1 _ rfl; refine sB ?_; refine blk_put (cs := #[.bool false, .slice none 0 0, .int .i64 0]) ?_ 0 _ rfl; refine sB ?_; refine blk_far ?_ NB167_174.out _; refine sB ?_; refine blk_far ?_ NB167_174.out _; refine sB ?_; exact BK167.out) Try.underlying139 rfl (by kernel_rfl)) rfl ?_
 exact ⟨_, by first | rfl | (simp [errW_none, errW_some] <;> rfl) | (simp [*, errW_none, errW_some] <;> rfl), by (with_reducible repeat (first | apply Kd.R_alloc | apply Kd.R_drewN | apply Kd.R_drew)); exact Kd.R_mono (Kd.R_far (p := ⟨gb167, 2, none⟩) (Kd.R_far (p := ⟨gb167, 1, none⟩) (Kd.R_far (p := ⟨gb167, 0, none⟩) (Kd.R_far (p := ⟨gb174, 1, none⟩) (Kd.R_far (p := ⟨gb174, 0, none⟩) (Kd.R_types (Kd.R_types HO172.out BK174.out (by decide)) BK167.out (by decide)) (fun _ hk => hk.1.2) (.bool t169)) (fun _ hk => hk.1.2) (.slice Ao21 t170.length co21)) (fun _ hk => hk.2) (.bool t169)) (fun _ hk => hk.2) (.slice Ao21 t170.length co21)) (fun _ hk => hk.2) (.int .i64 (wrap64 (a0_2 + t168)))) (fun _ hk => trivial), pH HB⟩

/-! ### spec_l2out: function 101 -/
def spec_l2out.f (k : Nat) (a0_0 : Bool) (l0_1 : List Int) (a0_2 : Int) : Option (Bool × List Int × Int × Int) := (spec_l2norm.f k a0_0 l0_1 a0_2).bind fun bt177 => ((spec_l1big.f k bt177.1 bt177.2.1).bind fun bt182 => (if bt182.2.2 = 0 then (if bt177.2.2 < (-20000) then (some (false, ([] : List Int), 0, 2)) else (if bt177.2.2 > 20000 then (some (false, ([] : List Int), 0, 2)) else (some (bt182.1, bt182.2.1, bt177.2.2, 0)))) else (some (false, ([] : List Int), 0, 2))))
theorem spec_l2out.mono : ∀ a0 a1 a2 k, LeO (spec_l2out.f k a0 a1 a2) (spec_l2out.f (k + 1) a0 a1 a2) := by
 intro a0 a1 a2 k
 unfold spec_l2out.f
 repeat' with_reducible first | exact spec_l1big.mono _ _ _ | exact spec_l2norm.mono _ _ _ _ | exact LeO.refl _ | exact LeO.none _ | refine LeO.ite ?_ ?_ | refine LeO.bind ?_ (fun _ => ?_)
set_option maxHeartbeats 8000000 in
set_option maxRecDepth 100000 in
theorem spec_l2out.calls (k : Nat) (a0_0 : Bool) (A0_1 : Option Addr) (c0_1 : Nat) (l0_1 : List Int) (a0_2 : Int) (r1 : Bool) (r2 : List Int) (r3 : Int) (r4 : Int) (w : World) (hr0_1 : Kd.C (Kd.int .i64) w A0_1 l0_1.length l0_1) (hc0_1 : l0_1.length ≤ c0_1) (h : spec_l2out.f k a0_0 l0_1 a0_2 = some (r1, r2, r3, r4)) :
 Calls Try.prog 101 #[.agg #[.bool a0_0, .slice A0_1 l0_1.length c0_1, .int .i64 a0_2]] w fun e w' => ∃ v1_ : Value, e = .returned (.tuple #[.agg #[.bool r1, v1_, .int .i64 r3], .int .i64 r4]) ∧ Kd.R (Kd.int .u32) 50 w' w.heap.size (fun _ => True) v1_ r2 ∧ Below w.heap.size w w' := by
 have hu139 := Try.underlying139; have hu77 := Try.underlying77; have hu93 := Try.underlying93; have hu28 := Try.underlying28; have HR0_1 := AM hr0_1; have HC0_1 := AM hc0_1; clear hr0_1 hc0_1; have HB := AM (Below.refl w.heap.size w)
 have H : ((spec_l2norm.f k a0_0 l0_1 a0_2).bind fun bt177 => ((spec_l1big.f k bt177.1 bt177.2.1).bind fun bt182 => (if bt182.2.2 = 0 then (if bt177.2.2 < (-20000) then (some (false, ([] : List Int), 0, 2)) else (if bt177.2.2 > 20000 then (some (false, ([] : List Int), 0, 2)) else (some (bt182.1, bt182.2.1, bt177.2.2, 0)))) else (some (false, ([] : List Int), 0, 2))))) = some (r1, r2, r3, r4) := h
 clear h
 replace H := Option.bind_eq_some_iff.mp H
 obtain ⟨⟨t177, t178, t181⟩, A20, H⟩ := H
 (try dsimp only at H)
 have A2 := AM A20; clear A20
 replace H := Option.bind_eq_some_iff.mp H
 obtain ⟨⟨t182, t183, t186⟩, A30, H⟩ := H
 (try dsimp only at H)
 have A3 := AM A30; clear A30
 by_cases c4 : t186 = 0
 rotate_left
 · rw [if_neg c4] at H
   have c4b0 : (t186 == 0) = false := beq_eq_false_iff_ne.mpr c4
   have c4b1 : (t186 != 0) = true := bne_iff_ne.mpr c4
   simp only [Option.some.injEq, Prod.mk.injEq] at H
   obtain ⟨rfl, rfl, rfl, rfl⟩ := H
   go_enter Try.func101, Try.ntmps101
   go_wp2_with (first | ((with_reducible refine gate_dst (N := 1) rfl ?_); refine box_event ?hg (N := 1) ?hd (cs := #[.bool a0_0, .slice A0_1 l0_1.length c0_1, .int .i64 a0_2]) (t := 139) ?hr ?_; (case hd => rfl); (case hg => rfl); (case hr => first | (go_simp; done) | (go_simp; rfl)); intro gb175 hg w52 hbox hb; have BK175 := AM (hbox); have GW175 := gH HB hg; have GE175 := gH HB hg; replace HB := AM (below_step (pH HB) hb); clear hb hbox hg) | ((with_reducible refine gate_dst (N := 2) rfl ?_); refine box_event ?hg (N := 2) ?hd (cs := #[.bool false, .slice none 0 0, .int .i64 0]) (t := 77) ?hr ?_; (case hd => rfl); (case hg => rfl); (case hr => first | (go_simp; done) | (go_simp; rfl)); intro gb176 hg w53 hbox hb; have BK176 := AM (hbox); have GW176 := gH HB hg; have GE176 := gH HB hg; replace HB := AM (below_step (pH HB) hb); have NB175_176 := nL BK175 hg; have NB176_175 := nG BK175 hg; replace BK175 := bB BK175 hb; clear hb hbox hg; have hnb54 := NB175_176.out; have hnc54 := NB176_175.out; have ⟨hcz55_0, hcz55_1, hcz55_2, hfz55_0, hfz55_1, hfz55_2⟩ := z3 BK175) | ((with_reducible refine gate_callee (f := 139) rfl ?_); refine goesL_ (some 7) rfl rfl Try.func139 (by kernel_rfl) rfl #[.agg #[.bool a0_0, .slice A0_1 l0_1.length c0_1, .int .i64 a0_2]] rfl (by (try simp only [List.map_toArray, List.map_cons, List.map_nil]); first | done | rfl | (simp only [List.length_drop, List.length_take]; rfl)) ?_; (with_reducible refine (spec_l2norm.calls k a0_0 _ _ l0_1 a0_2 t177 t178 t181 _ ?side1 ?side2 A2.out).mono ?_); (case side1 => exact cB HR0_1 HB); (case side2 => exact HC0_1.out); rintro e w56 ⟨v179, rfl, ho0, hb⟩; refine ⟨_, rfl, ?_⟩; have HO180 := AM (Kd.R_lower ho0 (below_size (pH HB))); replace BK175 := bB BK175 hb; replace BK176 := bB BK176 hb; replace HB := AM (below_step (pH HB) hb); (try clear hb); (try clear hb2); (try clear hk); (try clear hi); (try clear ho0); have ⟨hcz57_0, hcz57_1, hcz57_2, hfz57_0, hfz57_1, hfz57_2⟩ := z3 BK175; obtain ⟨Ao58, co58, eo58⟩ := Kd.R_slice HO180.out; subst eo58) | ((with_reducible refine gate_callee (f := 57) rfl ?_); refine goesL_ (some 11) rfl rfl Try.func57 (by kernel_rfl) rfl #[.agg #[.bool t177, .slice Ao58 t178.length co58]] rfl (by (try simp only [List.map_toArray, List.map_cons, List.map_nil]); first | done | rfl | (simp only [List.length_drop, List.length_take]; rfl)) ?_; (with_reducible refine (spec_l1big.calls k t177 _ _ t178 t182 t183 t186 _ ?side1 ?side2 A3.out).mono ?_); (case side1 => refine (Kd.R_reads' (e := 3) (base := w.heap.size) (ok := fun k_ => True) (n := t178.length) (c := co58) ?_).2.2; exact (by (with_reducible repeat (first | apply Kd.R_alloc | apply Kd.R_drewN | apply Kd.R_drew)); exact (Kd.R_mono (Kd.R_far (p := ⟨gb175, 2, none⟩) (Kd.R_far (p := ⟨gb175, 1, none⟩) (Kd.R_far (p := ⟨gb175, 0, none⟩) (Kd.R_types HO180.out BK175.out (by decide)) (fun _ hk => hk.2) (.bool t177)) (fun _ hk => hk.2) (.slice Ao58 t178.length co58)) (fun _ hk => hk.2) (.int .i64 t181)) (fun _ h_ => h_.1)))); (case side2 => exact (Kd.R_reads' HO180.out).2.1); rintro e w59 ⟨v184, rfl, ho0, hb⟩; refine ⟨_, rfl, ?_⟩; replace HO180 := AM (Kd.R_below (by (with_reducible repeat (first | apply Kd.R_alloc | apply Kd.R_drewN | apply Kd.R_drew)); exact (Kd.R_mono (Kd.R_far (p := ⟨gb175, 2, none⟩) (Kd.R_far (p := ⟨gb175, 1, none⟩) (Kd.R_far (p := ⟨gb175, 0, none⟩) (Kd.R_types HO180.out BK175.out (by decide)) (fun _ hk => hk.2) (.bool t177)) (fun _ hk => hk.2) (.slice Ao58 t178.length co58)) (fun _ hk => hk.2) (.int .i64 t181)) (fun _ h_ => h_.1))) hb); have HO185 := AM (Kd.R_lower ho0 (below_size (pH HB))); replace BK175 := AM (blk_below (g := gb175) (o := .cells #[.bool t177, .slice Ao58 t178.length co58, .int .i64 t181] 139 (0, 0)) (by refine sB ?_; refine blk_put (cs := #[.bool t177, .slice Ao58 t178.length co58, .int .i64 a0_2]) ?_ 2 _ rfl; refine sB ?_; refine blk_put (cs := #[.bool t177, .slice A0_1 l0_1.length c0_1, .int .i64 a0_2]) ?_ 1 _ rfl; refine sB ?_; refine blk_put (cs := #[.bool a0_0, .slice A0_1 l0_1.length c0_1, .int .i64 a0_2]) ?_ 0 _ rfl; refine sB ?_; exact BK175.out) hb); replace BK176 := AM (blk_below (g := gb176) (o := .cells #[.bool false, .slice none 0 0, .int .i64 0] 77 (0, 0)) (by refine sB ?_; refine blk_far ?_ NB176_175.out _; refine sB ?_; refine blk_far ?_ NB176_175.out _; refine sB ?_; refine blk_far ?_ NB176_175.out _; refine sB ?_; exact BK176.out) hb); replace HB := AM (below_step (pH HB) hb); (try clear hb); (try clear hb2); (try clear hk); (try clear hi); (try clear ho0)) | ((with_reducible refine gate_dst (N := 4) rfl ?_); refine box_event ?hg (N := 4) ?hd (cs := #[.bool false, .slice none 0 0]) (t := 28) ?hr ?_; (case hd => rfl); (case hg => rfl); (case hr => first | (go_simp; done) | (go_simp; rfl)); intro gb187 hg w60 hbox hb; replace HO180 := AM (Kd.R_below (pR HO180) hb); replace HO185 := AM (Kd.R_below (pR HO185) hb); have BK187 := AM (hbox); have GW187 := gH HB hg; have GE187 := gH HB hg; replace HB := AM (below_step (pH HB) hb); have NB175_187 := nL BK175 hg; have NB187_175 := nG BK175 hg; replace BK175 := bB BK175 hb; have NB176_187 := nL BK176 hg; have NB187_176 := nG BK176 hg; replace BK176 := bB BK176 hb; clear hb hbox hg; have hnb61 := NB187_175.out; have hnc61 := NB175_187.out; have hnb62 := NB187_176.out; have hnc62 := NB176_187.out; have ⟨hcz63_0, hcz63_1, hfz63_0, hfz63_1⟩ := z2 BK187; obtain ⟨Ao64, co64, eo64⟩ := Kd.R_slice HO185.out; subst eo64; have ⟨hcz65_0, hcz65_1, hcz65_2, hfz65_0, hfz65_1, hfz65_2⟩ := z3 BK176))
   refine bodyPost_ret (results_ct rfl _ _ gb176 77 #[.bool false, .slice none 0 0, .int .i64 0] (0, 0) _ rfl (by refine sB ?_; refine blk_put (cs := #[.bool false, .slice none 0 0, .int .i64 0]) ?_ 2 _ rfl; refine sB ?_; refine blk_put (cs := #[.bool false, .slice none 0 0, .int .i64 0]) ?_ 1 _ rfl; refine sB ?_; refine blk_put (cs := #[.bool false, .slice none 0 0, .int .i64 0]) ?_ 0 _ rfl; refine sB ?_; refine blk_far ?_ NB176_187.out _; refine sB ?_; refine blk_far ?_ NB176_187.out _; refine sB ?_; exact BK176.out) Try.underlying77 rfl (by kernel_rfl)) rfl ?_
   exact ⟨_, by first | rfl | (simp [errW_none, errW_some] <;> rfl) | (simp [*, errW_none, errW_some] <;> rfl), by first | exact Kd.R_nil _ _ _ _ _ | exact Kd.N_nil _ _ _ _ _ | exact Kd.V_nil _ _ _ _ _ | exact Kd.Q_nil _ _ _ _ _ | exact Kd.S_nil _ _ _ _ _, pH HB⟩

 rw [if_pos c4] at H
 have c4b0 : (t186 == 0) = true := beq_iff_eq.mpr c4
 have c4b1 : (t186 != 0) = false := bne_eq_false_iff_eq.mpr c4
 clear c4
 by_cases c5 : t181 < (-20000)
 · rw [if_pos c5] at H
   have c5b0 : decide (t181 < (-20000)) = true := decide_eq_true c5
   clear c5
   simp only [Option.some.injEq, Prod.mk.injEq] at H
   obtain ⟨rfl, rfl, rfl, rfl⟩ := H
   go_enter Try.func101, Try.ntmps101
   go_wp2_with (first | ((with_reducible refine gate_dst (N := 1) rfl ?_); refine box_event ?hg (N := 1) ?hd (cs := #[.bool a0_0, .slice A0_1 l0_1.length c0_1, .int .i64 a0_2]) (t := 139) ?hr ?_; (case hd => rfl); (case hg => rfl); (case hr => first | (go_simp; done) | (go_simp; rfl)); intro gb175 hg w6 hbox hb; have BK175 := AM (hbox); have GW175 := gH HB hg; have GE175 := gH HB hg; replace HB := AM (below_step (pH HB) hb); clear hb hbox hg) | ((with_reducible refine gate_dst (N := 2) rfl ?_); refine box_event ?hg (N := 2) ?hd (cs := #[.bool false, .slice none 0 0, .int .i64 0]) (t := 77) ?hr ?_; (case hd => rfl); (case hg => rfl); (case hr => first | (go_simp; done) | (go_simp; rfl)); intro gb176 hg w7 hbox hb; have BK176 := AM (hbox); have GW176 := gH HB hg; have GE176 := gH HB hg; replace HB := AM (below_step (pH HB) hb); have NB175_176 := nL BK175 hg; have NB176_175 := nG BK175 hg; replace BK175 := bB BK175 hb; clear hb hbox hg; have hnb8 := NB175_176.out; have hnc8 := NB176_175.out; have ⟨hcz9_0, hcz9_1, hcz9_2, hfz9_0, hfz9_1, hfz9_2⟩ := z3 BK175) | ((with_reducible refine gate_callee (f := 139) rfl ?_); refine goesL_ (some 7) rfl rfl Try.func139 (by kernel_rfl) rfl #[.agg #[.bool a0_0, .slice A0_1 l0_1.length c0_1, .int .i64 a0_2]] rfl (by (try simp only [List.map_toArray, List.map_cons, List.map_nil]); first | done | rfl | (simp only [List.length_drop, List.length_take]; rfl)) ?_; (with_reducible refine (spec_l2norm.calls k a0_0 _ _ l0_1 a0_2 t177 t178 t181 _ ?side1 ?side2 A2.out).mono ?_); (case side1 => exact cB HR0_1 HB); (case side2 => exact HC0_1.out); rintro e w10 ⟨v179, rfl, ho0, hb⟩; refine ⟨_, rfl, ?_⟩; have HO180 := AM (Kd.R_lower ho0 (below_size (pH HB))); replace BK175 := bB BK175 hb; replace BK176 := bB BK176 hb; replace HB := AM (below_step (pH HB) hb); (try clear hb); (try clear hb2); (try clear hk); (try clear hi); (try clear ho0); have ⟨hcz11_0, hcz11_1, hcz11_2, hfz11_0, hfz11_1, hfz11_2⟩ := z3 BK175; obtain ⟨Ao12, co12, eo12⟩ := Kd.R_slice HO180.out; subst eo12) | ((with_reducible refine gate_callee (f := 57) rfl ?_); refine goesL_ (some 11) rfl rfl Try.func57 (by kernel_rfl) rfl #[.agg #[.bool t177, .slice Ao12 t178.length co12]] rfl (by (try simp only [List.map_toArray, List.map_cons, List.map_nil]); first | done | rfl | (simp only [List.length_drop, List.length_take]; rfl)) ?_; (with_reducible refine (spec_l1big.calls k t177 _ _ t178 t182 t183 t186 _ ?side1 ?side2 A3.out).mono ?_); (case side1 => refine (Kd.R_reads' (e := 3) (base := w.heap.size) (ok := fun k_ => True) (n := t178.length) (c := co12) ?_).2.2; exact (by (with_reducible repeat (first | apply Kd.R_alloc | apply Kd.R_drewN | apply Kd.R_drew)); exact (Kd.R_mono (Kd.R_far (p := ⟨gb175, 2, none⟩) (Kd.R_far (p := ⟨gb175, 1, none⟩) (Kd.R_far (p := ⟨gb175, 0, none⟩) (Kd.R_types HO180.out BK175.out (by decide)) (fun _ hk => hk.2) (.bool t177)) (fun _ hk => hk.2) (.slice Ao12 t178.length co12)) (fun _ hk => hk.2) (.int .i64 t181)) (fun _ h_ => h_.1)))); (case side2 => exact (Kd.R_reads' HO180.out).2.1); rintro e w13 ⟨v184, rfl, ho0, hb⟩; refine ⟨_, rfl, ?_⟩; replace HO180 := AM (Kd.R_below (by (with_reducible repeat (first | apply Kd.R_alloc | apply Kd.R_drewN | apply Kd.R_drew)); exact (Kd.R_mono (Kd.R_far (p := ⟨gb175, 2, none⟩) (Kd.R_far (p := ⟨gb175, 1, none⟩) (Kd.R_far (p := ⟨gb175, 0, none⟩) (Kd.R_types HO180.out BK175.out (by decide)) (fun _ hk => hk.2) (.bool t177)) (fun _ hk => hk.2) (.slice Ao12 t178.length co12)) (fun _ hk => hk.2) (.int .i64 t181)) (fun _ h_ => h_.1))) hb); have HO185 := AM (Kd.R_lower ho0 (below_size (pH HB))); replace BK175 := AM (blk_below (g := gb175) (o := .cells #[.bool t177, .slice Ao12 t178.length co12, .int .i64 t181] 139 (0, 0)) (by refine sB ?_; refine blk_put (cs := #[.bool t177, .slice Ao12 t178.length co12, .int .i64 a0_2]) ?_ 2 _ rfl; refine sB ?_; refine blk_put (cs := #[.bool t177, .slice A0_1 l0_1.length c0_1, .int .i64 a0_2]) ?_ 1 _ rfl; refine sB ?_; refine blk_put (cs := #[.bool a0_0, .slice A0_1 l0_1.length c0_1, .int .i64 a0_2]) ?_ 0 _ rfl; refine sB ?_; exact BK175.out) hb); replace BK176 := AM (blk_below (g := gb176) (o := .cells #[.bool false, .slice none 0 0, .int .i64 0] 77 (0, 0)) (by refine sB ?_; refine blk_far ?_ NB176_175.out _; refine sB ?_; refine blk_far ?_ NB176_175.out _; refine sB ?_; refine blk_far ?_ NB176_175.out _; refine sB ?_; exact BK176.out) hb); replace HB := AM (below_step (pH HB) hb); (try clear hb); (try clear hb2); (try clear hk); (try clear hi); (try clear ho0)) | ((with_reducible refine gate_dst (N := 4) rfl ?_); refine box_event ?hg (N := 4) ?hd (cs := #[.bool false, .slice none 0 0]) (t := 28) ?hr ?_; (case hd => rfl); (case hg => rfl); (case hr => first | (go_simp; done) | (go_simp; rfl)); intro gb187 hg w14 hbox hb; replace HO180 := AM (Kd.R_below (pR HO180) hb); replace HO185 := AM (Kd.R_below (pR HO185) hb); have BK187 := AM (hbox); have GW187 := gH HB hg; have GE187 := gH HB hg; replace HB := AM (below_step (pH HB) hb); have NB175_187 := nL BK175 hg; have NB187_175 := nG BK175 hg; replace BK175 := bB BK175 hb; have NB176_187 := nL BK176 hg; have NB187_176 := nG BK176 hg; replace BK176 := bB BK176 hb; clear hb hbox hg; have hnb15 := NB187_175.out; have hnc15 := NB175_187.out; have hnb16 := NB187_176.out; have hnc16 := NB176_187.out; have ⟨hcz17_0, hcz17_1, hfz17_0, hfz17_1⟩ := z2 BK187; obtain ⟨Ao18, co18, eo18⟩ := Kd.R_slice HO185.out; subst eo18; have ⟨hcz19_0, hcz19_1, hcz19_2, hfz19_0, hfz19_1, hfz19_2⟩ := z3 BK175; have ⟨hcz20_0, hcz20_1, hcz20_2, hfz20_0, hfz20_1, hfz20_2⟩ := z3 BK176))
   refine bodyPost_ret (results_ct rfl _ _ gb176 77 #[.bool false, .slice none 0 0, .int .i64 0] (0, 0) _ rfl (by refine sB ?_; refine blk_put (cs := #[.bool false, .slice none 0 0, .int .i64 0]) ?_ 2 _ rfl; refine sB ?_; refine blk_put (cs := #[.bool false, .slice none 0 0, .int .i64 0]) ?_ 1 _ rfl; refine sB ?_; refine blk_put (cs := #[.bool false, .slice none 0 0, .int .i64 0]) ?_ 0 _ rfl; refine sB ?_; refine blk_far ?_ NB176_187.out _; refine sB ?_; refine blk_far ?_ NB176_187.out _; refine sB ?_; exact BK176.out) Try.underlying77 rfl (by kernel_rfl)) rfl ?_
   exact ⟨_, by first | rfl | (simp [errW_none, errW_some] <;> rfl) | (simp [*, errW_none, errW_some] <;> rfl), by first | exact Kd.R_nil _ _ _ _ _ | exact Kd.N_nil _ _ _ _ _ | exact Kd.V_nil _ _ _ _ _ | exact Kd.Q_nil _ _ _ _ _ | exact Kd.S_nil _ _ _ _ _, pH HB⟩
 rw [if_neg c5] at H
 have c5b0 : decide (t181 < (-20000)) = false := decide_eq_false c5
 clear c5
 by_cases c21 : t181 > 20000
 · rw [if_pos c21] at H
   have c21b0 : decide (20000 < t181) = true := decide_eq_true c21
   clear c21
   simp only [Option.some.injEq, Prod.mk.injEq] at H
   obtain ⟨rfl, rfl, rfl, rfl⟩ := H
   go_enter Try.func101, Try.ntmps101
   go_wp2_with (first | ((with_reducible refine gate_dst (N := 1) rfl ?_); refine box_event ?hg (N := 1) ?hd (cs := #[.bool a0_0, .slice A0_1 l0_1.length c0_1, .int .i64 a0_2]) (t := 139) ?hr ?_; (case hd => rfl); (case hg => rfl); (case hr => first | (go_simp; done) | (go_simp; rfl)); intro gb175 hg w22 hbox hb; have BK175 := AM (hbox); have GW175 := gH HB hg; have GE175 := gH HB hg; replace HB := AM (below_step (pH HB) hb); clear hb hbox hg) | ((with_reducible refine gate_dst (N := 2) rfl ?_); refine box_event ?hg (N := 2) ?hd (cs := #[.bool false, .slice none 0 0, .int .i64 0]) (t := 77) ?hr ?_; (case hd => rfl); (case hg => rfl); (case hr => first | (go_simp; done) | (go_simp; rfl)); intro gb176 hg w23 hbox hb; have BK176 := AM (hbox); have GW176 := gH HB hg; have GE176 := gH HB hg; replace HB := AM (below_step (pH HB) hb); have NB175_176 := nL BK175 hg; have NB176_175 := nG BK175 hg; replace BK175 := bB BK175 hb; clear hb hbox hg; have hnb24 := NB175_176.out; have hnc24 := NB176_175.out; have ⟨hcz25_0, hcz25_1, hcz25_2, hfz25_0, hfz25_1, hfz25_2⟩ := z3 BK175) | ((with_reducible refine gate_callee (f := 139) rfl ?_); refine goesL_ (some 7) rfl rfl Try.func139 (by kernel_rfl) rfl #[.agg #[.bool a0_0, .slice A0_1 l0_1.length c0_1, .int .i64 a0_2]] rfl (by (try simp only [List.map_toArray, List.map_cons, List.map_nil]); first | done | rfl | (simp only [List.length_drop, List.length_take]; rfl)) ?_; (with_reducible refine (spec_l2norm.calls k a0_0 _ _ l0_1 a0_2 t177 t178 t181 _ ?side1 ?side2 A2.out).mono ?_); (case side1 => exact cB HR0_1 HB); (case side2 => exact HC0_1.out); rintro e w26 ⟨v179, rfl, ho0, hb⟩; refine ⟨_, rfl, ?_⟩; have HO180 := AM (Kd.R_lower ho0 (below_size (pH HB))); replace BK175 := bB BK175 hb; replace BK176 := bB BK176 hb; replace HB := AM (below_step (pH HB) hb); (try clear hb); (try clear hb2); (try clear hk); (try clear hi); (try clear ho0); have ⟨hcz27_0, hcz27_1, hcz27_2, hfz27_0, hfz27_1, hfz27_2⟩ := z3 BK175; obtain ⟨Ao28, co28, eo28⟩ := Kd.R_slice HO180.out; subst eo28) | ((with_reducible refine gate_callee (f := 57) rfl ?_); refine goesL_ (some 11) rfl rfl Try.func57 (by kernel_rfl) rfl #[.agg #[.bool t177, .slice Ao28 t178.length co28]] rfl (by (try simp only [List.map_toArray, List.map_cons, List.map_nil]); first | done | rfl | (simp only [List.length_drop, List.length_take]; rfl)) ?_; (with_reducible refine (spec_l1big.calls k t177 _ _ t178 t182 t183 t186 _ ?side1 ?side2 A3.out).mono ?_); (case side1 => refine (Kd.R_reads' (e := 3) (base := w.heap.size) (ok := fun k_ => True) (n := t178.length) (c := co28) ?_).2.2; exact (by (with_reducible repeat (first | apply Kd.R_alloc | apply Kd.R_drewN | apply Kd.R_drew)); exact (Kd.R_mono (Kd.R_far (p := ⟨gb175, 2, none⟩) (Kd.R_far (p := ⟨gb175, 1, none⟩) (Kd.R_far (p := ⟨gb175, 0, none⟩) (Kd.R_types HO180.out BK175.out (by decide)) (fun _ hk => hk.2) (.bool t177)) (fun _ hk => hk.2) (.slice Ao28 t178.length co28)) (fun _ hk => hk.2) (.int .i64 t181)) (fun _ h_ => h_.1)))); (case side2 => exact (Kd.R_reads' HO180.out).2.1); rintro e w29 ⟨v184, rfl, ho0, hb⟩; refine ⟨_, rfl, ?_⟩; replace HO180 := AM (Kd.R_below (by (with_reducible repeat (first | apply Kd.R_alloc | apply Kd.R_drewN | apply Kd.R_drew)); exact (Kd.R_mono (Kd.R_far (p := ⟨gb175, 2, none⟩) (Kd.R_far (p := ⟨gb175, 1, none⟩) (Kd.R_far (p := ⟨gb175, 0, none⟩) (Kd.R_types HO180.out BK175.out (by decide)) (fun _ hk => hk.2) (.bool t177)) (fun _ hk => hk.2) (.slice Ao28 t178.length co28)) (fun _ hk => hk.2) (.int .i64 t181)) (fun _ h_ => h_.1))) hb); have HO185 := AM (Kd.R_lower ho0 (below_size (pH HB))); replace BK175 := AM (blk_below (g := gb175) (o := .cells #[.bool t177, .slice Ao28 t178.length co28, .int .i64 t181] 139 (0, 0)) (by refine sB ?_; refine blk_put (cs := #[.bool t177, .slice Ao28 t178.length co28, .int .i64 a0_2]) ?_ 2 _ rfl; refine sB ?_; refine blk_put (cs := #[.bool t177, .slice A0_1 l0_1.length c0_1, .int .i64 a0_2]) ?_ 1 _ rfl; refine sB ?_; refine blk_put (cs := #[.bool a0_0, .slice A0_1 l0_1.length c0_1, .int .i64 a0_2]) ?_ 0 _ rfl; refine sB ?_; exact BK175.out) hb); replace BK176 := AM (blk_below (g := gb176) (o := .cells #[.bool false, .slice none 0 0, .int .i64 0] 77 (0, 0)) (by refine sB ?_; refine blk_far ?_ NB176_175.out _; refine sB ?_; refine blk_far ?_ NB176_175.out _; refine sB ?_; refine blk_far ?_ NB176_175.out _; refine sB ?_; exact BK176.out) hb); replace HB := AM (below_step (pH HB) hb); (try clear hb); (try clear hb2); (try clear hk); (try clear hi); (try clear ho0)) | ((with_reducible refine gate_dst (N := 4) rfl ?_); refine box_event ?hg (N := 4) ?hd (cs := #[.bool false, .slice none 0 0]) (t := 28) ?hr ?_; (case hd => rfl); (case hg => rfl); (case hr => first | (go_simp; done) | (go_simp; rfl)); intro gb187 hg w30 hbox hb; replace HO180 := AM (Kd.R_below (pR HO180) hb); replace HO185 := AM (Kd.R_below (pR HO185) hb); have BK187 := AM (hbox); have GW187 := gH HB hg; have GE187 := gH HB hg; replace HB := AM (below_step (pH HB) hb); have NB175_187 := nL BK175 hg; have NB187_175 := nG BK175 hg; replace BK175 := bB BK175 hb; have NB176_187 := nL BK176 hg; have NB187_176 := nG BK176 hg; replace BK176 := bB BK176 hb; clear hb hbox hg; have hnb31 := NB187_175.out; have hnc31 := NB175_187.out; have hnb32 := NB187_176.out; have hnc32 := NB176_187.out; have ⟨hcz33_0, hcz33_1, hfz33_0, hfz33_1⟩ := z2 BK187; obtain ⟨Ao34, co34, eo34⟩ := Kd.R_slice HO185.out; subst eo34; have ⟨hcz35_0, hcz35_1, hcz35_2, hfz35_0, hfz35_1, hfz35_2⟩ := z3 BK175; have ⟨hcz36_0, hcz36_1, hcz36_2, hfz36_0, hfz36_1, hfz36_2⟩ := z3 BK176))
   refine bodyPost_ret (results_ct rfl _ _ gb176 77 #[.bool false, .slice none 0 0, .int .i64 0] (0, 0) _ rfl (by refine sB ?_; refine blk_put (cs := #[.bool false, .slice none 0 0, .int .i64 0]) ?_ 2 _ rfl; refine sB ?_; refine blk_put (cs := #[.bool false, .slice none 0 0, .int .i64 0]) ?_ 1 _ rfl; refine sB ?_; refine blk_put (cs := #[.bool false, .slice none 0 0, .int .i64 0]) ?_ 0 _ rfl; refine sB ?_; refine blk_far ?_ NB176_187.out _; refine sB ?_; refine blk_far ?_ NB176_187.out _; refine sB ?_; exact BK176.out) Try.underlying77 rfl (by kernel_rfl)) rfl ?_
   exact ⟨_, by first | rfl | (simp [errW_none, errW_some] <;> rfl) | (simp [*, errW_none, errW_some] <;> rfl), by first | exact Kd.R_nil _ _ _ _ _ | exact Kd.N_nil _ _ _ _ _ | exact Kd.V_nil _ _ _ _ _ | exact Kd.Q_nil _ _ _ _ _ | exact Kd.S_nil _ _ _ _ _, pH HB⟩
 rw [if_neg c21] at H
 have c21b0 : decide (20000 < t181) = false := decide_eq_false c21
 clear c21
 simp only [Option.some.injEq, Prod.mk.injEq] at H
 obtain ⟨rfl, rfl, rfl, rfl⟩ := H
 go_enter Try.func101, Try.ntmps101
 go_wp2_with (first | ((with_reducible refine gate_dst (N := 1) rfl ?_); refine box_event ?hg (N := 1) ?hd (cs := #[.bool a0_0, .slice A0_1 l0_1.length c0_1, .int .i64 a0_2]) (t := 139) ?hr ?_; (case hd => rfl); (case hg => rfl); (case hr => first | (go_simp; done) | (go_simp; rfl)); intro gb175 hg w37 hbox hb; have BK175 := AM (hbox); have GW175 := gH HB hg; have GE175 := gH HB hg; replace HB := AM (below_step (pH HB) hb); clear hb hbox hg) | ((with_reducible refine gate_dst (N := 2) rfl ?_); refine box_event ?hg (N := 2) ?hd (cs := #[.bool false, .slice none 0 0, .int .i64 0]) (t := 77) ?hr ?_; (case hd => rfl); (case hg => rfl); (case hr => first | (go_simp; done) | (go_simp; rfl)); intro gb176 hg w38 hbox hb; have BK176 := AM (hbox); have GW176 := gH HB hg; have GE176 := gH HB hg; replace HB := AM (below_step (pH HB) hb); have NB175_176 := nL BK175 hg; have NB176_175 := nG BK175 hg; replace BK175 := bB BK175 hb; clear hb hbox hg; have hnb39 := NB175_176.out; have hnc39 := NB176_175.out; have ⟨hcz40_0, hcz40_1, hcz40_2, hfz40_0, hfz40_1, hfz40_2⟩ := z3 BK175) | ((with_reducible refine gate_callee (f := 139) rfl ?_); refine goesL_ (some 7) rfl rfl Try.func139 (by kernel_rfl) rfl #[.agg #[.bool a0_0, .slice A0_1 l0_1.length c0_1, .int .i64 a0_2]] rfl (by (try simp only [List.map_toArray, List.map_cons, List.map_nil]); first | done | rfl | (simp only [List.length_drop, List.length_take]; rfl)) ?_; (with_reducible refine (spec_l2norm.calls k a0_0 _ _ l0_1 a0_2 t177 t178 t181 _ ?side1 ?side2 A2.out).mono ?_); (case side1 => exact cB HR0_1 HB); (case side2 => exact HC0_1.out); rintro e w41 ⟨v179, rfl, ho0, hb⟩; refine ⟨_, rfl, ?_⟩; have HO180 := AM (Kd.R_lower ho0 (below_size (pH HB))); replace BK175 := bB BK175 hb; replace BK176 := bB BK176 hb; replace HB := AM (below_step (pH HB) hb); (try clear hb); (try clear hb2); (try clear hk); (try clear hi); (try clear ho0); have ⟨hcz42_0, hcz42_1, hcz42_2, hfz42_0, hfz42_1, hfz42_2⟩ := z3 BK175; obtain ⟨Ao43, co43, eo43⟩ := Kd.R_slice HO180.out; subst eo43) | ((with_reducible refine gate_callee (f := 57) rfl ?_); refine goesL_ (some 11) rfl rfl Try.func57 (by kernel_rfl) rfl #[.agg #[.bool t177, .slice Ao43 t178.length co43]] rfl (by (try simp only [List.map_toArray, List.map_cons, List.map_nil]); first | done | rfl | (simp only [List.length_drop, List.length_take]; rfl)) ?_; (with_reducible refine (spec_l1big.calls k t177 _ _ t178 t182 t183 t186 _ ?side1 ?side2 A3.out).mono ?_); (case side1 => refine (Kd.R_reads' (e := 3) (base := w.heap.size) (ok := fun k_ => True) (n := t178.length) (c := co43) ?_).2.2; exact (by (with_reducible repeat (first | apply Kd.R_alloc | apply Kd.R_drewN | apply Kd.R_drew)); exact (Kd.R_mono (Kd.R_far (p := ⟨gb175, 2, none⟩) (Kd.R_far (p := ⟨gb175, 1, none⟩) (Kd.R_far (p := ⟨gb175, 0, none⟩) (Kd.R_types HO180.out BK175.out (by decide)) (fun _ hk => hk.2) (.bool t177)) (fun _ hk => hk.2) (.slice Ao43 t178.length co43)) (fun _ hk => hk.2) (.int .i64 t181)) (fun _ h_ => h_.1)))); (case side2 => exact (Kd.R_reads' HO180.out).2.1); rintro e w44 ⟨v184, rfl, ho0, hb⟩; refine ⟨_, rfl, ?_⟩; replace HO180 := AM (Kd.R_below (by (with_reducible repeat (first | apply Kd.R_alloc | apply Kd.R_drewN | apply Kd.R_drew)); exact (Kd.R_mono (Kd.R_far (p := ⟨gb175, 2, none⟩) (Kd.R_far (p := ⟨gb175, 1, none⟩) (Kd.R_far (p := ⟨gb175, 0, none⟩) (Kd.R_types HO180.out BK175.out (by decide)) (fun _ hk => hk.2) (.bool t177)) (fun _ hk => hk.2) (.slice Ao43 t178.length co43)) (fun _ hk => hk.2) (.int .i64 t181)) (fun _ h_ => h_.1))) hb); have HO185 := AM (Kd.R_lower ho0 (below_size (pH HB))); replace BK175 := AM (blk_below (g := gb175) (o := .cells #[.bool t177, .slice Ao43 t178.length co43, .int .i64 t181] 139 (0, 0)) (by refine sB ?_; refine blk_put (cs := #[.bool t177, .slice Ao43 t178.length co43, .int .i64 a0_2]) ?_ 2 _ rfl; refine sB ?_; refine blk_put (cs := #[.bool t177, .slice A0_1 l0_1.length c0_1, .int .i64 a0_2]) ?_ 1 _ rfl; refine sB ?_; refine blk_put (cs := #[.bool a0_0, .slice A0_1 l0_1.length c0_1, .int .i64 a0_2]) ?_ 0 _ rfl; refine sB ?_; exact BK175.out) hb); replace BK176 := AM (blk_below (g := gb176) (o := .cells #[.bool false, .slice none 0 0, .int .i64 0] 77 (0, 0)) (by refine sB ?_; refine blk_far ?_ NB176_175.out _; refine sB ?_; refine blk_far ?_ NB176_175.out _; refine sB ?_; refine blk_far ?_ NB176_175.out _; refine sB ?_; exact BK176.out) hb); replace HB := AM (below_step (pH HB) hb); (try clear hb); (try clear hb2); (try clear hk); (try clear hi); (try clear ho0)) | ((with_reducible refine gate_dst (N := 4) rfl ?_); refine box_event ?hg (N := 4) ?hd (cs := #[.bool false, .slice none 0 0]) (t := 28) ?hr ?_; (case hd => rfl); (case hg => rfl); (case hr => first | (go_simp; done) | (go_simp; rfl)); intro gb187 hg w45 hbox hb; replace HO180 := AM (Kd.R_below (pR HO180) hb); replace HO185 := AM (Kd.R_below (pR HO185) hb); have BK187 := AM (hbox); have GW187 := gH HB hg; have GE187 := gH HB hg; replace HB := AM (below_step (pH HB) hb); have NB175_187 := nL BK175 hg; have NB187_175 := nG BK175 hg; replace BK175 := bB BK175 hb; have NB176_187 := nL BK176 hg; have NB187_176 := nG BK176 hg; replace BK176 := bB BK176 hb; clear hb hbox hg; have hnb46 := NB187_175.out; have hnc46 := NB175_187.out; have hnb47 := NB187_176.out; have hnc47 := NB176_187.out; have ⟨hcz48_0, hcz48_1, hfz48_0, hfz48_1⟩ := z2 BK187; obtain ⟨Ao49, co49, eo49⟩ := Kd.R_slice HO185.out; subst eo49; have ⟨hcz50_0, hcz50_1, hcz50_2, hfz50_0, hfz50_1, hfz50_2⟩ := z3 BK175; have ⟨hcz51_0, hcz51_1, hcz51_2, hfz51_0, hfz51_1, hfz51_2⟩ := z3 BK176))
 refine bodyPost_ret (results_ct rfl _ _ gb176 77 #[.bool t182, .slice Ao49 t183.length co49, .int .i64 t181] (0, 0) _ rfl (by refine sB ?_; refine blk_put (cs := #[.bool t182, .slice Ao49 t183.length co49, .int .i64 0]) ?_ 2 _ rfl; refine sB ?_; refine blk_put (cs := #[.bool t182, .slice none 0 0, .int .i64 0]) ?_ 1 _ rfl; refine sB ?_; refine blk_put (cs := #[.bool false, .slice none 0 0, .int .i64 0]) ?_ 0 _ rfl; refine sB ?_; refine blk_far ?_ NB176_187.out _; refine sB ?_; refine blk_far ?_ NB176_187.out _; refine sB ?_; exact BK176.out) Try.underlying77 rfl (by kernel_rfl)) rfl ?_
 exact ⟨_, by first | rfl | (simp [errW_none, errW_some] <;> rfl) | (simp [*, errW_none, errW_some] <;> rfl), by (with_reducible repeat (first | apply Kd.R_alloc | apply Kd.R_drewN | apply Kd.R_drew)); exact Kd.R_mono (Kd.R_far (p := ⟨gb176, 2, none⟩) (Kd.R_far (p := ⟨gb176, 1, none⟩) (Kd.R_far (p := ⟨gb176, 0, none⟩) (Kd.R_far (p := ⟨gb187, 1, none⟩) (Kd.R_far (p := ⟨gb187, 0, none⟩) (Kd.R_types (Kd.R_types HO185.out BK187.out (by decide)) BK176.out (by decide)) (fun _ hk => hk.1.2) (.bool t182)) (fun _ hk => hk.1.2) (.slice Ao49 t183.length co49)) (fun _ hk => hk.2) (.bool t182)) (fun _ hk => hk.2) (.slice Ao49 t183.length co49)) (fun _ hk => hk.2) (.int .i64 t181)) (fun _ hk => trivial), pH HB⟩
/-! ### spec_l1small: function 141 -/
mutual
def spec_l1small.j0 : Nat → Bool → Int → Option (Bool × List Int)
 | 0, _, _ => none
 | k + 1, x3, x4 => spec_l1small.l0 k x3 x4 ([] : List Int)
def spec_l1small.l0 : Nat → Bool → Int → List Int → Option (Bool × List Int)
 | 0, _, _, _ => none
 | k + 1, x3, x4, x5 => if x4 > 0 then (if x5.length < 17592186044416 then (spec_l1small.l0 k x3 (IntKind.u64.wrap (Int.tdiv x4 65536)) (x5 ++ [wrap64 (Int.tmod x4 65536)])) else (none)) else (some (x3, x5))
end
def spec_l1small.f (k : Nat) (a0 : Int) : Option (Bool × List Int) := if a0 < 0 then (spec_l1small.j0 k (decide (a0 < 0)) (IntKind.u64.wrap (-(IntKind.u64.wrap (a0))))) else (spec_l1small.j0 k (decide (a0 < 0)) (IntKind.u64.wrap (a0)))
theorem spec_l1small.mono_l : ∀ k, (∀ y0 y1, LeO (spec_l1small.j0 k y0 y1) (spec_l1small.j0 (k + 1) y0 y1)) ∧ (∀ y0 y1 y2, LeO (spec_l1small.l0 k y0 y1 y2) (spec_l1small.l0 (k + 1) y0 y1 y2))
 | 0 => ⟨fun _ _ r h => by simp [spec_l1small.j0] at h, fun _ _ _ r h => by simp [spec_l1small.l0] at h⟩
 | k + 1 => by
  obtain ⟨ih0, ih1⟩ := spec_l1small.mono_l k
  refine ⟨?_, ?_⟩
  · intro y0 y1
    unfold spec_l1small.j0
    repeat' with_reducible first | exact ih0 _ _ | exact ih1 _ _ _ | exact LeO.refl _ | exact LeO.none _ | refine LeO.ite ?_ ?_ | refine LeO.bind ?_ (fun _ => ?_)
  intro y0 y1 y2
  unfold spec_l1small.l0
  repeat' with_reducible first | exact ih0 _ _ | exact ih1 _ _ _ | exact LeO.refl _ | exact LeO.none _ | refine LeO.ite ?_ ?_ | refine LeO.bind ?_ (fun _ => ?_)
theorem spec_l1small.mono : ∀ a0 k, LeO (spec_l1small.f k a0) (spec_l1small.f (k + 1) a0) := by
 intro a0 k
 obtain ⟨ih0, ih1⟩ := spec_l1small.mono_l k
 unfold spec_l1small.f
 repeat' with_reducible first | exact ih0 _ _ | exact ih1 _ _ _ | exact LeO.refl _ | exact LeO.none _ | refine LeO.ite ?_ ?_ | refine LeO.bind ?_ (fun _ => ?_)
set_option maxHeartbeats 8000000 in
set_option maxRecDepth 100000 in
theorem spec_l1small.calls (k : Nat) (a0 : Int) (r1 : Bool) (r2 : List Int) (w : World) (h : spec_l1small.f k a0 = some (r1, r2)) :
 Calls Try.prog 141 #[.int .i64 a0] w fun e w' => ∃ v1_ : Value, e = .returned (.agg #[.bool r1, v1_]) ∧ Kd.R (Kd.int .i64) 3 w' w.heap.size (fun _ => True) v1_ r2 ∧ Below w.heap.size w w' := by
 have hu93 := Try.underlying93; have HB := AM (Below.refl w.heap.size w)
 have H : (if a0 < 0 then (spec_l1small.j0 k (decide (a0 < 0)) (IntKind.u64.wrap (-(IntKind.u64.wrap (a0))))) else (spec_l1small.j0 k (decide (a0 < 0)) (IntKind.u64.wrap (a0)))) = some (r1, r2) := h
 clear h; have HC2 := AM H; clear H
 go_enter Try.func141, Try.ntmps141
 go_upto_if 10 with (first | ((with_reducible refine gate_dst (N := 2) rfl ?_); refine box_event ?hg (N := 2) ?hd (cs := #[.bool false, .slice none 0 0]) (t := 93) ?hr ?_; (case hd => rfl); (case hg => rfl); (case hr => first | (go_simp; done) | (go_simp; rfl)); intro gb188 hg w3 hbox hb; have BK188 := AM (hbox); have GW188 := gH HB hg; have GE188 := gH HB hg; replace HB := AM (below_step (pH HB) hb); clear hb hbox hg))
 (try simp only [Act.put, List.setIfInBounds_toArray, List.set_cons_zero, List.set_cons_succ])
 go_cut [3, 4] (fun v3 v4 wc => ∃ (kq : Nat) (x4_1 : Int), v3 = .bool (decide (a0 < 0)) ∧ v4 = .int .u64 x4_1 ∧ Aside0 (spec_l1small.j0 kq (decide (a0 < 0)) x4_1 = some (r1, r2)) ∧ Aside0 (kq ≤ k) ∧ Aside0 (wc.heap[gb188]? = some (.cells #[.bool false, (.slice none 0 0)] 93 (0, 0))) ∧ Aside0 (Below w.heap.size w wc))
 case first =>
  have H := HC2.out; clear HC2
  by_cases c4 : a0 < 0
  · rw [if_pos c4] at H
    have c4b0 : decide (a0 < 0) = true := decide_eq_true c4
    clear c4
    (first | rw [c4b0] | (simp only [i64_w, i32_w]; rw [c4b0]) | skip)
    have H' := AM H
    clear H
    go_wp2
    go_meet
    case rel => exact ⟨_, (IntKind.u64.wrap (-(IntKind.u64.wrap (a0)))), (by rw [c4b0]), (by first | rfl | (simp; done) | (simp [*]; done)), H', ⟨by first | omega | exact Nat.le_refl _⟩, ⟨by refine sB ?_; exact BK188.out⟩, ⟨pH HB⟩⟩
  rw [if_neg c4] at H
  have c4b0 : decide (a0 < 0) = false := decide_eq_false c4
  clear c4
  (first | rw [c4b0] | (simp only [i64_w, i32_w]; rw [c4b0]) | skip)
  have H' := AM H
  clear H
  go_wp2
  go_meet
  case rel => exact ⟨_, (IntKind.u64.wrap (a0)), (by rw [c4b0]), (by first | rfl | (simp; done) | (simp [*]; done)), H', ⟨by first | omega | exact Nat.le_refl _⟩, ⟨by refine sB ?_; exact BK188.out⟩, ⟨pH HB⟩⟩
 case rest =>
  clear HC2
  try clear c1
  try clear p2
  try clear c4
  try clear c4b0
  obtain ⟨kq, x4_1, rfl, rfl, HA, HJ1, BK188, HB⟩ := hcut
  cases kq with
  | zero => exact absurd HA.out (by simp [spec_l1small.j0])
  | succ kj1 =>
   have H := HA.out; clear HA
   simp only [spec_l1small.j0] at H
   have H' := AM H
   clear H
   go_wp2
   go_loopg [4, 5] kj1 (fun kq v4 v5 w' => ∃ (x4_2 : Int) (x5_2 : List Int), v4 = .int .u64 x4_2 ∧ Aside0 (spec_l1small.l0 kq (decide (a0 < 0)) x4_2 x5_2 = some (r1, r2)) ∧ Aside0 (kq ≤ kj1) ∧ Aside0 (Kd.R (Kd.int .i64) 3 w' w.heap.size (fun _ => True) v5 x5_2) ∧ Aside0 (w'.heap[gb188]? = some (.cells #[.bool false, (.slice none 0 0)] 93 (0, 0))) ∧ Aside0 (Below w.heap.size w w'))
   case atStart => exact ⟨(x4_1), (([] : List Int)), (by first | rfl | (simp; done) | (simp [*]; done)), H', ⟨Nat.le_refl _⟩, ⟨by first | exact Kd.R_nil _ _ _ _ _ | exact Kd.N_nil _ _ _ _ _ | exact Kd.V_nil _ _ _ _ _ | exact Kd.Q_nil _ _ _ _ _ | exact Kd.S_nil _ _ _ _ _⟩, ⟨by refine sB ?_; exact BK188.out⟩, ⟨pH HB⟩⟩
   case round =>
    clear H'
    try clear c1
    try clear p2
    try clear c4
    try clear c4b0
    try clear p2
    obtain ⟨x4_2, x5_2, rfl, HA, HK2, HO_5, BK188, HB⟩ := hrel
    cases gk with
    | zero => exact absurd HA.out (by simp [spec_l1small.l0])
    | succ k2 =>
     have H := HA.out; clear HA
     simp only [spec_l1small.l0] at H
     by_cases c5 : x4_2 > 0
     rotate_left
     · rw [if_neg c5] at H
       have c5b0 : decide (0 < x4_2) = false := decide_eq_false c5
       clear c5
       simp only [Option.some.injEq, Prod.mk.injEq] at H
       obtain ⟨rfl, rfl⟩ := H
       obtain ⟨Ao8, co8, eo8⟩ := Kd.R_slice HO_5.out
       subst eo8
       have hcz9_0 : wr.cell? ⟨gb188, 0, none⟩ = some (.bool false) := (blk_cell BK188.out 0).trans rfl
       have hcz9_1 : wr.cell? ⟨gb188, 1, none⟩ = some (.slice none 0 0) := (blk_cell BK188.out 1).trans rfl
       have hfz9_0 := blk_frozen BK188.out 0; have hfz9_1 := blk_frozen BK188.out 1
       go_wp2
       refine bodyPost_ret (results_cell_row rfl _ _ gb188 93 #[.bool (decide (a0 < 0)), .slice Ao8 x5_2.length co8] (0, 0) _ rfl (by refine sB ?_; refine blk_put (cs := #[.bool (decide (a0 < 0)), .slice none 0 0]) ?_ 1 _ rfl; refine sB ?_; refine blk_put (cs := #[.bool false, .slice none 0 0]) ?_ 0 _ rfl; refine sB ?_; exact BK188.out) Try.underlying93 rfl (by kernel_rfl)) rfl ?_
       exact ⟨_, by first | rfl | (simp [errW_none, errW_some] <;> rfl) | (simp [*, errW_none, errW_some] <;> rfl), by (with_reducible repeat (first | apply Kd.R_alloc | apply Kd.R_drewN | apply Kd.R_drew)); exact Kd.R_mono (Kd.R_far (p := ⟨gb188, 1, none⟩) (Kd.R_far (p := ⟨gb188, 0, none⟩) (Kd.R_types HO_5.out BK188.out (by decide)) (fun _ hk => hk.2) (.bool (decide (a0 < 0)))) (fun _ hk => hk.2) (.slice Ao8 x5_2.length co8)) (fun _ hk => trivial), pH HB⟩

     rw [if_pos c5] at H
     have c5b0 : decide (0 < x4_2) = true := decide_eq_true c5
     clear c5
     by_cases c6 : x5_2.length < 17592186044416
     rotate_left
     · rw [if_neg c6] at H
       exact absurd H (by simp)
     rw [if_pos c6] at H
     have LMc6 := AM c6; clear c6
     obtain ⟨y189, hy189⟩ : ∃ y_ : List Int, y_ = (x5_2 ++ [wrap64 (Int.tmod x4_2 65536)]) := ⟨_, rfl⟩
     replace H : (spec_l1small.l0 k2 (decide (a0 < 0)) (IntKind.u64.wrap (Int.tdiv x4_2 65536)) y189) = some (r1, r2) := by first | (rw [hy189]; with_reducible exact H) | (have H2_ := (Option.bind_some _ _).symm.trans H; rw [hy189]; with_reducible exact H2_) | (have H2_ := (Option.bind_some _ _).symm.trans H; with_reducible exact H2_) | with_reducible exact H | (rw [hy189]; exact H) | exact H
     have Ny189 := AM hy189; clear hy189
     have H' := AM H
     clear H
     go_wp2_with (first | ((with_reducible refine gate_builtin (b := .append) (xs := #[.tmp 15, .tmp 19]) rfl ?_); at_builtin; refine Kd.R_append (Kd.int .i64) (w0 := w) w.heap.size rfl (.tmp 15) (.tmp 19) 36 3 (.int .i64 0) 8 rfl Try.underlying36 info3 rfl (by decide) (by omega) u5 x5_2 (wrap64 (Int.tmod x4_2 65536)) [.int .i64 (wrap64 (Int.tmod x4_2 65536))] (fun _ => True) (fun _ => False) rfl rfl ?aP (fun _ hk => hk.elim) ?aF ?aO ?aB ?aS ?aL ?_; (case aP => exact rfl); (case aB => exact (pH HB)); (case aF => exact (fun _ _ => trivial)); (case aO => exact (pR HO_5)); (case aS => exact (below_size (pH HB))); (case aL => have := LMc6.out; omega); intro v190 w7 ho hb hg hat; rw [← Ny189.out] at ho; replace BK188 := AM (blk_grown (g := gb188) (o := .cells #[.bool false, .slice none 0 0] 93 (0, 0)) (pB BK188) hg (Kd.R_ne HO_5.out BK188.out (by decide))); replace HB := AM (hb); have HO191 := AM (ho); clear HO_5; clear ho hb hg hat))
     go_roundg k2
     case measure => have := HJ1.out; have := HK2.out; omega
     case rel => exact ⟨(IntKind.u64.wrap (Int.tdiv x4_2 65536)), (y189), (by first | rfl | (simp; done) | (simp [*]; done)), H', ⟨by have := HJ1.out; have := HK2.out; omega⟩, ⟨by (with_reducible repeat (first | apply Kd.R_alloc | apply Kd.R_drewN | apply Kd.R_drew)); exact HO191.out⟩, ⟨by refine sB ?_; exact BK188.out⟩, ⟨pH HB⟩⟩
end Go.Proofs.Ytcpdeenhjodmfaa.QDyOf
