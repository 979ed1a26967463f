-- Written by wip/tools/mkprint.py (my program) out of the translation, for this claim. Not trusted: Lean checks it.
import Derived.Test.YtcpdeenhjodmfaaQDyMulx0
import Derived.Test.YtcpdeenhjodmfaaQDyMulx1
import Derived.Test.YtcpdeenhjodmfaaQDyMulx2
namespace Go.Proofs.Ytcpdeenhjodmfaa.QDyMul
open Go.RowKit Go.Proofs.YtcpdeenhjodmfaaW.PrintWords Go.Proofs.YtcpdeenhjodmfaaW.PrintLast Go.Proofs.YtcpdeenhjodmfaaW.PrintMore
attribute [local go_sem] max2_int min2_int max_two min_two max_three min_three max_four min_four   -- for this text's walks alone
set_option linter.unusedVariables false
set_option linter.unusedSimpArgs false

/-! ### spec_l1mul: function 58 -/
mutual
def spec_l1mul.l0 : Nat → List Int → Int → Bool → List Int → Bool → List Int → Option (Bool × List Int)
 | 0, _, _, _, _, _, _ => none
 | k + 1, x5, x6, x177000, x177001, x178000, x178001 => if x6 < (x177001.length : Int) then (spec_l1mul.l1 k x5 x6 0 0 x177000 x177001 x178000 x178001) else ((spec_l1make.f k (!(x177000 == x178000)) x5).bind fun bt182 => (some (bt182.1, bt182.2)))
def spec_l1mul.l1 : Nat → List Int → Int → Int → Int → Bool → List Int → Bool → List Int → Option (Bool × List Int)
 | 0, _, _, _, _, _, _, _, _ => none
 | k + 1, x5, x6, x7, x8, x177000, x177001, x178000, x178001 => if x8 < (x178001.length : Int) then (spec_l1mul.j2 k x5 x6 x7 x8 true x177000 x177001 x178000 x178001) else (spec_l1mul.j2 k x5 x6 x7 x8 (decide (x7 > 0)) x177000 x177001 x178000 x178001)
def spec_l1mul.j2 : Nat → List Int → Int → Int → Int → Bool → Bool → List Int → Bool → List Int → Option (Bool × List Int)
 | 0, _, _, _, _, _, _, _, _, _ => none
 | k + 1, x5, x6, x7, x8, x34, x177000, x177001, x178000, x178001 => if x34 = true then (if 0 ≤ (wrap64 (x6 + x8)) then (if (wrap64 (x6 + x8)) < (x5.length : Int) then (if x8 < (x178001.length : Int) then (if 0 ≤ x6 then (if x6 < (x177001.length : Int) then (if 0 ≤ x8 then (spec_l1mul.l1 k (x5.set ((wrap64 (x6 + x8)) : Int).toNat (Int.tmod (wrap64 ((wrap64 ((rd x5 (wrap64 (x6 + x8))) + x7)) + (wrap64 ((rd x177001 x6) * (rd x178001 x8))))) 65536)) x6 (wrap64 (Int.tdiv (wrap64 ((wrap64 ((rd x5 (wrap64 (x6 + x8))) + x7)) + (wrap64 ((rd x177001 x6) * (rd x178001 x8))))) 65536)) (wrap64 (x8 + 1)) x177000 x177001 x178000 x178001) else (none)) else (none)) else (none)) else (spec_l1mul.l1 k (x5.set ((wrap64 (x6 + x8)) : Int).toNat (Int.tmod (wrap64 ((rd x5 (wrap64 (x6 + x8))) + x7)) 65536)) x6 (wrap64 (Int.tdiv (wrap64 ((rd x5 (wrap64 (x6 + x8))) + x7)) 65536)) (wrap64 (x8 + 1)) x177000 x177001 x178000 x178001)) else (none)) else (none)) else (spec_l1mul.l0 k x5 (wrap64 (x6 + 1)) x177000 x177001 x178000 x178001)
end
def spec_l1mul.f (k : Nat) (a0_0 : Bool) (l0_1 : List Int) (a1_0 : Bool) (l1_1 : List Int) : Option (Bool × List Int) := if 0 ≤ (wrap64 ((wrap64 ((l0_1.length : Int) + (l1_1.length : Int))) + 1)) then (if (wrap64 ((wrap64 ((l0_1.length : Int) + (l1_1.length : Int))) + 1) : Int).toNat ≤ 35184372088832 then (spec_l1mul.l0 k (List.replicate (wrap64 ((wrap64 ((l0_1.length : Int) + (l1_1.length : Int))) + 1) : Int).toNat 0) 0 a0_0 l0_1 a1_0 l1_1) else (none)) else (none)
theorem spec_l1mul.mono_l : ∀ k, (∀ y0 y1 y2 y3 y4 y5, LeO (spec_l1mul.l0 k y0 y1 y2 y3 y4 y5) (spec_l1mul.l0 (k + 1) y0 y1 y2 y3 y4 y5)) ∧ (∀ y0 y1 y2 y3 y4 y5 y6 y7, LeO (spec_l1mul.l1 k y0 y1 y2 y3 y4 y5 y6 y7) (spec_l1mul.l1 (k + 1) y0 y1 y2 y3 y4 y5 y6 y7)) ∧ (∀ y0 y1 y2 y3 y4 y5 y6 y7 y8, LeO (spec_l1mul.j2 k y0 y1 y2 y3 y4 y5 y6 y7 y8) (spec_l1mul.j2 (k + 1) y0 y1 y2 y3 y4 y5 y6 y7 y8))
 | 0 => ⟨fun _ _ _ _ _ _ r h => by simp [spec_l1mul.l0] at h, fun _ _ _ _ _ _ _ _ r h => by simp [spec_l1mul.l1] at h, fun _ _ _ _ _ _ _ _ _ r h => by simp [spec_l1mul.j2] at h⟩
 | k + 1 => by
  obtain ⟨ih0, ih1, ih2⟩ := spec_l1mul.mono_l k
  refine ⟨?_, ?_, ?_⟩
  · intro y0 y1 y2 y3 y4 y5
    unfold spec_l1mul.l0
    repeat' with_reducible first | exact ih0 _ _ _ _ _ _ | exact ih1 _ _ _ _ _ _ _ _ | exact ih2 _ _ _ _ _ _ _ _ _ | exact spec_l1make.mono _ _ _ | exact LeO.refl _ | exact LeO.none _ | refine LeO.ite ?_ ?_ | refine LeO.bind ?_ (fun _ => ?_)
  · intro y0 y1 y2 y3 y4 y5 y6 y7
    unfold spec_l1mul.l1
    repeat' with_reducible first | exact ih0 _ _ _ _ _ _ | exact ih1 _ _ _ _ _ _ _ _ | exact ih2 _ _ _ _ _ _ _ _ _ | exact spec_l1make.mono _ _ _ | exact LeO.refl _ | exact LeO.none _ | refine LeO.ite ?_ ?_ | refine LeO.bind ?_ (fun _ => ?_)
  intro y0 y1 y2 y3 y4 y5 y6 y7 y8
  unfold spec_l1mul.j2
  repeat' with_reducible first | exact ih0 _ _ _ _ _ _ | exact ih1 _ _ _ _ _ _ _ _ | exact ih2 _ _ _ _ _ _ _ _ _ | exact spec_l1make.mono _ _ _ | exact LeO.refl _ | exact LeO.none _ | refine LeO.ite ?_ ?_ | refine LeO.bind ?_ (fun _ => ?_)
theorem spec_l1mul.mono : ∀ a0 a1 a2 a3 k, LeO (spec_l1mul.f k a0 a1 a2 a3) (spec_l1mul.f (k + 1) a0 a1 a2 a3) := by
 intro a0 a1 a2 a3 k
 obtain ⟨ih0, ih1, ih2⟩ := spec_l1mul.mono_l k
 unfold spec_l1mul.f
 repeat' with_reducible first | exact ih0 _ _ _ _ _ _ | exact ih1 _ _ _ _ _ _ _ _ | exact ih2 _ _ _ _ _ _ _ _ _ | exact spec_l1make.mono _ _ _ | exact LeO.refl _ | exact LeO.none _ | refine LeO.ite ?_ ?_ | refine LeO.bind ?_ (fun _ => ?_)
set_option maxHeartbeats 8000000 in
set_option maxRecDepth 100000 in
theorem spec_l1mul.calls (k : Nat) (a0_0 : Bool) (A0_1 : Option Addr) (c0_1 : Nat) (l0_1 : List Int) (a1_0 : Bool) (A1_1 : Option Addr) (c1_1 : Nat) (l1_1 : List Int) (r1 : Bool) (r2 : List Int) (w : World) (hr0_1 : Kd.C (Kd.int .i64) w A0_1 l0_1.length l0_1) (hc0_1 : l0_1.length ≤ c0_1) (hr1_1 : Kd.C (Kd.int .i64) w A1_1 l1_1.length l1_1) (hc1_1 : l1_1.length ≤ c1_1) (h : spec_l1mul.f k a0_0 l0_1 a1_0 l1_1 = some (r1, r2)) :
 Calls Try.prog 58 #[.agg #[.bool a0_0, .slice A0_1 l0_1.length c0_1], .agg #[.bool a1_0, .slice A1_1 l1_1.length c1_1]] w fun e w' => ∃ v1_ : Value, e = .returned (.agg #[.bool r1, v1_]) ∧ Kd.R (Kd.int .i64) 3 w' w.heap.size (fun _ => True) v1_ r2 ∧ Below w.heap.size w w' := by
 have hu93 := Try.underlying93; have HR0_1 := AM hr0_1; have HC0_1 := AM hc0_1; clear hr0_1 hc0_1; have HR1_1 := AM hr1_1; have HC1_1 := AM hc1_1; clear hr1_1 hc1_1; have HB := AM (Below.refl w.heap.size w)
 have H : (if 0 ≤ (wrap64 ((wrap64 ((l0_1.length : Int) + (l1_1.length : Int))) + 1)) then (if (wrap64 ((wrap64 ((l0_1.length : Int) + (l1_1.length : Int))) + 1) : Int).toNat ≤ 35184372088832 then (spec_l1mul.l0 k (List.replicate (wrap64 ((wrap64 ((l0_1.length : Int) + (l1_1.length : Int))) + 1) : Int).toNat 0) 0 a0_0 l0_1 a1_0 l1_1) else (none)) else (none)) = some (r1, r2) := h
 clear h
 obtain ⟨ji3, hji3⟩ : ∃ j_ : Int, (wrap64 ((wrap64 ((l0_1.length : Int) + (l1_1.length : Int))) + 1)) = j_ := ⟨_, rfl⟩
 replace H : (if 0 ≤ (ji3) then (if (ji3 : Int).toNat ≤ 35184372088832 then (spec_l1mul.l0 k (List.replicate (ji3 : Int).toNat 0) 0 a0_0 l0_1 a1_0 l1_1) else (none)) else (none)) = some (r1, r2) := by first | (rw [hji3] at H; exact H) | (simp only [hji3] at H ⊢; exact H)
 have hji3w : (IntKind.i64.wrap ((wrap64 ((l0_1.length : Int) + (l1_1.length : Int))) + 1)) = ji3 := (i64_w _).trans hji3
 by_cases c4 : 0 ≤ (ji3)
 rotate_left
 · rw [if_neg c4] at H
   exact absurd H (by simp)

 rw [if_pos c4] at H
 have c4b0 := eq_true c4
 have c4b1 : decide (0 ≤ (ji3)) = true := decide_eq_true c4
 clear c4
 by_cases c5 : (ji3 : Int).toNat ≤ 35184372088832
 rotate_left
 · rw [if_neg c5] at H
   exact absurd H (by simp)
 rw [if_pos c5] at H
 have c5b0 := eq_true c5
 have c5b1 : decide ((ji3 : Int).toNat ≤ 35184372088832) = true := decide_eq_true c5
 clear c5
 obtain ⟨y179, hy179⟩ : ∃ y_ : List Int, y_ = (List.replicate (ji3 : Int).toNat 0) := ⟨_, rfl⟩
 replace H : (spec_l1mul.l0 k y179 0 a0_0 l0_1 a1_0 l1_1) = some (r1, r2) := by first | (rw [hy179]; with_reducible exact H) | (have H2_ := (Option.bind_some _ _).symm.trans H; rw [hy179]; with_reducible exact H2_) | (have H2_ := (Option.bind_some _ _).symm.trans H; with_reducible exact H2_) | with_reducible exact H | (rw [hy179]; exact H) | exact H
 have Ny179 := AM hy179; clear hy179
 have H' := AM H
 clear H
 go_enter Try.func58, Try.ntmps58
 go_wp2_with (first | ((with_reducible refine gate_dst (N := 2) rfl ?_); refine box_event ?hg (N := 2) ?hd (cs := #[.bool a0_0, .slice A0_1 l0_1.length c0_1]) (t := 93) ?hr ?_; (case hd => rfl); (case hg => rfl); (case hr => first | (go_simp; done) | (go_simp; rfl)); intro gb176 hg w6 hbox hb; have BK176 := AM (hbox); have GW176 := gH HB hg; have GE176 := gH HB hg; replace HB := AM (below_step (pH HB) hb); clear hb hbox hg) | ((with_reducible refine gate_dst (N := 3) rfl ?_); refine box_event ?hg (N := 3) ?hd (cs := #[.bool a1_0, .slice A1_1 l1_1.length c1_1]) (t := 93) ?hr ?_; (case hd => rfl); (case hg => rfl); (case hr => first | (go_simp; done) | (go_simp; rfl)); intro gb177 hg w7 hbox hb; have BK177 := AM (hbox); have GW177 := gH HB hg; have GE177 := gH HB hg; replace HB := AM (below_step (pH HB) hb); have NB176_177 := nL BK176 hg; have NB177_176 := nG BK176 hg; replace BK176 := bB BK176 hb; clear hb hbox hg) | ((with_reducible refine gate_dst (N := 4) rfl ?_); refine box_event ?hg (N := 4) ?hd (cs := #[.bool false, .slice none 0 0]) (t := 93) ?hr ?_; (case hd => rfl); (case hg => rfl); (case hr => first | (go_simp; done) | (go_simp; rfl)); intro gb178 hg w8 hbox hb; have BK178 := AM (hbox); have GW178 := gH HB hg; have GE178 := gH HB hg; replace HB := AM (below_step (pH HB) hb); have NB176_178 := nL BK176 hg; have NB178_176 := nG BK176 hg; replace BK176 := bB BK176 hb; have NB177_178 := nL BK177 hg; have NB178_177 := nG BK177 hg; replace BK177 := bB BK177 hb; clear hb hbox hg; have hnb9 := NB176_177.out; have hnc9 := NB177_176.out; have hnb10 := NB176_178.out; have hnc10 := NB178_176.out; have ⟨hcz11_0, hcz11_1, hfz11_0, hfz11_1⟩ := z2 BK176; have hnb12 := NB177_178.out; have hnc12 := NB178_177.out; have ⟨hcz13_0, hcz13_1, hfz13_0, hfz13_1⟩ := z2 BK177) | ((with_reducible refine gate_dst (N := 18) rfl ?_); refine Kd.R_make (Kd.int .i64) _ 3 rfl (N := 18) rfl 36 _ _ rfl ji3 rfl rfl Try.underlying36 (.int .i64 0) 8 info3 rfl (by decide) (by omega) 0 (ok := fun _ => True) (okp := fun _ => True) rfl (fun _ hk => hk) trivial (of_decide_eq_true (by first | (with_reducible assumption) | assumption)) (Nat.le_trans (Nat.mul_le_mul_right _ (of_decide_eq_true (by first | (with_reducible assumption) | assumption) : ji3.toNat ≤ 35184372088832)) (by omega)) (Below.refl _ _) (Nat.le_refl _) ?_; intro v180 w14 ho15 hb hg_ hnew_; clear hg_ hnew_; (first | rw [← Ny179.out] at ho15 | (simp only [Int.reduceToNat] at ho15; rw [← Ny179.out] at ho15)); have HO181 := AM (Kd.R_lower ho15 (below_size (pH HB))); replace BK176 := bB BK176 hb; replace BK177 := bB BK177 hb; replace BK178 := bB BK178 hb; replace HB := AM (below_step (pH HB) hb); clear hb ho15))
 repeat (go_quiet (first | ((with_reducible refine gate_dst (N := 2) rfl ?_); refine box_event ?hg (N := 2) ?hd (cs := #[.bool a0_0, .slice A0_1 l0_1.length c0_1]) (t := 93) ?hr ?_; (case hd => rfl); (case hg => rfl); (case hr => first | (go_simp; done) | (go_simp; rfl)); intro gb176 hg w6 hbox hb; have BK176 := AM (hbox); have GW176 := gH HB hg; have GE176 := gH HB hg; replace HB := AM (below_step (pH HB) hb); clear hb hbox hg) | ((with_reducible refine gate_dst (N := 3) rfl ?_); refine box_event ?hg (N := 3) ?hd (cs := #[.bool a1_0, .slice A1_1 l1_1.length c1_1]) (t := 93) ?hr ?_; (case hd => rfl); (case hg => rfl); (case hr => first | (go_simp; done) | (go_simp; rfl)); intro gb177 hg w7 hbox hb; have BK177 := AM (hbox); have GW177 := gH HB hg; have GE177 := gH HB hg; replace HB := AM (below_step (pH HB) hb); have NB176_177 := nL BK176 hg; have NB177_176 := nG BK176 hg; replace BK176 := bB BK176 hb; clear hb hbox hg) | ((with_reducible refine gate_dst (N := 4) rfl ?_); refine box_event ?hg (N := 4) ?hd (cs := #[.bool false, .slice none 0 0]) (t := 93) ?hr ?_; (case hd => rfl); (case hg => rfl); (case hr => first | (go_simp; done) | (go_simp; rfl)); intro gb178 hg w8 hbox hb; have BK178 := AM (hbox); have GW178 := gH HB hg; have GE178 := gH HB hg; replace HB := AM (below_step (pH HB) hb); have NB176_178 := nL BK176 hg; have NB178_176 := nG BK176 hg; replace BK176 := bB BK176 hb; have NB177_178 := nL BK177 hg; have NB178_177 := nG BK177 hg; replace BK177 := bB BK177 hb; clear hb hbox hg; have hnb9 := NB176_177.out; have hnc9 := NB177_176.out; have hnb10 := NB176_178.out; have hnc10 := NB178_176.out; have ⟨hcz11_0, hcz11_1, hfz11_0, hfz11_1⟩ := z2 BK176; have hnb12 := NB177_178.out; have hnc12 := NB178_177.out; have ⟨hcz13_0, hcz13_1, hfz13_0, hfz13_1⟩ := z2 BK177) | ((with_reducible refine gate_dst (N := 18) rfl ?_); refine Kd.R_make (Kd.int .i64) _ 3 rfl (N := 18) rfl 36 _ _ rfl ji3 rfl rfl Try.underlying36 (.int .i64 0) 8 info3 rfl (by decide) (by omega) 0 (ok := fun _ => True) (okp := fun _ => True) rfl (fun _ hk => hk) trivial (of_decide_eq_true (by first | (with_reducible assumption) | assumption)) (Nat.le_trans (Nat.mul_le_mul_right _ (of_decide_eq_true (by first | (with_reducible assumption) | assumption) : ji3.toNat ≤ 35184372088832)) (by omega)) (Below.refl _ _) (Nat.le_refl _) ?_; intro v180 w14 ho15 hb hg_ hnew_; clear hg_ hnew_; (first | rw [← Ny179.out] at ho15 | (simp only [Int.reduceToNat] at ho15; rw [← Ny179.out] at ho15)); have HO181 := AM (Kd.R_lower ho15 (below_size (pH HB))); replace BK176 := bB BK176 hb; replace BK177 := bB BK177 hb; replace BK178 := bB BK178 hb; replace HB := AM (below_step (pH HB) hb); clear hb ho15)); try go_wp2_with (first | ((with_reducible refine gate_dst (N := 2) rfl ?_); refine box_event ?hg (N := 2) ?hd (cs := #[.bool a0_0, .slice A0_1 l0_1.length c0_1]) (t := 93) ?hr ?_; (case hd => rfl); (case hg => rfl); (case hr => first | (go_simp; done) | (go_simp; rfl)); intro gb176 hg w6 hbox hb; have BK176 := AM (hbox); have GW176 := gH HB hg; have GE176 := gH HB hg; replace HB := AM (below_step (pH HB) hb); clear hb hbox hg) | ((with_reducible refine gate_dst (N := 3) rfl ?_); refine box_event ?hg (N := 3) ?hd (cs := #[.bool a1_0, .slice A1_1 l1_1.length c1_1]) (t := 93) ?hr ?_; (case hd => rfl); (case hg => rfl); (case hr => first | (go_simp; done) | (go_simp; rfl)); intro gb177 hg w7 hbox hb; have BK177 := AM (hbox); have GW177 := gH HB hg; have GE177 := gH HB hg; replace HB := AM (below_step (pH HB) hb); have NB176_177 := nL BK176 hg; have NB177_176 := nG BK176 hg; replace BK176 := bB BK176 hb; clear hb hbox hg) | ((with_reducible refine gate_dst (N := 4) rfl ?_); refine box_event ?hg (N := 4) ?hd (cs := #[.bool false, .slice none 0 0]) (t := 93) ?hr ?_; (case hd => rfl); (case hg => rfl); (case hr => first | (go_simp; done) | (go_simp; rfl)); intro gb178 hg w8 hbox hb; have BK178 := AM (hbox); have GW178 := gH HB hg; have GE178 := gH HB hg; replace HB := AM (below_step (pH HB) hb); have NB176_178 := nL BK176 hg; have NB178_176 := nG BK176 hg; replace BK176 := bB BK176 hb; have NB177_178 := nL BK177 hg; have NB178_177 := nG BK177 hg; replace BK177 := bB BK177 hb; clear hb hbox hg; have hnb9 := NB176_177.out; have hnc9 := NB177_176.out; have hnb10 := NB176_178.out; have hnc10 := NB178_176.out; have ⟨hcz11_0, hcz11_1, hfz11_0, hfz11_1⟩ := z2 BK176; have hnb12 := NB177_178.out; have hnc12 := NB178_177.out; have ⟨hcz13_0, hcz13_1, hfz13_0, hfz13_1⟩ := z2 BK177) | ((with_reducible refine gate_dst (N := 18) rfl ?_); refine Kd.R_make (Kd.int .i64) _ 3 rfl (N := 18) rfl 36 _ _ rfl ji3 rfl rfl Try.underlying36 (.int .i64 0) 8 info3 rfl (by decide) (by omega) 0 (ok := fun _ => True) (okp := fun _ => True) rfl (fun _ hk => hk) trivial (of_decide_eq_true (by first | (with_reducible assumption) | assumption)) (Nat.le_trans (Nat.mul_le_mul_right _ (of_decide_eq_true (by first | (with_reducible assumption) | assumption) : ji3.toNat ≤ 35184372088832)) (by omega)) (Below.refl _ _) (Nat.le_refl _) ?_; intro v180 w14 ho15 hb hg_ hnew_; clear hg_ hnew_; (first | rw [← Ny179.out] at ho15 | (simp only [Int.reduceToNat] at ho15; rw [← Ny179.out] at ho15)); have HO181 := AM (Kd.R_lower ho15 (below_size (pH HB))); replace BK176 := bB BK176 hb; replace BK177 := bB BK177 hb; replace BK178 := bB BK178 hb; replace HB := AM (below_step (pH HB) hb); clear hb ho15)))
 go_loopg [6] k (fun kq v6 w' => ∃ (x5_1 : List Int) (x6_1 : Int), v6 = .int .i64 x6_1 ∧ Aside0 (spec_l1mul.l0 kq x5_1 x6_1 a0_0 l0_1 a1_0 l1_1 = some (r1, r2)) ∧ Aside0 (kq ≤ k) ∧ Aside0 (Kd.R (Kd.int .i64) 3 w' w.heap.size (fun _ => True) v180 x5_1) ∧ Aside0 (w'.heap[gb176]? = some (.cells #[.bool a0_0, (.slice A0_1 l0_1.length c0_1)] 93 (0, 0))) ∧ Aside0 (w'.heap[gb177]? = some (.cells #[.bool a1_0, (.slice A1_1 l1_1.length c1_1)] 93 (0, 0))) ∧ Aside0 (w'.heap[gb178]? = some (.cells #[.bool false, (.slice none 0 0)] 93 (0, 0))) ∧ Aside0 (Below w.heap.size w w'))
 case atStart => exact ⟨(y179), (0), (by first | rfl | (simp; done) | (simp [*]; done)), H', ⟨Nat.le_refl _⟩, ⟨by (with_reducible repeat (first | apply Kd.R_alloc | apply Kd.R_drewN | apply Kd.R_drew)); exact HO181.out⟩, ⟨by refine sB ?_; exact BK176.out⟩, ⟨by refine sB ?_; exact BK177.out⟩, ⟨by refine sB ?_; exact BK178.out⟩, ⟨pH HB⟩⟩
 case round =>
  clear H'
  try clear c1
  try clear p2
  try clear c4
  try clear c4b0
  try clear c4b1
  try clear c5
  try clear c5b0
  try clear c5b1
  try clear p6
  try clear c9
  try clear c10
  try clear c12
  try clear hcz11_0
  try clear hcz11_1
  try clear hcz13_0
  try clear hcz13_1
  try clear hfz11_0
  try clear hfz11_1
  try clear hfz13_0
  try clear hfz13_1
  obtain ⟨x5_1, x6_1, rfl, HA, HK1, HO_5, BK176, BK177, BK178, HB⟩ := hrel
  cases gk with
  | zero => exact absurd HA.out (by simp [spec_l1mul.l0])
  | succ k1 =>
   have H := HA.out; clear HA
   simp only [spec_l1mul.l0] at H
   by_cases c16 : x6_1 < (l0_1.length : Int)
   rotate_left
   · rw [if_neg c16] at H
     have c16b0 : decide (x6_1 < (l0_1.length : Int)) = false := decide_eq_false c16
     clear c16
     replace H := Option.bind_eq_some_iff.mp H
     obtain ⟨⟨t182, t183⟩, A520, H⟩ := H
     (try dsimp only at H)
     have A52 := AM A520; clear A520
     simp only [Option.some.injEq, Prod.mk.injEq] at H
     obtain ⟨rfl, rfl⟩ := H
     have hnb53 := NB176_177.out; have hnc53 := NB177_176.out; have hnb54 := NB176_178.out; have hnc54 := NB178_176.out
     have hcz55_0 : wr.cell? ⟨gb176, 0, none⟩ = some (.bool a0_0) := (blk_cell BK176.out 0).trans rfl
     have hcz55_1 : wr.cell? ⟨gb176, 1, none⟩ = some (.slice A0_1 l0_1.length c0_1) := (blk_cell BK176.out 1).trans rfl
     have hfz55_0 := blk_frozen BK176.out 0; have hfz55_1 := blk_frozen BK176.out 1; have hnb56 := NB177_178.out; have hnc56 := NB178_177.out
     have hcz57_0 : wr.cell? ⟨gb177, 0, none⟩ = some (.bool a1_0) := (blk_cell BK177.out 0).trans rfl
     have hcz57_1 : wr.cell? ⟨gb177, 1, none⟩ = some (.slice A1_1 l1_1.length c1_1) := (blk_cell BK177.out 1).trans rfl
     have hfz57_0 := blk_frozen BK177.out 0; have hfz57_1 := blk_frozen BK177.out 1
     obtain ⟨Ao58, co58, eo58⟩ := Kd.R_slice HO_5.out
     subst eo58
     go_wp2_with (first | (go_at_call 115; (with_reducible refine (spec_l1make.calls k1 (!(a0_0 == a1_0)) (fun k_ => some k_ = (.slice Ao58 x5_1.length co58 : Value).ownBlock) (.slice Ao58 x5_1.length co58) x5_1 t182 t183 w _ ?side1 ?side2 A52.out).mono ?_); (case side1 => exact pH HB); (case side2 => exact Kd.R_tight rfl HO_5.out); rintro e w59 ⟨v184, rfl, ho0, hb, hkp⟩; replace BK176 := AM (blk_kept (pB BK176) hkp (fun hs_ => (fun e_ => (Kd.R_ne HO_5.out BK176.out (by decide)) e_) hs_)); replace BK177 := AM (blk_kept (pB BK177) hkp (fun hs_ => (fun e_ => (Kd.R_ne HO_5.out BK177.out (by decide)) e_) hs_)); replace BK178 := AM (blk_kept (pB BK178) hkp (fun hs_ => (fun e_ => (Kd.R_ne HO_5.out BK178.out (by decide)) e_) hs_)); have HO185 := AM (Kd.R_mono (ok' := fun k_ => True) ho0 (fun k_ hk_ => trivial)); replace HB := AM (hb); clear HO_5; (try clear hb); (try clear hkp); (try clear ho0); have ⟨hcz60_0, hcz60_1, hfz60_0, hfz60_1⟩ := z2 BK178; obtain ⟨Ao61, co61, eo61⟩ := Kd.R_slice HO185.out; subst eo61))
     repeat (go_quiet (first | (go_at_call 115; (with_reducible refine (spec_l1make.calls k1 (!(a0_0 == a1_0)) (fun k_ => some k_ = (.slice Ao58 x5_1.length co58 : Value).ownBlock) (.slice Ao58 x5_1.length co58) x5_1 t182 t183 w _ ?side1 ?side2 A52.out).mono ?_); (case side1 => exact pH HB); (case side2 => exact Kd.R_tight rfl HO_5.out); rintro e w59 ⟨v184, rfl, ho0, hb, hkp⟩; replace BK176 := AM (blk_kept (pB BK176) hkp (fun hs_ => (fun e_ => (Kd.R_ne HO_5.out BK176.out (by decide)) e_) hs_)); replace BK177 := AM (blk_kept (pB BK177) hkp (fun hs_ => (fun e_ => (Kd.R_ne HO_5.out BK177.out (by decide)) e_) hs_)); replace BK178 := AM (blk_kept (pB BK178) hkp (fun hs_ => (fun e_ => (Kd.R_ne HO_5.out BK178.out (by decide)) e_) hs_)); have HO185 := AM (Kd.R_mono (ok' := fun k_ => True) ho0 (fun k_ hk_ => trivial)); replace HB := AM (hb); clear HO_5; (try clear hb); (try clear hkp); (try clear ho0); have ⟨hcz60_0, hcz60_1, hfz60_0, hfz60_1⟩ := z2 BK178; obtain ⟨Ao61, co61, eo61⟩ := Kd.R_slice HO185.out; subst eo61)); try go_wp2_with (first | (go_at_call 115; (with_reducible refine (spec_l1make.calls k1 (!(a0_0 == a1_0)) (fun k_ => some k_ = (.slice Ao58 x5_1.length co58 : Value).ownBlock) (.slice Ao58 x5_1.length co58) x5_1 t182 t183 w _ ?side1 ?side2 A52.out).mono ?_); (case side1 => exact pH HB); (case side2 => exact Kd.R_tight rfl HO_5.out); rintro e w59 ⟨v184, rfl, ho0, hb, hkp⟩; replace BK176 := AM (blk_kept (pB BK176) hkp (fun hs_ => (fun e_ => (Kd.R_ne HO_5.out BK176.out (by decide)) e_) hs_)); replace BK177 := AM (blk_kept (pB BK177) hkp (fun hs_ => (fun e_ => (Kd.R_ne HO_5.out BK177.out (by decide)) e_) hs_)); replace BK178 := AM (blk_kept (pB BK178) hkp (fun hs_ => (fun e_ => (Kd.R_ne HO_5.out BK178.out (by decide)) e_) hs_)); have HO185 := AM (Kd.R_mono (ok' := fun k_ => True) ho0 (fun k_ hk_ => trivial)); replace HB := AM (hb); clear HO_5; (try clear hb); (try clear hkp); (try clear ho0); have ⟨hcz60_0, hcz60_1, hfz60_0, hfz60_1⟩ := z2 BK178; obtain ⟨Ao61, co61, eo61⟩ := Kd.R_slice HO185.out; subst eo61)))
     refine bodyPost_ret (results_cell_row rfl _ _ gb178 93 #[.bool t182, .slice Ao61 t183.length co61] (0, 0) _ rfl (by refine sB ?_; refine blk_put (cs := #[.bool t182, .slice none 0 0]) ?_ 1 _ rfl; refine sB ?_; refine blk_put (cs := #[.bool false, .slice none 0 0]) ?_ 0 _ rfl; refine sB ?_; exact BK178.out) Try.underlying93 rfl (by kernel_rfl)) rfl ?_
     exact ⟨_, by first | rfl | (simp [errW_none, errW_some] <;> rfl) | (simp only [← hji3]; first | rfl | (simp [errW_none, errW_some] <;> rfl)) | (simp [*, errW_none, errW_some] <;> rfl), by (with_reducible repeat (first | apply Kd.R_alloc | apply Kd.R_drewN | apply Kd.R_drew)); exact Kd.R_mono (Kd.R_far (p := ⟨gb178, 1, none⟩) (Kd.R_far (p := ⟨gb178, 0, none⟩) (Kd.R_types HO185.out BK178.out (by decide)) (fun _ hk => hk.2) (.bool t182)) (fun _ hk => hk.2) (.slice Ao61 t183.length co61)) (fun _ hk => trivial), pH HB⟩
   rw [if_pos c16] at H
   have c16b0 : decide (x6_1 < (l0_1.length : Int)) = true := decide_eq_true c16
   clear c16
   have H' := AM H
   clear H; have hnb17 := NB176_177.out; have hnc17 := NB177_176.out; have hnb18 := NB176_178.out; have hnc18 := NB178_176.out
   have hcz19_0 : wr.cell? ⟨gb176, 0, none⟩ = some (.bool a0_0) := (blk_cell BK176.out 0).trans rfl
   have hcz19_1 : wr.cell? ⟨gb176, 1, none⟩ = some (.slice A0_1 l0_1.length c0_1) := (blk_cell BK176.out 1).trans rfl
   have hfz19_0 := blk_frozen BK176.out 0; have hfz19_1 := blk_frozen BK176.out 1
   go_wp2
   repeat (go_quiet (fail); try go_wp2)
   go_loopg [7, 8] k1 (fun kq v7 v8 w' => ∃ (x5_2 : List Int) (x7_2 : Int) (x8_2 : Int), v7 = .int .i64 x7_2 ∧ v8 = .int .i64 x8_2 ∧ Aside0 (spec_l1mul.l1 kq x5_2 x6_1 x7_2 x8_2 a0_0 l0_1 a1_0 l1_1 = some (r1, r2)) ∧ Aside0 (kq ≤ k1) ∧ Aside0 (Kd.R (Kd.int .i64) 3 w' w.heap.size (fun _ => True) v180 x5_2) ∧ Aside0 (w'.heap[gb176]? = some (.cells #[.bool a0_0, (.slice A0_1 l0_1.length c0_1)] 93 (0, 0))) ∧ Aside0 (w'.heap[gb177]? = some (.cells #[.bool a1_0, (.slice A1_1 l1_1.length c1_1)] 93 (0, 0))) ∧ Aside0 (w'.heap[gb178]? = some (.cells #[.bool false, (.slice none 0 0)] 93 (0, 0))) ∧ Aside0 (Below w.heap.size w w'))
   case atStart => exact ⟨(x5_1), (0), (0), (by first | rfl | (simp; done) | (simp [*]; done)), (by first | rfl | (simp; done) | (simp [*]; done)), H', ⟨Nat.le_refl _⟩, ⟨by (with_reducible repeat (first | apply Kd.R_alloc | apply Kd.R_drewN | apply Kd.R_drew)); exact HO_5.out⟩, ⟨by refine sB ?_; exact BK176.out⟩, ⟨by refine sB ?_; exact BK177.out⟩, ⟨by refine sB ?_; exact BK178.out⟩, ⟨pH HB⟩⟩
   case round =>
    clear H'
    try clear c1
    try clear p2
    try clear c4
    try clear c4b0
    try clear c4b1
    try clear c5
    try clear c5b0
    try clear c5b1
    try clear p6
    try clear c9
    try clear c10
    try clear c12
    try clear c16
    try clear c16b0
    try clear c17
    try clear c18
    try clear hcz11_0
    try clear hcz11_1
    try clear hcz13_0
    try clear hcz13_1
    try clear hcz19_0
    try clear hcz19_1
    try clear hfz11_0
    try clear hfz11_1
    try clear hfz13_0
    try clear hfz13_1
    try clear hfz19_0
    try clear hfz19_1
    try clear p2
    try clear p6
    obtain ⟨x5_2, x7_2, x8_2, rfl, rfl, HA, HK2, HO_5, BK176, BK177, BK178, HB⟩ := hrel
    cases gk with
    | zero => exact absurd HA.out (by simp [spec_l1mul.l1])
    | succ k2 =>
     have H := HA.out; clear HA
     simp only [spec_l1mul.l1] at H
     have HC20 := AM H; clear H
     go_upto_region 7 with (fail)
     repeat (go_quiet (fail); go_upto_region 7 with (fail))
     go_cut [34] (fun v34 wc => ∃ (kq : Nat) (x34_19 : Bool), v34 = .bool x34_19 ∧ Aside0 (spec_l1mul.j2 kq x5_2 x6_1 x7_2 x8_2 x34_19 a0_0 l0_1 a1_0 l1_1 = some (r1, r2)) ∧ Aside0 (kq ≤ k2) ∧ Aside0 (Kd.R (Kd.int .i64) 3 wc w.heap.size (fun _ => True) v180 x5_2) ∧ Aside0 (wc.heap[gb176]? = some (.cells #[.bool a0_0, (.slice A0_1 l0_1.length c0_1)] 93 (0, 0))) ∧ Aside0 (wc.heap[gb177]? = some (.cells #[.bool a1_0, (.slice A1_1 l1_1.length c1_1)] 93 (0, 0))) ∧ Aside0 (wc.heap[gb178]? = some (.cells #[.bool false, (.slice none 0 0)] 93 (0, 0))) ∧ Aside0 (Below w.heap.size w wc))
     case first =>
      have H := HC20.out; clear HC20
      by_cases c21 : x8_2 < (l1_1.length : Int)
      · rw [if_pos c21] at H
        have c21b0 : decide (x8_2 < (l1_1.length : Int)) = true := decide_eq_true c21
        clear c21
        (first | rw [c21b0] | (simp only [i64_w, i32_w]; rw [c21b0]) | skip)
        have H' := AM H
        clear H; have hnb22 := NB177_176.out; have hnc22 := NB176_177.out; have hnb23 := NB177_178.out; have hnc23 := NB178_177.out
        have hcz24_0 : wr.cell? ⟨gb177, 0, none⟩ = some (.bool a1_0) := (blk_cell BK177.out 0).trans rfl
        have hcz24_1 : wr.cell? ⟨gb177, 1, none⟩ = some (.slice A1_1 l1_1.length c1_1) := (blk_cell BK177.out 1).trans rfl
        have hfz24_0 := blk_frozen BK177.out 0; have hfz24_1 := blk_frozen BK177.out 1
        go_wp2
        repeat (go_quiet (fail); try go_wp2)
        go_meet
        case rel => exact ⟨_, (true), (by first | rfl | (simp; done) | (simp [*]; done)), H', ⟨by have := HK1.out; have := HK2.out; first | omega | exact Nat.le_refl _⟩, ⟨by (with_reducible repeat (first | apply Kd.R_alloc | apply Kd.R_drewN | apply Kd.R_drew)); exact HO_5.out⟩, ⟨by refine sB ?_; exact BK176.out⟩, ⟨by refine sB ?_; exact BK177.out⟩, ⟨by refine sB ?_; exact BK178.out⟩, ⟨pH HB⟩⟩
      rw [if_neg c21] at H
      have c21b0 : decide (x8_2 < (l1_1.length : Int)) = false := decide_eq_false c21
      clear c21
      (first | rw [c21b0] | (simp only [i64_w, i32_w]; rw [c21b0]) | skip)
      have H' := AM H
      clear H; have hnb25 := NB177_176.out; have hnc25 := NB176_177.out; have hnb26 := NB177_178.out; have hnc26 := NB178_177.out
      have hcz27_0 : wr.cell? ⟨gb177, 0, none⟩ = some (.bool a1_0) := (blk_cell BK177.out 0).trans rfl
      have hcz27_1 : wr.cell? ⟨gb177, 1, none⟩ = some (.slice A1_1 l1_1.length c1_1) := (blk_cell BK177.out 1).trans rfl
      have hfz27_0 := blk_frozen BK177.out 0; have hfz27_1 := blk_frozen BK177.out 1
      go_wp2
      repeat (go_quiet (fail); try go_wp2)
      go_meet
      case rel => exact ⟨_, (decide (x7_2 > 0)), (by first | rfl | (simp; done) | (simp [*]; done)), H', ⟨by have := HK1.out; have := HK2.out; first | omega | exact Nat.le_refl _⟩, ⟨by (with_reducible repeat (first | apply Kd.R_alloc | apply Kd.R_drewN | apply Kd.R_drew)); exact HO_5.out⟩, ⟨by refine sB ?_; exact BK176.out⟩, ⟨by refine sB ?_; exact BK177.out⟩, ⟨by refine sB ?_; exact BK178.out⟩, ⟨pH HB⟩⟩
     case rest =>
      clear HC20
      try clear c1
      try clear c2
      try clear p2
      try clear c4
      try clear c4b0
      try clear c4b1
      try clear c5
      try clear c5b0
      try clear c5b1
      try clear p6
      try clear c9
      try clear c10
      try clear c12
      try clear c16
      try clear c16b0
      try clear c17
      try clear c18
      try clear c21
      try clear c21b0
      try clear c22
      try clear c23
      try clear c25
      try clear c26
      try clear hcz11_0
      try clear hcz11_1
      try clear hcz13_0
      try clear hcz13_1
      try clear hcz19_0
      try clear hcz19_1
      try clear hcz24_0
      try clear hcz24_1
      try clear hcz27_0
      try clear hcz27_1
      try clear hfz11_0
      try clear hfz11_1
      try clear hfz13_0
      try clear hfz13_1
      try clear hfz19_0
      try clear hfz19_1
      try clear hfz24_0
      try clear hfz24_1
      try clear hfz27_0
      try clear hfz27_1
      try clear p2
      try clear p6
      obtain ⟨kq, x34_19, rfl, HA, HJ19, HO_5, BK176, BK177, BK178, HB⟩ := hcut
      cases kq with
      | zero => exact absurd HA.out (by simp [spec_l1mul.j2])
      | succ kj19 =>
       have H := HA.out; clear HA
       simp only [spec_l1mul.j2] at H
       by_cases c28 : x34_19 = true
       rotate_left
       · replace c28 := Bool.eq_false_iff.mpr c28
         subst c28
         have H1 : (spec_l1mul.l0 kj19 x5_2 (wrap64 (x6_1 + 1)) a0_0 l0_1 a1_0 l1_1) = some (r1, r2) := by rw [if_neg (show ¬ (false = true) by decide)] at H; exact H
         clear H; have H := H1; clear H1
         have H' := AM H
         clear H
         go_wp2
         repeat (go_quiet (fail); try go_wp2)
         go_roundg kj19
         case measure => have := HK1.out; have := HK2.out; have := HJ19.out; omega
         case rel => exact ⟨(x5_2), (wrap64 (x6_1 + 1)), (by first | rfl | (simp; done) | (simp [*]; done)), H', ⟨by have := HK1.out; have := HK2.out; have := HJ19.out; omega⟩, ⟨by (with_reducible repeat (first | apply Kd.R_alloc | apply Kd.R_drewN | apply Kd.R_drew)); exact HO_5.out⟩, ⟨by refine sB ?_; exact BK176.out⟩, ⟨by refine sB ?_; exact BK177.out⟩, ⟨by refine sB ?_; exact BK178.out⟩, ⟨pH HB⟩⟩
       subst c28
       have H1 : (if 0 ≤ (wrap64 (x6_1 + x8_2)) then (if (wrap64 (x6_1 + x8_2)) < (x5_2.length : Int) then (if x8_2 < (l1_1.length : Int) then (if 0 ≤ x6_1 then (if x6_1 < (l0_1.length : Int) then (if 0 ≤ x8_2 then (spec_l1mul.l1 kj19 (x5_2.set ((wrap64 (x6_1 + x8_2)) : Int).toNat (Int.tmod (wrap64 ((wrap64 ((rd x5_2 (wrap64 (x6_1 + x8_2))) + x7_2)) + (wrap64 ((rd l0_1 x6_1) * (rd l1_1 x8_2))))) 65536)) x6_1 (wrap64 (Int.tdiv (wrap64 ((wrap64 ((rd x5_2 (wrap64 (x6_1 + x8_2))) + x7_2)) + (wrap64 ((rd l0_1 x6_1) * (rd l1_1 x8_2))))) 65536)) (wrap64 (x8_2 + 1)) a0_0 l0_1 a1_0 l1_1) else (none)) else (none)) else (none)) else (spec_l1mul.l1 kj19 (x5_2.set ((wrap64 (x6_1 + x8_2)) : Int).toNat (Int.tmod (wrap64 ((rd x5_2 (wrap64 (x6_1 + x8_2))) + x7_2)) 65536)) x6_1 (wrap64 (Int.tdiv (wrap64 ((rd x5_2 (wrap64 (x6_1 + x8_2))) + x7_2)) 65536)) (wrap64 (x8_2 + 1)) a0_0 l0_1 a1_0 l1_1)) else (none)) else (none)) = some (r1, r2) := by rw [if_pos rfl] at H; exact H
       clear H; have H := H1; clear H1
       obtain ⟨ji29, hji29⟩ : ∃ j_ : Int, (wrap64 (x6_1 + x8_2)) = j_ := ⟨_, rfl⟩
       replace H : (if 0 ≤ (ji29) then (if (ji29) < (x5_2.length : Int) then (if x8_2 < (l1_1.length : Int) then (if 0 ≤ x6_1 then (if x6_1 < (l0_1.length : Int) then (if 0 ≤ x8_2 then (spec_l1mul.l1 kj19 (x5_2.set ((ji29) : Int).toNat (Int.tmod (wrap64 ((wrap64 ((rd x5_2 (ji29)) + x7_2)) + (wrap64 ((rd l0_1 x6_1) * (rd l1_1 x8_2))))) 65536)) x6_1 (wrap64 (Int.tdiv (wrap64 ((wrap64 ((rd x5_2 (ji29)) + x7_2)) + (wrap64 ((rd l0_1 x6_1) * (rd l1_1 x8_2))))) 65536)) (wrap64 (x8_2 + 1)) a0_0 l0_1 a1_0 l1_1) else (none)) else (none)) else (none)) else (spec_l1mul.l1 kj19 (x5_2.set ((ji29) : Int).toNat (Int.tmod (wrap64 ((rd x5_2 (ji29)) + x7_2)) 65536)) x6_1 (wrap64 (Int.tdiv (wrap64 ((rd x5_2 (ji29)) + x7_2)) 65536)) (wrap64 (x8_2 + 1)) a0_0 l0_1 a1_0 l1_1)) else (none)) else (none)) = some (r1, r2) := by first | (rw [hji29] at H; exact H) | (simp only [hji29] at H ⊢; exact H)
       have hji29w : (IntKind.i64.wrap (x6_1 + x8_2)) = ji29 := (i64_w _).trans hji29
       by_cases c30 : 0 ≤ (ji29)
       rotate_left
       · rw [if_neg c30] at H
         exact absurd H (by simp)
       rw [if_pos c30] at H
       have c30b0 : decide (0 ≤ (ji29)) = true := decide_eq_true c30
       clear c30
       by_cases c31 : (ji29) < (x5_2.length : Int)
       rotate_left
       · rw [if_neg c31] at H
         exact absurd H (by simp)
       rw [if_pos c31] at H
       have c31b0 : decide ((ji29) < (x5_2.length : Int)) = true := decide_eq_true c31
       clear c31
       by_cases c32 : x8_2 < (l1_1.length : Int)
       rotate_left
       · rw [if_neg c32] at H
         have c32b0 : decide (x8_2 < (l1_1.length : Int)) = false := decide_eq_false c32
         clear c32
         obtain ⟨y190, hy190⟩ : ∃ y_ : List Int, y_ = (x5_2.set ((ji29) : Int).toNat (Int.tmod (wrap64 ((rd x5_2 (ji29)) + x7_2)) 65536)) := ⟨_, rfl⟩
         replace H : (spec_l1mul.l1 kj19 y190 x6_1 (wrap64 (Int.tdiv (wrap64 ((rd x5_2 (ji29)) + x7_2)) 65536)) (wrap64 (x8_2 + 1)) a0_0 l0_1 a1_0 l1_1) = some (r1, r2) := by first | (rw [hy190]; with_reducible exact H) | (have H2_ := (Option.bind_some _ _).symm.trans H; rw [hy190]; with_reducible exact H2_) | (have H2_ := (Option.bind_some _ _).symm.trans H; with_reducible exact H2_) | with_reducible exact H | (rw [hy190]; exact H) | exact H
         have Ny190 := AM hy190; clear hy190
         have H' := AM H
         clear H
         obtain ⟨Ao46, co46, eo46⟩ := Kd.R_slice HO_5.out
         subst eo46
         have p186 : 0 ≤ ((ji29) : Int) := of_decide_eq_true (by first | (with_reducible assumption) | assumption)
         have q186 : (ji29) < (x5_2.length : Int) := of_decide_eq_true (by first | (with_reducible assumption) | assumption)
         obtain ⟨ad186, e186, hx186_0⟩ := Kd.at_int (Kd.R_reads' HO_5.out).2.2 (ji29) p186 q186
         cases e186
         replace p186 := eq_true p186; replace q186 := eq_true q186; have hnb47 := NB177_176.out; have hnc47 := NB176_177.out; have hnb48 := NB177_178.out; have hnc48 := NB178_177.out
         have hcz49_0 : wc.cell? ⟨gb177, 0, none⟩ = some (.bool a1_0) := (blk_cell BK177.out 0).trans rfl
         have hcz49_1 : wc.cell? ⟨gb177, 1, none⟩ = some (.slice A1_1 l1_1.length c1_1) := (blk_cell BK177.out 1).trans rfl
         have hfz49_0 := blk_frozen BK177.out 0; have hfz49_1 := blk_frozen BK177.out 1
         have p45 : 0 ≤ ((ji29) : Int) := of_decide_eq_true (by first | (with_reducible assumption) | assumption)
         have q45 : ((ji29) : Int) < ((x5_2.length : Int) : Int) := of_decide_eq_true (by first | (with_reducible assumption) | assumption)
         obtain ⟨go45, co45, eo45, gb45, gl45, cl45, HG45⟩ := Kd.R_form HO_5.out (by omega)
         (first | cases eo45 | (injection eo45 with ea_ en_ ec_; (first | subst ea_ | (injection ea_ with ea_; subst ea_)); subst ec_; clear en_))
         have GB45 := AM gb45; have GG45 := AM HG45; clear gb45 gl45 HG45
         (first | simp only [add_plain] at hx186_0 | skip)
         obtain ⟨hx45_0, hf45_0⟩ := Kd.R_celln 0 HO_5.out ((ji29) : Int) p45 q45
         replace p45 := eq_true p45; replace q45 := eq_true q45; have HP50 := Kd.R_putg HO_5.out ((ji29) : Int) (Int.tmod (wrap64 ((rd x5_2 (ji29)) + x7_2)) 65536)
         go_wp2_with (first | ((with_reducible refine gate_store (t := 3) (p := 69) rfl ?_); (try (rw [drewN_self wc]; generalize hq_ : World.drewN wc _ = wc; replace HO_5 := AM (Kd.R_at hq_ HO_5.out); replace BK176 := AM (blk_at hq_ BK176.out); replace BK177 := AM (blk_at hq_ BK177.out); replace BK178 := AM (blk_at hq_ BK178.out); replace HB := AM (below_at hq_ HB.out); clear hq_; (try (obtain ⟨hx45_0, hf45_0⟩ := Kd.R_celln 0 HO_5.out ((ji29) : Int) (of_eq_true p45) (of_eq_true q45))); (try (have HP50 := Kd.R_putg HO_5.out ((ji29) : Int) (Int.tmod (wrap64 ((rd x5_2 (ji29)) + x7_2)) 65536))))); refine store_event (t := 3) (p := 69) (v := ?vo_w51) (w1 := (wc.setCell ⟨go45, ((ji29) : Int).toNat, none⟩ (.int .i64 (Int.tmod (wrap64 ((rd x5_2 (ji29)) + x7_2)) 65536)))) ?hg ?ho ?hn ?hr ?_; (case ho => rfl); (case hg => rfl); (case hn => rfl); (case hr => first | (go_simp; done) | (go_simp; rfl)); intro w51 hw; have hg : wc.grownBy w51 (some go45) := (by rw [hw]; exact HP50.2); have hp_ : Kd.R (Kd.int .i64) 3 w51 w.heap.size (fun _ => True) (.slice (some ⟨go45, 0, none⟩) x5_2.length co46) y190 := (by rw [hw, Ny190.out]; exact HP50.1); clear HP50; replace BK176 := AM (blk_grown (g := gb176) (o := .cells #[.bool a0_0, .slice A0_1 l0_1.length c0_1] 93 (0, 0)) (pB BK176) hg (Kd.R_ne HO_5.out BK176.out (by decide))); replace BK177 := AM (blk_grown (g := gb177) (o := .cells #[.bool a1_0, .slice A1_1 l1_1.length c1_1] 93 (0, 0)) (pB BK177) hg (Kd.R_ne HO_5.out BK177.out (by decide))); replace BK178 := AM (blk_grown (g := gb178) (o := .cells #[.bool false, .slice none 0 0] 93 (0, 0)) (pB BK178) hg (Kd.R_ne HO_5.out BK178.out (by decide))); replace HO_5 := AM (hp_); replace HB := AM ((by rw [hw]; exact below_set (HB.out) GB45.out : Below w.heap.size w w51)); clear hg hw hp_))
         repeat (go_quiet (first | ((with_reducible refine gate_store (t := 3) (p := 69) rfl ?_); (try (rw [drewN_self wc]; generalize hq_ : World.drewN wc _ = wc; replace HO_5 := AM (Kd.R_at hq_ HO_5.out); replace BK176 := AM (blk_at hq_ BK176.out); replace BK177 := AM (blk_at hq_ BK177.out); replace BK178 := AM (blk_at hq_ BK178.out); replace HB := AM (below_at hq_ HB.out); clear hq_; (try (obtain ⟨hx45_0, hf45_0⟩ := Kd.R_celln 0 HO_5.out ((ji29) : Int) (of_eq_true p45) (of_eq_true q45))); (try (have HP50 := Kd.R_putg HO_5.out ((ji29) : Int) (Int.tmod (wrap64 ((rd x5_2 (ji29)) + x7_2)) 65536))))); refine store_event (t := 3) (p := 69) (v := ?vo_w51) (w1 := (wc.setCell ⟨go45, ((ji29) : Int).toNat, none⟩ (.int .i64 (Int.tmod (wrap64 ((rd x5_2 (ji29)) + x7_2)) 65536)))) ?hg ?ho ?hn ?hr ?_; (case ho => rfl); (case hg => rfl); (case hn => rfl); (case hr => first | (go_simp; done) | (go_simp; rfl)); intro w51 hw; have hg : wc.grownBy w51 (some go45) := (by rw [hw]; exact HP50.2); have hp_ : Kd.R (Kd.int .i64) 3 w51 w.heap.size (fun _ => True) (.slice (some ⟨go45, 0, none⟩) x5_2.length co46) y190 := (by rw [hw, Ny190.out]; exact HP50.1); clear HP50; replace BK176 := AM (blk_grown (g := gb176) (o := .cells #[.bool a0_0, .slice A0_1 l0_1.length c0_1] 93 (0, 0)) (pB BK176) hg (Kd.R_ne HO_5.out BK176.out (by decide))); replace BK177 := AM (blk_grown (g := gb177) (o := .cells #[.bool a1_0, .slice A1_1 l1_1.length c1_1] 93 (0, 0)) (pB BK177) hg (Kd.R_ne HO_5.out BK177.out (by decide))); replace BK178 := AM (blk_grown (g := gb178) (o := .cells #[.bool false, .slice none 0 0] 93 (0, 0)) (pB BK178) hg (Kd.R_ne HO_5.out BK178.out (by decide))); replace HO_5 := AM (hp_); replace HB := AM ((by rw [hw]; exact below_set (HB.out) GB45.out : Below w.heap.size w w51)); clear hg hw hp_)); try go_wp2_with (first | ((with_reducible refine gate_store (t := 3) (p := 69) rfl ?_); (try (rw [drewN_self wc]; generalize hq_ : World.drewN wc _ = wc; replace HO_5 := AM (Kd.R_at hq_ HO_5.out); replace BK176 := AM (blk_at hq_ BK176.out); replace BK177 := AM (blk_at hq_ BK177.out); replace BK178 := AM (blk_at hq_ BK178.out); replace HB := AM (below_at hq_ HB.out); clear hq_; (try (obtain ⟨hx45_0, hf45_0⟩ := Kd.R_celln 0 HO_5.out ((ji29) : Int) (of_eq_true p45) (of_eq_true q45))); (try (have HP50 := Kd.R_putg HO_5.out ((ji29) : Int) (Int.tmod (wrap64 ((rd x5_2 (ji29)) + x7_2)) 65536))))); refine store_event (t := 3) (p := 69) (v := ?vo_w51) (w1 := (wc.setCell ⟨go45, ((ji29) : Int).toNat, none⟩ (.int .i64 (Int.tmod (wrap64 ((rd x5_2 (ji29)) + x7_2)) 65536)))) ?hg ?ho ?hn ?hr ?_; (case ho => rfl); (case hg => rfl); (case hn => rfl); (case hr => first | (go_simp; done) | (go_simp; rfl)); intro w51 hw; have hg : wc.grownBy w51 (some go45) := (by rw [hw]; exact HP50.2); have hp_ : Kd.R (Kd.int .i64) 3 w51 w.heap.size (fun _ => True) (.slice (some ⟨go45, 0, none⟩) x5_2.length co46) y190 := (by rw [hw, Ny190.out]; exact HP50.1); clear HP50; replace BK176 := AM (blk_grown (g := gb176) (o := .cells #[.bool a0_0, .slice A0_1 l0_1.length c0_1] 93 (0, 0)) (pB BK176) hg (Kd.R_ne HO_5.out BK176.out (by decide))); replace BK177 := AM (blk_grown (g := gb177) (o := .cells #[.bool a1_0, .slice A1_1 l1_1.length c1_1] 93 (0, 0)) (pB BK177) hg (Kd.R_ne HO_5.out BK177.out (by decide))); replace BK178 := AM (blk_grown (g := gb178) (o := .cells #[.bool false, .slice none 0 0] 93 (0, 0)) (pB BK178) hg (Kd.R_ne HO_5.out BK178.out (by decide))); replace HO_5 := AM (hp_); replace HB := AM ((by rw [hw]; exact below_set (HB.out) GB45.out : Below w.heap.size w w51)); clear hg hw hp_)))
         go_roundg kj19
         case measure => have := HK1.out; have := HK2.out; have := HJ19.out; omega
         case rel => exact ⟨(y190), (wrap64 (Int.tdiv (wrap64 ((rd x5_2 (ji29)) + x7_2)) 65536)), (wrap64 (x8_2 + 1)), (by first | rfl | (simp; done) | (simp only [← hji29] <;> (first | rfl | simp)) | (simp [*]; done)), (by first | rfl | (simp; done) | (simp [*]; done)), H', ⟨by have := HK1.out; have := HK2.out; have := HJ19.out; omega⟩, ⟨by (with_reducible repeat (first | apply Kd.R_alloc | apply Kd.R_drewN | apply Kd.R_drew)); exact HO_5.out⟩, ⟨by refine sB ?_; exact BK176.out⟩, ⟨by refine sB ?_; exact BK177.out⟩, ⟨by refine sB ?_; exact BK178.out⟩, ⟨pH HB⟩⟩
       rw [if_pos c32] at H
       have c32b0 : decide (x8_2 < (l1_1.length : Int)) = true := decide_eq_true c32
       clear c32
       by_cases c33 : 0 ≤ x6_1
       rotate_left
       · rw [if_neg c33] at H
         exact absurd H (by simp)
       rw [if_pos c33] at H
       have c33b0 : decide (0 ≤ x6_1) = true := decide_eq_true c33
       clear c33
       by_cases c34 : x6_1 < (l0_1.length : Int)
       rotate_left
       · rw [if_neg c34] at H
         exact absurd H (by simp)
       rw [if_pos c34] at H
       have c34b0 : decide (x6_1 < (l0_1.length : Int)) = true := decide_eq_true c34
       clear c34
       by_cases c35 : 0 ≤ x8_2
       rotate_left
       · rw [if_neg c35] at H
         exact absurd H (by simp)
       rw [if_pos c35] at H
       have c35b0 : decide (0 ≤ x8_2) = true := decide_eq_true c35
       clear c35
       obtain ⟨y189, hy189⟩ : ∃ y_ : List Int, y_ = (x5_2.set ((ji29) : Int).toNat (Int.tmod (wrap64 ((wrap64 ((rd x5_2 (ji29)) + x7_2)) + (wrap64 ((rd l0_1 x6_1) * (rd l1_1 x8_2))))) 65536)) := ⟨_, rfl⟩
       replace H : (spec_l1mul.l1 kj19 y189 x6_1 (wrap64 (Int.tdiv (wrap64 ((wrap64 ((rd x5_2 (ji29)) + x7_2)) + (wrap64 ((rd l0_1 x6_1) * (rd l1_1 x8_2))))) 65536)) (wrap64 (x8_2 + 1)) a0_0 l0_1 a1_0 l1_1) = some (r1, r2) := by first | (rw [hy189]; with_reducible exact H) | (have H2_ := (Option.bind_some _ _).symm.trans H; rw [hy189]; with_reducible exact H2_) | (have H2_ := (Option.bind_some _ _).symm.trans H; with_reducible exact H2_) | with_reducible exact H | (rw [hy189]; exact H) | exact H
       have Ny189 := AM hy189; clear hy189
       have H' := AM H
       clear H
       obtain ⟨Ao37, co37, eo37⟩ := Kd.R_slice HO_5.out
       subst eo37
       have p186 : 0 ≤ ((ji29) : Int) := of_decide_eq_true (by first | (with_reducible assumption) | assumption)
       have q186 : (ji29) < (x5_2.length : Int) := of_decide_eq_true (by first | (with_reducible assumption) | assumption)
       obtain ⟨ad186, e186, hx186_0⟩ := Kd.at_int (Kd.R_reads' HO_5.out).2.2 (ji29) p186 q186
       cases e186
       replace p186 := eq_true p186; replace q186 := eq_true q186; have hnb38 := NB177_176.out; have hnc38 := NB176_177.out; have hnb39 := NB177_178.out; have hnc39 := NB178_177.out
       have hcz40_0 : wc.cell? ⟨gb177, 0, none⟩ = some (.bool a1_0) := (blk_cell BK177.out 0).trans rfl
       have hcz40_1 : wc.cell? ⟨gb177, 1, none⟩ = some (.slice A1_1 l1_1.length c1_1) := (blk_cell BK177.out 1).trans rfl
       have hfz40_0 := blk_frozen BK177.out 0; have hfz40_1 := blk_frozen BK177.out 1; have hnb41 := NB176_178.out; have hnc41 := NB178_176.out
       have hcz42_0 : wc.cell? ⟨gb176, 0, none⟩ = some (.bool a0_0) := (blk_cell BK176.out 0).trans rfl
       have hcz42_1 : wc.cell? ⟨gb176, 1, none⟩ = some (.slice A0_1 l0_1.length c0_1) := (blk_cell BK176.out 1).trans rfl
       have hfz42_0 := blk_frozen BK176.out 0; have hfz42_1 := blk_frozen BK176.out 1
       have p187 : 0 ≤ (x6_1 : Int) := of_decide_eq_true (by first | (with_reducible assumption) | assumption)
       have q187 : x6_1 < (l0_1.length : Int) := of_decide_eq_true (by first | (with_reducible assumption) | assumption)
       obtain ⟨ad187, e187, hx187_0⟩ := Kd.at_int HR0_1.out x6_1 p187 q187
       cases e187
       replace hx187_0 := (HB.out.cell (World.block_lt_of_cell? w _ hx187_0)).trans hx187_0; replace p187 := eq_true p187; replace q187 := eq_true q187
       have p188 : 0 ≤ (x8_2 : Int) := of_decide_eq_true (by first | (with_reducible assumption) | assumption)
       have q188 : x8_2 < (l1_1.length : Int) := of_decide_eq_true (by first | (with_reducible assumption) | assumption)
       obtain ⟨ad188, e188, hx188_0⟩ := Kd.at_int HR1_1.out x8_2 p188 q188
       cases e188
       replace hx188_0 := (HB.out.cell (World.block_lt_of_cell? w _ hx188_0)).trans hx188_0; replace p188 := eq_true p188; replace q188 := eq_true q188
       have p36 : 0 ≤ ((ji29) : Int) := of_decide_eq_true (by first | (with_reducible assumption) | assumption)
       have q36 : ((ji29) : Int) < ((x5_2.length : Int) : Int) := of_decide_eq_true (by first | (with_reducible assumption) | assumption)
       obtain ⟨go36, co36, eo36, gb36, gl36, cl36, HG36⟩ := Kd.R_form HO_5.out (by omega)
       (first | cases eo36 | (injection eo36 with ea_ en_ ec_; (first | subst ea_ | (injection ea_ with ea_; subst ea_)); subst ec_; clear en_))
       have GB36 := AM gb36; have GG36 := AM HG36; clear gb36 gl36 HG36
       (first | simp only [add_plain] at hx186_0 | skip)
       obtain ⟨hx36_0, hf36_0⟩ := Kd.R_celln 0 HO_5.out ((ji29) : Int) p36 q36
       replace p36 := eq_true p36; replace q36 := eq_true q36; have HP43 := Kd.R_putg HO_5.out ((ji29) : Int) (Int.tmod (wrap64 ((wrap64 ((rd x5_2 (ji29)) + x7_2)) + (wrap64 ((rd l0_1 x6_1) * (rd l1_1 x8_2))))) 65536)
       go_wp2_with (first | ((with_reducible refine gate_store (t := 3) (p := 69) rfl ?_); (try (rw [drewN_self wc]; generalize hq_ : World.drewN wc _ = wc; replace HO_5 := AM (Kd.R_at hq_ HO_5.out); replace BK176 := AM (blk_at hq_ BK176.out); replace BK177 := AM (blk_at hq_ BK177.out); replace BK178 := AM (blk_at hq_ BK178.out); replace HB := AM (below_at hq_ HB.out); clear hq_; (try (obtain ⟨hx36_0, hf36_0⟩ := Kd.R_celln 0 HO_5.out ((ji29) : Int) (of_eq_true p36) (of_eq_true q36))); (try (have HP43 := Kd.R_putg HO_5.out ((ji29) : Int) (Int.tmod (wrap64 ((wrap64 ((rd x5_2 (ji29)) + x7_2)) + (wrap64 ((rd l0_1 x6_1) * (rd l1_1 x8_2))))) 65536))))); refine store_event (t := 3) (p := 69) (v := ?vo_w44) (w1 := (wc.setCell ⟨go36, ((ji29) : Int).toNat, none⟩ (.int .i64 (Int.tmod (wrap64 ((wrap64 ((rd x5_2 (ji29)) + x7_2)) + (wrap64 ((rd l0_1 x6_1) * (rd l1_1 x8_2))))) 65536)))) ?hg ?ho ?hn ?hr ?_; (case ho => rfl); (case hg => rfl); (case hn => rfl); (case hr => first | (go_simp; done) | (go_simp; rfl)); intro w44 hw; have hg : wc.grownBy w44 (some go36) := (by rw [hw]; exact HP43.2); have hp_ : Kd.R (Kd.int .i64) 3 w44 w.heap.size (fun _ => True) (.slice (some ⟨go36, 0, none⟩) x5_2.length co37) y189 := (by rw [hw, Ny189.out]; exact HP43.1); clear HP43; replace BK176 := AM (blk_grown (g := gb176) (o := .cells #[.bool a0_0, .slice (some ad187) l0_1.length c0_1] 93 (0, 0)) (pB BK176) hg (Kd.R_ne HO_5.out BK176.out (by decide))); replace BK177 := AM (blk_grown (g := gb177) (o := .cells #[.bool a1_0, .slice (some ad188) l1_1.length c1_1] 93 (0, 0)) (pB BK177) hg (Kd.R_ne HO_5.out BK177.out (by decide))); replace BK178 := AM (blk_grown (g := gb178) (o := .cells #[.bool false, .slice none 0 0] 93 (0, 0)) (pB BK178) hg (Kd.R_ne HO_5.out BK178.out (by decide))); replace HO_5 := AM (hp_); replace HB := AM ((by rw [hw]; exact below_set (HB.out) GB36.out : Below w.heap.size w w44)); clear hg hw hp_))
       repeat (go_quiet (first | ((with_reducible refine gate_store (t := 3) (p := 69) rfl ?_); (try (rw [drewN_self wc]; generalize hq_ : World.drewN wc _ = wc; replace HO_5 := AM (Kd.R_at hq_ HO_5.out); replace BK176 := AM (blk_at hq_ BK176.out); replace BK177 := AM (blk_at hq_ BK177.out); replace BK178 := AM (blk_at hq_ BK178.out); replace HB := AM (below_at hq_ HB.out); clear hq_; (try (obtain ⟨hx36_0, hf36_0⟩ := Kd.R_celln 0 HO_5.out ((ji29) : Int) (of_eq_true p36) (of_eq_true q36))); (try (have HP43 := Kd.R_putg HO_5.out ((ji29) : Int) (Int.tmod (wrap64 ((wrap64 ((rd x5_2 (ji29)) + x7_2)) + (wrap64 ((rd l0_1 x6_1) * (rd l1_1 x8_2))))) 65536))))); refine store_event (t := 3) (p := 69) (v := ?vo_w44) (w1 := (wc.setCell ⟨go36, ((ji29) : Int).toNat, none⟩ (.int .i64 (Int.tmod (wrap64 ((wrap64 ((rd x5_2 (ji29)) + x7_2)) + (wrap64 ((rd l0_1 x6_1) * (rd l1_1 x8_2))))) 65536)))) ?hg ?ho ?hn ?hr ?_; (case ho => rfl); (case hg => rfl); (case hn => rfl); (case hr => first | (go_simp; done) | (go_simp; rfl)); intro w44 hw; have hg : wc.grownBy w44 (some go36) := (by rw [hw]; exact HP43.2); have hp_ : Kd.R (Kd.int .i64) 3 w44 w.heap.size (fun _ => True) (.slice (some ⟨go36, 0, none⟩) x5_2.length co37) y189 := (by rw [hw, Ny189.out]; exact HP43.1); clear HP43; replace BK176 := AM (blk_grown (g := gb176) (o := .cells #[.bool a0_0, .slice (some ad187) l0_1.length c0_1] 93 (0, 0)) (pB BK176) hg (Kd.R_ne HO_5.out BK176.out (by decide))); replace BK177 := AM (blk_grown (g := gb177) (o := .cells #[.bool a1_0, .slice (some ad188) l1_1.length c1_1] 93 (0, 0)) (pB BK177) hg (Kd.R_ne HO_5.out BK177.out (by decide))); replace BK178 := AM (blk_grown (g := gb178) (o := .cells #[.bool false, .slice none 0 0] 93 (0, 0)) (pB BK178) hg (Kd.R_ne HO_5.out BK178.out (by decide))); replace HO_5 := AM (hp_); replace HB := AM ((by rw [hw]; exact below_set (HB.out) GB36.out : Below w.heap.size w w44)); clear hg hw hp_)); try go_wp2_with (first | ((with_reducible refine gate_store (t := 3) (p := 69) rfl ?_); (try (rw [drewN_self wc]; generalize hq_ : World.drewN wc _ = wc; replace HO_5 := AM (Kd.R_at hq_ HO_5.out); replace BK176 := AM (blk_at hq_ BK176.out); replace BK177 := AM (blk_at hq_ BK177.out); replace BK178 := AM (blk_at hq_ BK178.out); replace HB := AM (below_at hq_ HB.out); clear hq_; (try (obtain ⟨hx36_0, hf36_0⟩ := Kd.R_celln 0 HO_5.out ((ji29) : Int) (of_eq_true p36) (of_eq_true q36))); (try (have HP43 := Kd.R_putg HO_5.out ((ji29) : Int) (Int.tmod (wrap64 ((wrap64 ((rd x5_2 (ji29)) + x7_2)) + (wrap64 ((rd l0_1 x6_1) * (rd l1_1 x8_2))))) 65536))))); refine store_event (t := 3) (p := 69) (v := ?vo_w44) (w1 := (wc.setCell ⟨go36, ((ji29) : Int).toNat, none⟩ (.int .i64 (Int.tmod (wrap64 ((wrap64 ((rd x5_2 (ji29)) + x7_2)) + (wrap64 ((rd l0_1 x6_1) * (rd l1_1 x8_2))))) 65536)))) ?hg ?ho ?hn ?hr ?_; (case ho => rfl); (case hg => rfl); (case hn => rfl); (case hr => first | (go_simp; done) | (go_simp; rfl)); intro w44 hw; have hg : wc.grownBy w44 (some go36) := (by rw [hw]; exact HP43.2); have hp_ : Kd.R (Kd.int .i64) 3 w44 w.heap.size (fun _ => True) (.slice (some ⟨go36, 0, none⟩) x5_2.length co37) y189 := (by rw [hw, Ny189.out]; exact HP43.1); clear HP43; replace BK176 := AM (blk_grown (g := gb176) (o := .cells #[.bool a0_0, .slice (some ad187) l0_1.length c0_1] 93 (0, 0)) (pB BK176) hg (Kd.R_ne HO_5.out BK176.out (by decide))); replace BK177 := AM (blk_grown (g := gb177) (o := .cells #[.bool a1_0, .slice (some ad188) l1_1.length c1_1] 93 (0, 0)) (pB BK177) hg (Kd.R_ne HO_5.out BK177.out (by decide))); replace BK178 := AM (blk_grown (g := gb178) (o := .cells #[.bool false, .slice none 0 0] 93 (0, 0)) (pB BK178) hg (Kd.R_ne HO_5.out BK178.out (by decide))); replace HO_5 := AM (hp_); replace HB := AM ((by rw [hw]; exact below_set (HB.out) GB36.out : Below w.heap.size w w44)); clear hg hw hp_)))
       go_roundg kj19
       case measure => have := HK1.out; have := HK2.out; have := HJ19.out; omega
       case rel => exact ⟨(y189), (wrap64 (Int.tdiv (wrap64 ((wrap64 ((rd x5_2 (ji29)) + x7_2)) + (wrap64 ((rd l0_1 x6_1) * (rd l1_1 x8_2))))) 65536)), (wrap64 (x8_2 + 1)), (by first | rfl | (simp; done) | (simp only [← hji29] <;> (first | rfl | simp)) | (simp [*]; done)), (by first | rfl | (simp; done) | (simp [*]; done)), H', ⟨by have := HK1.out; have := HK2.out; have := HJ19.out; omega⟩, ⟨by (with_reducible repeat (first | apply Kd.R_alloc | apply Kd.R_drewN | apply Kd.R_drew)); exact HO_5.out⟩, ⟨by refine sB ?_; exact BK176.out⟩, ⟨by refine sB ?_; exact BK177.out⟩, ⟨by refine sB ?_; exact BK178.out⟩, ⟨pH HB⟩⟩
/-! ### spec_l2mul: function 102 -/
def spec_l2mul.f (k : Nat) (a0_0 : Bool) (l0_1 : List Int) (a0_2 : Int) (a1_0 : Bool) (l1_1 : List Int) (a1_2 : Int) : Option (Bool × List Int × Int) := (spec_l1mul.f k a0_0 l0_1 a1_0 l1_1).bind fun bt194 => ((spec_l2norm.f k bt194.1 bt194.2 (wrap64 (a0_2 + a1_2))).bind fun bt198 => (some (bt198.1, bt198.2.1, bt198.2.2)))
theorem spec_l2mul.mono : ∀ a0 a1 a2 a3 a4 a5 k, LeO (spec_l2mul.f k a0 a1 a2 a3 a4 a5) (spec_l2mul.f (k + 1) a0 a1 a2 a3 a4 a5) := by
 intro a0 a1 a2 a3 a4 a5 k
 unfold spec_l2mul.f
 repeat' with_reducible first | exact spec_l1mul.mono _ _ _ _ _ | exact spec_l2norm.mono _ _ _ _ | exact LeO.refl _ | exact LeO.none _ | refine LeO.ite ?_ ?_ | refine LeO.bind ?_ (fun _ => ?_)
def spec_l2mul.T1 : Bool × List (List Nat × List Nat) := (true, [([], []), ([0], [0]), ([], []), ([2], [2]), ([1, 3], [1, 3]), ([], []), ([5], [5]), ([], []), ([7], [7]), ([6, 8], [6, 8]), ([4, 9], [4, 9]), ([10, 4], [10]), ([11, 11, 0, 1, 2, 3, 4, 5, 6, 7, 8, 9, 10, 11], [11])])
def spec_l2mul.B1 : List Nat := [0, 1, 0, 4, 15, 0, 32, 0, 128, 480, 1023, 2047, 4095]
theorem spec_l2mul.tab1 : rtab .any (opsOf Try.f102 1) = spec_l2mul.T1 := by kernel_rfl
theorem spec_l2mul.bits1 : waitsOk spec_l2mul.T1.2 spec_l2mul.B1 = true := by kernel_rfl
set_option maxHeartbeats 8000000 in
set_option maxRecDepth 100000 in
theorem spec_l2mul.calls (k : Nat) (a0_0 : Bool) (A0_1 : Option Addr) (c0_1 : Nat) (l0_1 : List Int) (a0_2 : Int) (a1_0 : Bool) (A1_1 : Option Addr) (c1_1 : Nat) (l1_1 : List Int) (a1_2 : Int) (r1 : Bool) (r2 : List Int) (r3 : Int) (w : World) (hr0_1 : Kd.C (Kd.int .i64) w A0_1 l0_1.length l0_1) (hc0_1 : l0_1.length ≤ c0_1) (hr1_1 : Kd.C (Kd.int .i64) w A1_1 l1_1.length l1_1) (hc1_1 : l1_1.length ≤ c1_1) (h : spec_l2mul.f k a0_0 l0_1 a0_2 a1_0 l1_1 a1_2 = some (r1, r2, r3)) :
 Calls Try.prog 102 #[.agg #[.bool a0_0, .slice A0_1 l0_1.length c0_1, .int .i64 a0_2], .agg #[.bool a1_0, .slice A1_1 l1_1.length c1_1, .int .i64 a1_2]] w fun e w' => ∃ v1_ : Value, e = .returned (.agg #[.bool r1, v1_, .int .i64 r3]) ∧ Kd.R (Kd.int .i64) 3 w' w.heap.size (fun _ => True) v1_ r2 ∧ Below w.heap.size w w' := by
 have hu139 := Try.underlying139; have hu93 := Try.underlying93; have HR0_1 := AM hr0_1; have HC0_1 := AM hc0_1; clear hr0_1 hc0_1; have HR1_1 := AM hr1_1; have HC1_1 := AM hc1_1; clear hr1_1 hc1_1; have HB := AM (Below.refl w.heap.size w)
 have H : ((spec_l1mul.f k a0_0 l0_1 a1_0 l1_1).bind fun bt194 => ((spec_l2norm.f k bt194.1 bt194.2 (wrap64 (a0_2 + a1_2))).bind fun bt198 => (some (bt198.1, bt198.2.1, bt198.2.2)))) = some (r1, r2, r3) := h
 clear h
 replace H := Option.bind_eq_some_iff.mp H
 obtain ⟨⟨t194, t195⟩, A30, H⟩ := H
 (try dsimp only at H)
 have A3 := AM A30; clear A30
 replace H := Option.bind_eq_some_iff.mp H
 obtain ⟨⟨t198, t199, t202⟩, A40, H⟩ := H
 (try dsimp only at H)
 have A4 := AM A40; clear A40
 simp only [Option.some.injEq, Prod.mk.injEq] at H
 obtain ⟨rfl, rfl, rfl⟩ := H
 go_enter Try.func102, Try.ntmps102
 try go_wp2_with (first | ((with_reducible refine gate_dst (N := 2) rfl ?_); refine box_event ?hg (N := 2) ?hd (cs := #[.bool a0_0, .slice A0_1 l0_1.length c0_1, .int .i64 a0_2]) (t := 139) ?hr ?_; (case hd => rfl); (case hg => rfl); (case hr => first | (go_simp; done) | (go_simp; rfl)); intro gb191 hg w5 hbox hb; have BK191 := AM (hbox); have GW191 := gH HB hg; have GE191 := gH HB hg; replace HB := AM (below_step (pH HB) hb); clear hb hbox hg) | ((with_reducible refine gate_dst (N := 3) rfl ?_); refine box_event ?hg (N := 3) ?hd (cs := #[.bool a1_0, .slice A1_1 l1_1.length c1_1, .int .i64 a1_2]) (t := 139) ?hr ?_; (case hd => rfl); (case hg => rfl); (case hr => first | (go_simp; done) | (go_simp; rfl)); intro gb192 hg w6 hbox hb; have BK192 := AM (hbox); have GW192 := gH HB hg; have GE192 := gH HB hg; replace HB := AM (below_step (pH HB) hb); have NB191_192 := nL BK191 hg; have NB192_191 := nG BK191 hg; replace BK191 := bB BK191 hb; clear hb hbox hg) | ((with_reducible refine gate_dst (N := 4) rfl ?_); refine box_event ?hg (N := 4) ?hd (cs := #[.bool false, .slice none 0 0, .int .i64 0]) (t := 139) ?hr ?_; (case hd => rfl); (case hg => rfl); (case hr => first | (go_simp; done) | (go_simp; rfl)); intro gb193 hg w7 hbox hb; have BK193 := AM (hbox); have GW193 := gH HB hg; have GE193 := gH HB hg; replace HB := AM (below_step (pH HB) hb); have NB191_193 := nL BK191 hg; have NB193_191 := nG BK191 hg; replace BK191 := bB BK191 hb; have NB192_193 := nL BK192 hg; have NB193_192 := nG BK192 hg; replace BK192 := bB BK192 hb; clear hb hbox hg))
 replace BK191 := AM (blk_drew BK191.out); replace BK192 := AM (blk_drew BK192.out); replace BK193 := AM (blk_drew BK193.out); replace HB := AM (below_drew1 HB.out)
 refine start_ (n := 13) (S := fun w' => w'.cell? ⟨gb191, 0, none⟩ = some (.bool a0_0) ∧ w'.cell? ⟨gb191, 1, none⟩ = some (.slice A0_1 l0_1.length c0_1) ∧ w'.cell? ⟨gb191, 2, none⟩ = some (.int .i64 a0_2) ∧ w'.cell? ⟨gb192, 0, none⟩ = some (.bool a1_0) ∧ w'.cell? ⟨gb192, 1, none⟩ = some (.slice A1_1 l1_1.length c1_1) ∧ w'.cell? ⟨gb192, 2, none⟩ = some (.int .i64 a1_2)) (ds := []) #[false, false, false, false, false, false, false, false, false, false, false, false, false] (by kernel_rfl) rfl rfl ⟨(blk_cell BK191.out 0).trans rfl, (blk_cell BK191.out 1).trans rfl, (blk_cell BK191.out 2).trans rfl, (blk_cell BK192.out 0).trans rfl, (blk_cell BK192.out 1).trans rfl, (blk_cell BK192.out 2).trans rfl⟩ (fun hHeld => ?_); refine with_tabW spec_l2mul.tab1 spec_l2mul.bits1 (fun HT_ HW_ => ?_)
 generalize w7.drew = w8 at BK191 BK192 BK193 HB hHeld ⊢
 refine pure_ (i := 0) (N := some 5) (v := ?_) (a' := ?_) #[true, false, false, false, false, false, false, false, false, false, false, false, false] rfl rfl (any_of HT_.out (by kernel_rfl)) (fun _ _ _ h => h) (Or.inl ⟨by rfl, ?_⟩) ?_ ?_
 rotate_left
 · intro w'
   go_simp
   with_reducible rfl
 rotate_left
 · simp only [Act.put, sa, sb, sc, i64_w, i32_w]
   rfl
 refine pure_ (i := 2) (N := some 7) (v := ?_) (a' := ?_) #[true, false, true, false, false, false, false, false, false, false, false, false, false] rfl rfl (any_of HT_.out (by kernel_rfl)) (fun _ _ _ h => h) (Or.inl ⟨by rfl, ?_⟩) ?_ ?_
 rotate_left
 · intro w'
   go_simp
   with_reducible rfl
 rotate_left
 · simp only [Act.put, sa, sb, sc, i64_w, i32_w]
   rfl
 refine pure_ (i := 5) (N := some 10) (v := ?_) (a' := ?_) #[true, false, true, false, false, true, false, false, false, false, false, false, false] rfl rfl (any_of HT_.out (by kernel_rfl)) (fun _ _ _ h => h) (Or.inl ⟨by rfl, ?_⟩) ?_ ?_
 rotate_left
 · intro w'
   go_simp
   with_reducible rfl
 rotate_left
 · simp only [Act.put, sa, sb, sc, i64_w, i32_w]
   rfl
 refine pure_ (i := 7) (N := some 12) (v := ?_) (a' := ?_) #[true, false, true, false, false, true, false, true, false, false, false, false, false] rfl rfl (any_of HT_.out (by kernel_rfl)) (fun _ _ _ h => h) (Or.inl ⟨by rfl, ?_⟩) ?_ ?_
 rotate_left
 · intro w'
   go_simp
   with_reducible rfl
 rotate_left
 · simp only [Act.put, sa, sb, sc, i64_w, i32_w]
   rfl
 refine take_ (i := 1) (N := some 6) (v := ?_) (a' := ?_) #[true, true, true, false, false, true, false, true, false, false, false, false, false] rfl rfl (take_ofW HT_.out HW_.out (by kernel_rfl)) (fun _ _ _ h => h) (Or.inl ⟨by rfl, ?_⟩) hHeld ?_ ?_
 rotate_left
 · rintro w' ⟨s0, s1, s2, s3, s4, s5⟩
   go_simp
   with_reducible rfl
 rotate_left
 · simp only [Act.put, sa, sb, sc, i64_w, i32_w]
   rfl
 refine take_ (i := 3) (N := some 8) (v := ?_) (a' := ?_) #[true, true, true, true, false, true, false, true, false, false, false, false, false] rfl rfl (take_ofW HT_.out HW_.out (by kernel_rfl)) (fun _ _ _ h => h) (Or.inl ⟨by rfl, ?_⟩) hHeld ?_ ?_
 rotate_left
 · rintro w' ⟨s0, s1, s2, s3, s4, s5⟩
   go_simp
   with_reducible rfl
 rotate_left
 · simp only [Act.put, sa, sb, sc, i64_w, i32_w]
   rfl
 refine take_ (i := 6) (N := some 11) (v := ?_) (a' := ?_) #[true, true, true, true, false, true, true, true, false, false, false, false, false] rfl rfl (take_ofW HT_.out HW_.out (by kernel_rfl)) (fun _ _ _ h => h) (Or.inl ⟨by rfl, ?_⟩) hHeld ?_ ?_
 rotate_left
 · rintro w' ⟨s0, s1, s2, s3, s4, s5⟩
   go_simp
   with_reducible rfl
 rotate_left
 · simp only [Act.put, sa, sb, sc, i64_w, i32_w]
   rfl
 refine take_ (i := 8) (N := some 13) (v := ?_) (a' := ?_) #[true, true, true, true, false, true, true, true, true, false, false, false, false] rfl rfl (take_ofW HT_.out HW_.out (by kernel_rfl)) (fun _ _ _ h => h) (Or.inl ⟨by rfl, ?_⟩) hHeld ?_ ?_
 rotate_left
 · rintro w' ⟨s0, s1, s2, s3, s4, s5⟩
   go_simp
   with_reducible rfl
 rotate_left
 · simp only [Act.put, sa, sb, sc, i64_w, i32_w]
   rfl
 refine pure_ (i := 9) (N := some 14) (v := ?_) (a' := ?_) #[true, true, true, true, false, true, true, true, true, true, false, false, false] rfl rfl (any_of HT_.out (by kernel_rfl)) (fun _ _ _ h => h) (Or.inl ⟨by rfl, ?_⟩) ?_ ?_
 rotate_left
 · intro w'
   go_simp
   with_reducible rfl
 rotate_left
 · simp only [Act.put, sa, sb, sc, i64_w, i32_w]
   rfl
 refine one_ (i := 4) (N := some 9) #[true, true, true, true, true, true, true, true, true, true, false, false, false] rfl rfl (one_of HT_.out (by kernel_rfl)) (by decide) (fun K hK => ?_)
 refine goes_ Try.func58 (by kernel_rfl) rfl #[.agg #[.bool a0_0, .slice A0_1 l0_1.length c0_1], .agg #[.bool a1_0, .slice A1_1 l1_1.length c1_1]] (by rfl) rfl rfl (by (try simp only [List.map_toArray, List.map_cons, List.map_nil]); first | done | rfl | (simp only [List.length_drop, List.length_take]; rfl)) ?_
 with_reducible refine (spec_l1mul.calls k a0_0 _ _ l0_1 a1_0 _ _ l1_1 t194 t195 _ ?side1 ?side2 ?side3 ?side4 A3.out).mono ?_
 (case side1 => exact cB HR0_1 HB)
 (case side2 => exact HC0_1.out)
 (case side3 => exact cB HR1_1 HB)
 (case side4 => exact HC1_1.out)
 rintro e w9 ⟨v196, rfl, ho0, hb⟩
 refine ⟨_, rfl, ?_⟩
 have HO197 := AM (Kd.R_lower ho0 (below_size (pH HB))); replace BK191 := bB BK191 hb; replace BK192 := bB BK192 hb; replace BK193 := bB BK193 hb; replace HB := AM (below_step (pH HB) hb)
 (try clear hb)
 (try clear hb2)
 (try clear hk)
 (try clear hi)
 (try clear ho0)
 obtain ⟨Ao10, co10, eo10⟩ := Kd.R_slice HO197.out
 (first | subst eo10 | (injection eo10 with f1_ f2_ f3_; have f4_ := f1_.symm; have f5_ := f3_.symm; clear f1_ f2_ f3_; subst f4_; subst f5_))
 refine hK.out _ _ ⟨(blk_cell BK191.out 0).trans rfl, (blk_cell BK191.out 1).trans rfl, (blk_cell BK191.out 2).trans rfl, (blk_cell BK192.out 0).trans rfl, (blk_cell BK192.out 1).trans rfl, (blk_cell BK192.out 2).trans rfl⟩ (fun hHeld => ?_)
 clear hK K
 refine norm_ (a' := ?_) ?_ ?_
 rotate_left
 · show Act.put _ (some 9) _ = _
   simp only [Act.put, sa, sb, sc, i64_w, i32_w]
   rfl
 refine pure_ (i := 10) (N := some 15) (v := ?_) (a' := ?_) #[true, true, true, true, true, true, true, true, true, true, true, false, false] rfl rfl (any_of HT_.out (by kernel_rfl)) (fun _ _ _ h => h) (Or.inl ⟨by rfl, ?_⟩) ?_ ?_
 rotate_left
 · intro w'
   go_simp
   with_reducible rfl
 rotate_left
 · simp only [Act.put, sa, sb, sc, i64_w, i32_w]
   rfl
 refine one_ (i := 11) (N := some 16) #[true, true, true, true, true, true, true, true, true, true, true, true, false] rfl rfl (one_of HT_.out (by kernel_rfl)) (by decide) (fun K hK => ?_)
 refine goes_ Try.func139 (by kernel_rfl) rfl #[.agg #[.bool t194, .slice Ao10 t195.length co10, .int .i64 (wrap64 (a0_2 + a1_2))]] (by rfl) rfl rfl (by (try simp only [List.map_toArray, List.map_cons, List.map_nil]); first | done | rfl | (simp only [List.length_drop, List.length_take]; rfl)) ?_
 with_reducible refine (spec_l2norm.calls k t194 _ _ t195 (wrap64 (a0_2 + a1_2)) t198 t199 t202 _ ?side1 ?side2 A4.out).mono ?_
 (case side1 => exact cR HO197)
 (case side2 => exact (Kd.R_reads' HO197.out).2.1)
 rintro e w11 ⟨v200, rfl, ho0, hb⟩
 refine ⟨_, rfl, ?_⟩
 have HO201 := AM (Kd.R_lower (Kd.R_new' ho0 (Kd.R_lt (pR HO197))) (below_size (pH HB))); replace HO197 := AM (Kd.R_elder' (pR HO197) (Kd.R_base ho0) hb); replace BK191 := bB BK191 hb; replace BK192 := bB BK192 hb; replace BK193 := bB BK193 hb; replace HB := AM (below_step (pH HB) hb)
 (try clear hb)
 (try clear hb2)
 (try clear hk)
 (try clear hi)
 (try clear ho0)
 obtain ⟨Ao13, co13, eo13⟩ := Kd.R_slice HO201.out
 (first | subst eo13 | (injection eo13 with f1_ f2_ f3_; have f4_ := f1_.symm; have f5_ := f3_.symm; clear f1_ f2_ f3_; subst f4_; subst f5_))
 refine hK.out _ _ ⟨(blk_cell BK191.out 0).trans rfl, (blk_cell BK191.out 1).trans rfl, (blk_cell BK191.out 2).trans rfl, (blk_cell BK192.out 0).trans rfl, (blk_cell BK192.out 1).trans rfl, (blk_cell BK192.out 2).trans rfl⟩ (fun hHeld => ?_)
 clear hK K
 refine norm_ (a' := ?_) ?_ ?_
 rotate_left
 · show Act.put _ (some 16) _ = _
   simp only [Act.put, sa, sb, sc, i64_w, i32_w]
   rfl
 refine one_ (i := 12) (N := none) #[true, true, true, true, true, true, true, true, true, true, true, true, true] rfl rfl (one_of HT_.out (by kernel_rfl)) (by decide) (fun K hK => ?_)
 have hs12 : w11.cell? ⟨gb193, 0, none⟩ = some (.bool false) := (blk_cell BK193.out 0).trans rfl
 have hfs12 := blk_frozen BK193.out 0; have hns12_0 := NB191_193.out; have hns12_1 := NB192_193.out; have hms12_0 := NB193_191.out; have hms12_1 := NB193_192.out
 have hs14 : w11.cell? ⟨gb193, 1, none⟩ = some (.slice none 0 0) := (blk_cell BK193.out 1).trans rfl
 have hfs14 := blk_frozen BK193.out 1; have hns14_0 := NB191_193.out; have hns14_1 := NB192_193.out; have hms14_0 := NB193_191.out; have hms14_1 := NB193_192.out
 have hs15 : w11.cell? ⟨gb193, 2, none⟩ = some (.int .i64 0) := (blk_cell BK193.out 2).trans rfl
 have hfs15 := blk_frozen BK193.out 2; have hns15_0 := NB191_193.out; have hns15_1 := NB192_193.out; have hms15_0 := NB193_191.out; have hms15_1 := NB193_192.out
 refine skip_ (w1 := ?_) (by rfl) rfl ?_ ?_
 rotate_left
 · go_simp
   rfl
 refine hK.out _ _ ⟨((cell_far (p := ⟨gb193, _, none⟩) NB191_193.out _).trans (((cell_far (p := ⟨gb193, _, none⟩) NB191_193.out _).trans (((cell_far (p := ⟨gb193, _, none⟩) NB191_193.out _).trans (hHeld.1)))))), ((cell_far (p := ⟨gb193, _, none⟩) NB191_193.out _).trans (((cell_far (p := ⟨gb193, _, none⟩) NB191_193.out _).trans (((cell_far (p := ⟨gb193, _, none⟩) NB191_193.out _).trans (hHeld.2.1)))))), ((cell_far (p := ⟨gb193, _, none⟩) NB191_193.out _).trans (((cell_far (p := ⟨gb193, _, none⟩) NB191_193.out _).trans (((cell_far (p := ⟨gb193, _, none⟩) NB191_193.out _).trans (hHeld.2.2.1)))))), ((cell_far (p := ⟨gb193, _, none⟩) NB192_193.out _).trans (((cell_far (p := ⟨gb193, _, none⟩) NB192_193.out _).trans (((cell_far (p := ⟨gb193, _, none⟩) NB192_193.out _).trans (hHeld.2.2.2.1)))))), ((cell_far (p := ⟨gb193, _, none⟩) NB192_193.out _).trans (((cell_far (p := ⟨gb193, _, none⟩) NB192_193.out _).trans (((cell_far (p := ⟨gb193, _, none⟩) NB192_193.out _).trans (hHeld.2.2.2.2.1)))))), ((cell_far (p := ⟨gb193, _, none⟩) NB192_193.out _).trans (((cell_far (p := ⟨gb193, _, none⟩) NB192_193.out _).trans (((cell_far (p := ⟨gb193, _, none⟩) NB192_193.out _).trans (hHeld.2.2.2.2.2))))))⟩ (fun hHeld => ?_)
 clear hK K
 refine done_ (done_of HT_.out (by kernel_rfl)) ?_
 try go_wp2
 refine bodyPost_ret (results_cell_row rfl _ _ gb193 139 #[.bool t198, .slice Ao13 t199.length co13, .int .i64 t202] (0, 0) _ rfl (by refine sB ?_; refine blk_put (cs := #[.bool t198, .slice Ao13 t199.length co13, .int .i64 0]) ?_ 2 _ rfl; refine sB ?_; refine blk_put (cs := #[.bool t198, .slice none 0 0, .int .i64 0]) ?_ 1 _ rfl; refine sB ?_; refine blk_put (cs := #[.bool false, .slice none 0 0, .int .i64 0]) ?_ 0 _ rfl; refine sB ?_; exact BK193.out) Try.underlying139 rfl (by kernel_rfl)) rfl ?_
 exact ⟨_, by first | rfl | (simp [errW_none, errW_some] <;> rfl) | (simp [*, errW_none, errW_some] <;> rfl), by (with_reducible repeat (first | apply Kd.R_alloc | apply Kd.R_drewN | apply Kd.R_drew)); exact Kd.R_mono (Kd.R_far (p := ⟨gb193, 2, none⟩) (Kd.R_far (p := ⟨gb193, 1, none⟩) (Kd.R_far (p := ⟨gb193, 0, none⟩) (Kd.R_types HO201.out BK193.out (by decide)) (fun _ hk => hk.2) (.bool t198)) (fun _ hk => hk.2) (.slice Ao13 t199.length co13)) (fun _ hk => hk.2) (.int .i64 t202)) (fun _ hk => trivial), pH HB⟩

/-! ### spec_l1of: function 59 -/
def spec_l1of.l0 : Nat → List Int → Int → Bool → List Int → Option (Bool × List Int)
 | 0, _, _, _, _ => none
 | k + 1, x3, x4, x204000, x204001 => if x4 < (x204001.length : Int) then (if 0 ≤ x4 then (if x3.length < 17592186044416 then ((some (x3 ++ [wrap64 (Int.tmod (rd x204001 x4) 65536)] : List Int)).bind fun y206 => (if y206.length < 17592186044416 then (spec_l1of.l0 k (y206 ++ [(Int.tdiv (rd x204001 x4) 65536) % 4294967296]) (wrap64 (x4 + 1)) x204000 x204001) else (none))) else (none)) else (none)) else ((spec_l1make.f k x204000 x3).bind fun bt213 => (some (bt213.1, bt213.2)))
def spec_l1of.f (k : Nat) (a0_0 : Bool) (l0_1 : List Int) : Option (Bool × List Int) := spec_l1of.l0 k ([] : List Int) 0 a0_0 l0_1
theorem spec_l1of.mono_l : ∀ k, (∀ y0 y1 y2 y3, LeO (spec_l1of.l0 k y0 y1 y2 y3) (spec_l1of.l0 (k + 1) y0 y1 y2 y3))
 | 0 => fun _ _ _ _ r h => by simp [spec_l1of.l0] at h
 | k + 1 => by
  have ih0 := spec_l1of.mono_l k
  · intro y0 y1 y2 y3
    unfold spec_l1of.l0
    repeat' with_reducible first | exact ih0 _ _ _ _ | exact spec_l1make.mono _ _ _ | exact LeO.refl _ | exact LeO.none _ | refine LeO.ite ?_ ?_ | refine LeO.bind ?_ (fun _ => ?_)
theorem spec_l1of.mono : ∀ a0 a1 k, LeO (spec_l1of.f k a0 a1) (spec_l1of.f (k + 1) a0 a1) := by
 intro a0 a1 k
 have ih0 := spec_l1of.mono_l k
 unfold spec_l1of.f
 repeat' with_reducible first | exact ih0 _ _ _ _ | exact spec_l1make.mono _ _ _ | exact LeO.refl _ | exact LeO.none _ | refine LeO.ite ?_ ?_ | refine LeO.bind ?_ (fun _ => ?_)
set_option maxHeartbeats 8000000 in
set_option maxRecDepth 100000 in
theorem spec_l1of.calls (k : Nat) (a0_0 : Bool) (A0_1 : Option Addr) (c0_1 : Nat) (l0_1 : List Int) (r1 : Bool) (r2 : List Int) (w : World) (hr0_1 : Kd.C (Kd.int .u32) w A0_1 l0_1.length l0_1) (hc0_1 : l0_1.length ≤ c0_1) (h : spec_l1of.f k a0_0 l0_1 = some (r1, r2)) :
 Calls Try.prog 59 #[.agg #[.bool a0_0, .slice A0_1 l0_1.length c0_1]] w fun e w' => ∃ v1_ : Value, e = .returned (.agg #[.bool r1, v1_]) ∧ Kd.R (Kd.int .i64) 3 w' w.heap.size (fun _ => True) v1_ r2 ∧ Below w.heap.size w w' := by
 have hu28 := Try.underlying28; have hu93 := Try.underlying93; have HR0_1 := AM hr0_1; have HC0_1 := AM hc0_1; clear hr0_1 hc0_1; have HB := AM (Below.refl w.heap.size w)
 have H : (spec_l1of.l0 k ([] : List Int) 0 a0_0 l0_1) = some (r1, r2) := h
 clear h
 have H' := AM H
 clear H
 go_enter Try.func59, Try.ntmps59
 go_wp2_with (first | ((with_reducible refine gate_dst (N := 1) rfl ?_); refine box_event ?hg (N := 1) ?hd (cs := #[.bool a0_0, .slice A0_1 l0_1.length c0_1]) (t := 28) ?hr ?_; (case hd => rfl); (case hg => rfl); (case hr => first | (go_simp; done) | (go_simp; rfl)); intro gb203 hg w2 hbox hb; have BK203 := AM (hbox); have GW203 := gH HB hg; have GE203 := gH HB hg; replace HB := AM (below_step (pH HB) hb); clear hb hbox hg) | ((with_reducible refine gate_dst (N := 2) rfl ?_); refine box_event ?hg (N := 2) ?hd (cs := #[.bool false, .slice none 0 0]) (t := 93) ?hr ?_; (case hd => rfl); (case hg => rfl); (case hr => first | (go_simp; done) | (go_simp; rfl)); intro gb204 hg w3 hbox hb; have BK204 := AM (hbox); have GW204 := gH HB hg; have GE204 := gH HB hg; replace HB := AM (below_step (pH HB) hb); have NB203_204 := nL BK203 hg; have NB204_203 := nG BK203 hg; replace BK203 := bB BK203 hb; clear hb hbox hg))
 go_loopg [3, 4] k (fun kq v3 v4 w' => ∃ (x3_1 : List Int) (x4_1 : Int), v4 = .int .i64 x4_1 ∧ Aside0 (spec_l1of.l0 kq x3_1 x4_1 a0_0 l0_1 = some (r1, r2)) ∧ Aside0 (kq ≤ k) ∧ Aside0 (Kd.R (Kd.int .i64) 3 w' w.heap.size (fun _ => True) v3 x3_1) ∧ Aside0 (w'.heap[gb203]? = some (.cells #[.bool a0_0, (.slice A0_1 l0_1.length c0_1)] 28 (0, 0))) ∧ Aside0 (w'.heap[gb204]? = some (.cells #[.bool false, (.slice none 0 0)] 93 (0, 0))) ∧ Aside0 (Below w.heap.size w w'))
 case atStart => exact ⟨(([] : List Int)), (0), (by first | rfl | (simp; done) | (simp [*]; done)), H', ⟨Nat.le_refl _⟩, ⟨by first | exact Kd.R_nil _ _ _ _ _ | exact Kd.N_nil _ _ _ _ _ | exact Kd.V_nil _ _ _ _ _ | exact Kd.Q_nil _ _ _ _ _ | exact Kd.S_nil _ _ _ _ _⟩, ⟨by refine sB ?_; exact BK203.out⟩, ⟨by refine sB ?_; exact BK204.out⟩, ⟨pH HB⟩⟩
 case round =>
  clear H'
  try clear p2
  obtain ⟨x3_1, x4_1, rfl, HA, HK1, HO_3, BK203, BK204, HB⟩ := hrel
  cases gk with
  | zero => exact absurd HA.out (by simp [spec_l1of.l0])
  | succ k1 =>
   have H := HA.out; clear HA
   simp only [spec_l1of.l0] at H
   by_cases c4 : x4_1 < (l0_1.length : Int)
   rotate_left
   · rw [if_neg c4] at H
     have c4b0 : decide (x4_1 < (l0_1.length : Int)) = false := decide_eq_false c4
     clear c4
     replace H := Option.bind_eq_some_iff.mp H
     obtain ⟨⟨t213, t214⟩, A130, H⟩ := H
     (try dsimp only at H)
     have A13 := AM A130; clear A130
     simp only [Option.some.injEq, Prod.mk.injEq] at H
     obtain ⟨rfl, rfl⟩ := H
     have hnb14 := NB203_204.out; have hnc14 := NB204_203.out
     have hcz15_0 : wr.cell? ⟨gb203, 0, none⟩ = some (.bool a0_0) := (blk_cell BK203.out 0).trans rfl
     have hcz15_1 : wr.cell? ⟨gb203, 1, none⟩ = some (.slice A0_1 l0_1.length c0_1) := (blk_cell BK203.out 1).trans rfl
     have hfz15_0 := blk_frozen BK203.out 0; have hfz15_1 := blk_frozen BK203.out 1
     obtain ⟨Ao16, co16, eo16⟩ := Kd.R_slice HO_3.out
     subst eo16
     go_wp2_with (first | ((with_reducible refine gate_callee (f := 115) rfl ?_); refine goesL_ (some 35) rfl rfl Try.func115 (by kernel_rfl) rfl #[.bool a0_0, .slice Ao16 x3_1.length co16] rfl (by (try simp only [List.map_toArray, List.map_cons, List.map_nil]); first | done | rfl | (simp only [List.length_drop, List.length_take]; rfl)) ?_; (with_reducible refine (spec_l1make.calls k1 a0_0 (fun k_ => some k_ = (.slice Ao16 x3_1.length co16 : Value).ownBlock) (.slice Ao16 x3_1.length co16) x3_1 t213 t214 w _ ?side1 ?side2 A13.out).mono ?_); (case side1 => exact pH HB); (case side2 => exact Kd.R_tight rfl HO_3.out); rintro e w17 ⟨v215, rfl, ho0, hb, hkp⟩; refine ⟨_, rfl, ?_⟩; replace BK203 := AM (blk_kept (pB BK203) hkp (fun hs_ => (fun e_ => (Kd.R_ne HO_3.out BK203.out (by decide)) e_) hs_)); replace BK204 := AM (blk_kept (pB BK204) hkp (fun hs_ => (fun e_ => (Kd.R_ne HO_3.out BK204.out (by decide)) e_) hs_)); have HO216 := AM (Kd.R_mono (ok' := fun k_ => True) ho0 (fun k_ hk_ => trivial)); replace HB := AM (hb); clear HO_3; (try clear hb); (try clear hkp); (try clear ho0); have ⟨hcz18_0, hcz18_1, hfz18_0, hfz18_1⟩ := z2 BK204; obtain ⟨Ao19, co19, eo19⟩ := Kd.R_slice HO216.out; subst eo19))
     refine bodyPost_ret (results_cell_row rfl _ _ gb204 93 #[.bool t213, .slice Ao19 t214.length co19] (0, 0) _ rfl (by refine sB ?_; refine blk_put (cs := #[.bool t213, .slice none 0 0]) ?_ 1 _ rfl; refine sB ?_; refine blk_put (cs := #[.bool false, .slice none 0 0]) ?_ 0 _ rfl; refine sB ?_; exact BK204.out) Try.underlying93 rfl (by kernel_rfl)) rfl ?_
     exact ⟨_, by first | rfl | (simp [errW_none, errW_some] <;> rfl) | (simp [*, errW_none, errW_some] <;> rfl), by (with_reducible repeat (first | apply Kd.R_alloc | apply Kd.R_drewN | apply Kd.R_drew)); exact Kd.R_mono (Kd.R_far (p := ⟨gb204, 1, none⟩) (Kd.R_far (p := ⟨gb204, 0, none⟩) (Kd.R_types HO216.out BK204.out (by decide)) (fun _ hk => hk.2) (.bool t213)) (fun _ hk => hk.2) (.slice Ao19 t214.length co19)) (fun _ hk => trivial), pH HB⟩

   rw [if_pos c4] at H
   have c4b0 : decide (x4_1 < (l0_1.length : Int)) = true := decide_eq_true c4
   clear c4
   by_cases c5 : 0 ≤ x4_1
   rotate_left
   · rw [if_neg c5] at H
     exact absurd H (by simp)
   rw [if_pos c5] at H
   have c5b0 : decide (0 ≤ x4_1) = true := decide_eq_true c5
   clear c5
   by_cases c6 : x3_1.length < 17592186044416
   rotate_left
   · rw [if_neg c6] at H
     exact absurd H (by simp)
   rw [if_pos c6] at H
   have LMc6 := AM c6; clear c6
   obtain ⟨y206, hy206⟩ : ∃ y_ : List Int, y_ = (x3_1 ++ [wrap64 (Int.tmod (rd l0_1 x4_1) 65536)]) := ⟨_, rfl⟩
   replace H : (if y206.length < 17592186044416 then (spec_l1of.l0 k1 (y206 ++ [(Int.tdiv (rd l0_1 x4_1) 65536) % 4294967296]) (wrap64 (x4_1 + 1)) a0_0 l0_1) else (none)) = some (r1, r2) := by first | (rw [hy206]; with_reducible exact H) | (have H2_ := (Option.bind_some _ _).symm.trans H; rw [hy206]; with_reducible exact H2_) | (have H2_ := (Option.bind_some _ _).symm.trans H; with_reducible exact H2_) | with_reducible exact H | (rw [hy206]; exact H) | exact H
   have Ny206 := AM hy206; clear hy206
   by_cases c7 : y206.length < 17592186044416
   rotate_left
   · rw [if_neg c7] at H
     exact absurd H (by simp)
   rw [if_pos c7] at H
   have LMc7 := AM c7; clear c7
   obtain ⟨y210, hy210⟩ : ∃ y_ : List Int, y_ = (y206 ++ [(Int.tdiv (rd l0_1 x4_1) 65536) % 4294967296]) := ⟨_, rfl⟩
   replace H : (spec_l1of.l0 k1 y210 (wrap64 (x4_1 + 1)) a0_0 l0_1) = some (r1, r2) := by first | (rw [hy210]; with_reducible exact H) | (have H2_ := (Option.bind_some _ _).symm.trans H; rw [hy210]; with_reducible exact H2_) | (have H2_ := (Option.bind_some _ _).symm.trans H; with_reducible exact H2_) | with_reducible exact H | (rw [hy210]; exact H) | exact H
   have Ny210 := AM hy210; clear hy210
   have H' := AM H
   clear H; have hnb8 := NB203_204.out; have hnc8 := NB204_203.out
   have hcz9_0 : wr.cell? ⟨gb203, 0, none⟩ = some (.bool a0_0) := (blk_cell BK203.out 0).trans rfl
   have hcz9_1 : wr.cell? ⟨gb203, 1, none⟩ = some (.slice A0_1 l0_1.length c0_1) := (blk_cell BK203.out 1).trans rfl
   have hfz9_0 := blk_frozen BK203.out 0; have hfz9_1 := blk_frozen BK203.out 1
   have p205 : 0 ≤ (x4_1 : Int) := of_decide_eq_true (by first | (with_reducible assumption) | assumption)
   have q205 : x4_1 < (l0_1.length : Int) := of_decide_eq_true (by first | (with_reducible assumption) | assumption)
   obtain ⟨ad205, e205, hx205_0⟩ := Kd.at_int HR0_1.out x4_1 p205 q205
   cases e205
   replace hx205_0 := (HB.out.cell (World.block_lt_of_cell? w _ hx205_0)).trans hx205_0; replace p205 := eq_true p205; replace q205 := eq_true q205
   go_wp2_with (first | ((with_reducible refine gate_builtin (b := .append) (xs := #[.tmp 12, .tmp 20]) rfl ?_); at_builtin; refine Kd.R_append (Kd.int .i64) (w0 := w) w.heap.size rfl (.tmp 12) (.tmp 20) 36 3 (.int .i64 0) 8 rfl Try.underlying36 info3 rfl (by decide) (by omega) u3 x3_1 (wrap64 (Int.tmod (rd l0_1 x4_1) 65536)) [.int .i64 (wrap64 (Int.tmod (rd l0_1 x4_1) 65536))] (fun _ => True) (fun _ => False) rfl rfl ?aP (fun _ hk => hk.elim) ?aF ?aO ?aB ?aS ?aL ?_; (case aP => exact rfl); (case aB => exact (pH HB)); (case aF => exact (fun _ _ => trivial)); (case aO => exact (pR HO_3)); (case aS => exact (below_size (pH HB))); (case aL => have := LMc6.out; omega); intro v207 w10 ho hb hg hat; rw [← Ny206.out] at ho; replace BK203 := AM (blk_grown (g := gb203) (o := .cells #[.bool a0_0, .slice (some ad205) l0_1.length c0_1] 28 (0, 0)) (pB BK203) hg (Kd.R_ne HO_3.out BK203.out (by decide))); replace BK204 := AM (blk_grown (g := gb204) (o := .cells #[.bool false, .slice none 0 0] 93 (0, 0)) (pB BK204) hg (Kd.R_ne HO_3.out BK204.out (by decide))); replace HB := AM (hb); have HO208 := AM (ho); clear HO_3; clear ho hb hg hat; have ⟨hcz11_0, hcz11_1, hfz11_0, hfz11_1⟩ := z2 BK203; have p209 : 0 ≤ (x4_1 : Int) := of_decide_eq_true (by first | (with_reducible assumption) | assumption); have q209 : x4_1 < (l0_1.length : Int) := of_decide_eq_true (by first | (with_reducible assumption) | assumption); obtain ⟨ad209, e209, hx209_0⟩ := Kd.at_int HR0_1.out x4_1 p209 q209; obtain rfl : ad205 = ad209 := (by injection e209); replace hx209_0 := (HB.out.cell (World.block_lt_of_cell? w _ hx209_0)).trans hx209_0; replace p209 := eq_true p209; replace q209 := eq_true q209) | ((with_reducible refine gate_builtin (b := .append) (xs := #[.tmp 22, .tmp 30]) rfl ?_); at_builtin; refine Kd.R_append (Kd.int .i64) (w0 := w) w.heap.size rfl (.tmp 22) (.tmp 30) 36 3 (.int .i64 0) 8 rfl Try.underlying36 info3 rfl (by decide) (by omega) v207 y206 ((Int.tdiv (rd l0_1 x4_1) 65536) % 4294967296) [.int .i64 ((Int.tdiv (rd l0_1 x4_1) 65536) % 4294967296)] (fun _ => True) (fun _ => False) rfl rfl ?aP (fun _ hk => hk.elim) ?aF ?aO ?aB ?aS ?aL ?_; (case aP => exact rfl); (case aB => exact (pH HB)); (case aF => exact (fun _ _ => trivial)); (case aO => exact (pR HO208)); (case aS => exact (below_size (pH HB))); (case aL => have := LMc7.out; omega); intro v211 w12 ho hb hg hat; rw [← Ny210.out] at ho; replace BK203 := AM (blk_grown (g := gb203) (o := .cells #[.bool a0_0, .slice (some ad205) l0_1.length c0_1] 28 (0, 0)) (pB BK203) hg (Kd.R_ne HO208.out BK203.out (by decide))); replace BK204 := AM (blk_grown (g := gb204) (o := .cells #[.bool false, .slice none 0 0] 93 (0, 0)) (pB BK204) hg (Kd.R_ne HO208.out BK204.out (by decide))); replace HB := AM (hb); have HO212 := AM (ho); clear HO208; clear ho hb hg hat))
   go_roundg k1
   case measure => have := HK1.out; omega
   case rel => exact ⟨(y210), (wrap64 (x4_1 + 1)), (by first | rfl | (simp; done) | (simp [*]; done)), H', ⟨by have := HK1.out; omega⟩, ⟨by (with_reducible repeat (first | apply Kd.R_alloc | apply Kd.R_drewN | apply Kd.R_drew)); exact HO212.out⟩, ⟨by refine sB ?_; exact BK203.out⟩, ⟨by refine sB ?_; exact BK204.out⟩, ⟨pH HB⟩⟩
/-! ### spec_l2of: function 103 -/
def spec_l2of.f (k : Nat) (a0_0 : Bool) (l0_1 : List Int) (a0_2 : Int) : Option (Bool × List Int × Int) := (spec_l1of.f k a0_0 l0_1).bind fun bt219 => ((spec_l2norm.f k bt219.1 bt219.2 a0_2).bind fun bt223 => (some (bt223.1, bt223.2.1, bt223.2.2)))
theorem spec_l2of.mono : ∀ a0 a1 a2 k, LeO (spec_l2of.f k a0 a1 a2) (spec_l2of.f (k + 1) a0 a1 a2) := by
 intro a0 a1 a2 k
 unfold spec_l2of.f
 repeat' with_reducible first | exact spec_l1of.mono _ _ _ | exact spec_l2norm.mono _ _ _ _ | exact LeO.refl _ | exact LeO.none _ | refine LeO.ite ?_ ?_ | refine LeO.bind ?_ (fun _ => ?_)
def spec_l2of.T1 : Bool × List (List Nat × List Nat) := (true, [([], []), ([0], [0]), ([1], [1]), ([], []), ([3], [3]), ([2, 4], [2, 4]), ([5, 2], [5]), ([6, 6, 0, 1, 2, 3, 4, 5, 6], [6])])
def spec_l2of.B1 : List Nat := [0, 1, 3, 0, 8, 31, 63, 127]
theorem spec_l2of.tab1 : rtab .any (opsOf Try.f103 1) = spec_l2of.T1 := by kernel_rfl
theorem spec_l2of.bits1 : waitsOk spec_l2of.T1.2 spec_l2of.B1 = true := by kernel_rfl
set_option maxHeartbeats 8000000 in
set_option maxRecDepth 100000 in
theorem spec_l2of.calls (k : Nat) (a0_0 : Bool) (A0_1 : Option Addr) (c0_1 : Nat) (l0_1 : List Int) (a0_2 : Int) (r1 : Bool) (r2 : List Int) (r3 : Int) (w : World) (hr0_1 : Kd.C (Kd.int .u32) w A0_1 l0_1.length l0_1) (hc0_1 : l0_1.length ≤ c0_1) (h : spec_l2of.f k a0_0 l0_1 a0_2 = some (r1, r2, r3)) :
 Calls Try.prog 103 #[.agg #[.bool a0_0, .slice A0_1 l0_1.length c0_1, .int .i64 a0_2]] w fun e w' => ∃ v1_ : Value, e = .returned (.agg #[.bool r1, v1_, .int .i64 r3]) ∧ Kd.R (Kd.int .i64) 3 w' w.heap.size (fun _ => True) v1_ r2 ∧ Below w.heap.size w w' := by
 have hu77 := Try.underlying77; have hu139 := Try.underlying139; have hu28 := Try.underlying28; have HR0_1 := AM hr0_1; have HC0_1 := AM hc0_1; clear hr0_1 hc0_1; have HB := AM (Below.refl w.heap.size w)
 have H : ((spec_l1of.f k a0_0 l0_1).bind fun bt219 => ((spec_l2norm.f k bt219.1 bt219.2 a0_2).bind fun bt223 => (some (bt223.1, bt223.2.1, bt223.2.2)))) = some (r1, r2, r3) := h
 clear h
 replace H := Option.bind_eq_some_iff.mp H
 obtain ⟨⟨t219, t220⟩, A20, H⟩ := H
 (try dsimp only at H)
 have A2 := AM A20; clear A20
 replace H := Option.bind_eq_some_iff.mp H
 obtain ⟨⟨t223, t224, t227⟩, A30, H⟩ := H
 (try dsimp only at H)
 have A3 := AM A30; clear A30
 simp only [Option.some.injEq, Prod.mk.injEq] at H
 obtain ⟨rfl, rfl, rfl⟩ := H
 go_enter Try.func103, Try.ntmps103
 try go_wp2_with (first | ((with_reducible refine gate_dst (N := 1) rfl ?_); refine box_event ?hg (N := 1) ?hd (cs := #[.bool a0_0, .slice A0_1 l0_1.length c0_1, .int .i64 a0_2]) (t := 77) ?hr ?_; (case hd => rfl); (case hg => rfl); (case hr => first | (go_simp; done) | (go_simp; rfl)); intro gb217 hg w4 hbox hb; have BK217 := AM (hbox); have GW217 := gH HB hg; have GE217 := gH HB hg; replace HB := AM (below_step (pH HB) hb); clear hb hbox hg) | ((with_reducible refine gate_dst (N := 2) rfl ?_); refine box_event ?hg (N := 2) ?hd (cs := #[.bool false, .slice none 0 0, .int .i64 0]) (t := 139) ?hr ?_; (case hd => rfl); (case hg => rfl); (case hr => first | (go_simp; done) | (go_simp; rfl)); intro gb218 hg w5 hbox hb; have BK218 := AM (hbox); have GW218 := gH HB hg; have GE218 := gH HB hg; replace HB := AM (below_step (pH HB) hb); have NB217_218 := nL BK217 hg; have NB218_217 := nG BK217 hg; replace BK217 := bB BK217 hb; clear hb hbox hg))
 replace BK217 := AM (blk_drew BK217.out); replace BK218 := AM (blk_drew BK218.out); replace HB := AM (below_drew1 HB.out)
 refine start_ (n := 8) (S := fun w' => w'.cell? ⟨gb217, 0, none⟩ = some (.bool a0_0) ∧ w'.cell? ⟨gb217, 1, none⟩ = some (.slice A0_1 l0_1.length c0_1) ∧ w'.cell? ⟨gb217, 2, none⟩ = some (.int .i64 a0_2)) (ds := []) #[false, false, false, false, false, false, false, false] (by kernel_rfl) rfl rfl ⟨(blk_cell BK217.out 0).trans rfl, (blk_cell BK217.out 1).trans rfl, (blk_cell BK217.out 2).trans rfl⟩ (fun hHeld => ?_); refine with_tabW spec_l2of.tab1 spec_l2of.bits1 (fun HT_ HW_ => ?_)
 generalize w5.drew = w6 at BK217 BK218 HB hHeld ⊢
 refine pure_ (i := 0) (N := some 3) (v := ?_) (a' := ?_) #[true, false, false, false, false, false, false, false] rfl rfl (any_of HT_.out (by kernel_rfl)) (fun _ _ _ h => h) (Or.inl ⟨by rfl, ?_⟩) ?_ ?_
 rotate_left
 · intro w'
   go_simp
   with_reducible rfl
 rotate_left
 · simp only [Act.put, sa, sb, sc, i64_w, i32_w]
   rfl
 refine pure_ (i := 3) (N := some 6) (v := ?_) (a' := ?_) #[true, false, false, true, false, false, false, false] rfl rfl (any_of HT_.out (by kernel_rfl)) (fun _ _ _ h => h) (Or.inl ⟨by rfl, ?_⟩) ?_ ?_
 rotate_left
 · intro w'
   go_simp
   with_reducible rfl
 rotate_left
 · simp only [Act.put, sa, sb, sc, i64_w, i32_w]
   rfl
 refine take_ (i := 1) (N := some 4) (v := ?_) (a' := ?_) #[true, true, false, true, false, false, false, false] rfl rfl (take_ofW HT_.out HW_.out (by kernel_rfl)) (fun _ _ _ h => h) (Or.inl ⟨by rfl, ?_⟩) hHeld ?_ ?_
 rotate_left
 · rintro w' ⟨s0, s1, s2⟩
   go_simp
   with_reducible rfl
 rotate_left
 · simp only [Act.put, sa, sb, sc, i64_w, i32_w]
   rfl
 refine take_ (i := 4) (N := some 7) (v := ?_) (a' := ?_) #[true, true, false, true, true, false, false, false] rfl rfl (take_ofW HT_.out HW_.out (by kernel_rfl)) (fun _ _ _ h => h) (Or.inl ⟨by rfl, ?_⟩) hHeld ?_ ?_
 rotate_left
 · rintro w' ⟨s0, s1, s2⟩
   go_simp
   with_reducible rfl
 rotate_left
 · simp only [Act.put, sa, sb, sc, i64_w, i32_w]
   rfl
 refine one_ (i := 2) (N := some 5) #[true, true, true, true, true, false, false, false] rfl rfl (one_of HT_.out (by kernel_rfl)) (by decide) (fun K hK => ?_)
 refine goes_ Try.func59 (by kernel_rfl) rfl #[.agg #[.bool a0_0, .slice A0_1 l0_1.length c0_1]] (by rfl) rfl rfl (by (try simp only [List.map_toArray, List.map_cons, List.map_nil]); first | done | rfl | (simp only [List.length_drop, List.length_take]; rfl)) ?_
 with_reducible refine (spec_l1of.calls k a0_0 _ _ l0_1 t219 t220 _ ?side1 ?side2 A2.out).mono ?_
 (case side1 => exact cB HR0_1 HB)
 (case side2 => exact HC0_1.out)
 rintro e w7 ⟨v221, rfl, ho0, hb⟩
 refine ⟨_, rfl, ?_⟩
 have HO222 := AM (Kd.R_lower ho0 (below_size (pH HB))); replace BK217 := bB BK217 hb; replace BK218 := bB BK218 hb; replace HB := AM (below_step (pH HB) hb)
 (try clear hb)
 (try clear hb2)
 (try clear hk)
 (try clear hi)
 (try clear ho0)
 obtain ⟨Ao8, co8, eo8⟩ := Kd.R_slice HO222.out
 (first | subst eo8 | (injection eo8 with f1_ f2_ f3_; have f4_ := f1_.symm; have f5_ := f3_.symm; clear f1_ f2_ f3_; subst f4_; subst f5_))
 refine hK.out _ _ ⟨(blk_cell BK217.out 0).trans rfl, (blk_cell BK217.out 1).trans rfl, (blk_cell BK217.out 2).trans rfl⟩ (fun hHeld => ?_)
 clear hK K
 refine norm_ (a' := ?_) ?_ ?_
 rotate_left
 · show Act.put _ (some 5) _ = _
   simp only [Act.put, sa, sb, sc, i64_w, i32_w]
   rfl
 refine pure_ (i := 5) (N := some 8) (v := ?_) (a' := ?_) #[true, true, true, true, true, true, false, false] rfl rfl (any_of HT_.out (by kernel_rfl)) (fun _ _ _ h => h) (Or.inl ⟨by rfl, ?_⟩) ?_ ?_
 rotate_left
 · intro w'
   go_simp
   with_reducible rfl
 rotate_left
 · simp only [Act.put, sa, sb, sc, i64_w, i32_w]
   rfl
 refine one_ (i := 6) (N := some 9) #[true, true, true, true, true, true, true, false] rfl rfl (one_of HT_.out (by kernel_rfl)) (by decide) (fun K hK => ?_)
 refine goes_ Try.func139 (by kernel_rfl) rfl #[.agg #[.bool t219, .slice Ao8 t220.length co8, .int .i64 a0_2]] (by rfl) rfl rfl (by (try simp only [List.map_toArray, List.map_cons, List.map_nil]); first | done | rfl | (simp only [List.length_drop, List.length_take]; rfl)) ?_
 with_reducible refine (spec_l2norm.calls k t219 _ _ t220 a0_2 t223 t224 t227 _ ?side1 ?side2 A3.out).mono ?_
 (case side1 => exact cR HO222)
 (case side2 => exact (Kd.R_reads' HO222.out).2.1)
 rintro e w9 ⟨v225, rfl, ho0, hb⟩
 refine ⟨_, rfl, ?_⟩
 have HO226 := AM (Kd.R_lower (Kd.R_new' ho0 (Kd.R_lt (pR HO222))) (below_size (pH HB))); replace HO222 := AM (Kd.R_elder' (pR HO222) (Kd.R_base ho0) hb); replace BK217 := bB BK217 hb; replace BK218 := bB BK218 hb; replace HB := AM (below_step (pH HB) hb)
 (try clear hb)
 (try clear hb2)
 (try clear hk)
 (try clear hi)
 (try clear ho0)
 obtain ⟨Ao11, co11, eo11⟩ := Kd.R_slice HO226.out
 (first | subst eo11 | (injection eo11 with f1_ f2_ f3_; have f4_ := f1_.symm; have f5_ := f3_.symm; clear f1_ f2_ f3_; subst f4_; subst f5_))
 refine hK.out _ _ ⟨(blk_cell BK217.out 0).trans rfl, (blk_cell BK217.out 1).trans rfl, (blk_cell BK217.out 2).trans rfl⟩ (fun hHeld => ?_)
 clear hK K
 refine norm_ (a' := ?_) ?_ ?_
 rotate_left
 · show Act.put _ (some 9) _ = _
   simp only [Act.put, sa, sb, sc, i64_w, i32_w]
   rfl
 refine one_ (i := 7) (N := none) #[true, true, true, true, true, true, true, true] rfl rfl (one_of HT_.out (by kernel_rfl)) (by decide) (fun K hK => ?_)
 have hs10 : w9.cell? ⟨gb218, 0, none⟩ = some (.bool false) := (blk_cell BK218.out 0).trans rfl
 have hfs10 := blk_frozen BK218.out 0; have hns10_0 := NB217_218.out; have hms10_0 := NB218_217.out
 have hs12 : w9.cell? ⟨gb218, 1, none⟩ = some (.slice none 0 0) := (blk_cell BK218.out 1).trans rfl
 have hfs12 := blk_frozen BK218.out 1; have hns12_0 := NB217_218.out; have hms12_0 := NB218_217.out
 have hs13 : w9.cell? ⟨gb218, 2, none⟩ = some (.int .i64 0) := (blk_cell BK218.out 2).trans rfl
 have hfs13 := blk_frozen BK218.out 2; have hns13_0 := NB217_218.out; have hms13_0 := NB218_217.out
 refine skip_ (w1 := ?_) (by rfl) rfl ?_ ?_
 rotate_left
 · go_simp
   rfl
 refine hK.out _ _ ⟨((cell_far (p := ⟨gb218, _, none⟩) NB217_218.out _).trans (((cell_far (p := ⟨gb218, _, none⟩) NB217_218.out _).trans (((cell_far (p := ⟨gb218, _, none⟩) NB217_218.out _).trans (hHeld.1)))))), ((cell_far (p := ⟨gb218, _, none⟩) NB217_218.out _).trans (((cell_far (p := ⟨gb218, _, none⟩) NB217_218.out _).trans (((cell_far (p := ⟨gb218, _, none⟩) NB217_218.out _).trans (hHeld.2.1)))))), ((cell_far (p := ⟨gb218, _, none⟩) NB217_218.out _).trans (((cell_far (p := ⟨gb218, _, none⟩) NB217_218.out _).trans (((cell_far (p := ⟨gb218, _, none⟩) NB217_218.out _).trans (hHeld.2.2))))))⟩ (fun hHeld => ?_)
 clear hK K
 refine done_ (done_of HT_.out (by kernel_rfl)) ?_
 try go_wp2
 refine bodyPost_ret (results_cell_row rfl _ _ gb218 139 #[.bool t223, .slice Ao11 t224.length co11, .int .i64 t227] (0, 0) _ rfl (by refine sB ?_; refine blk_put (cs := #[.bool t223, .slice Ao11 t224.length co11, .int .i64 0]) ?_ 2 _ rfl; refine sB ?_; refine blk_put (cs := #[.bool t223, .slice none 0 0, .int .i64 0]) ?_ 1 _ rfl; refine sB ?_; refine blk_put (cs := #[.bool false, .slice none 0 0, .int .i64 0]) ?_ 0 _ rfl; refine sB ?_; exact BK218.out) Try.underlying139 rfl (by kernel_rfl)) rfl ?_
 exact ⟨_, by first | rfl | (simp [errW_none, errW_some] <;> rfl) | (simp [*, errW_none, errW_some] <;> rfl), by (with_reducible repeat (first | apply Kd.R_alloc | apply Kd.R_drewN | apply Kd.R_drew)); exact Kd.R_mono (Kd.R_far (p := ⟨gb218, 2, none⟩) (Kd.R_far (p := ⟨gb218, 1, none⟩) (Kd.R_far (p := ⟨gb218, 0, none⟩) (Kd.R_types HO226.out BK218.out (by decide)) (fun _ hk => hk.2) (.bool t223)) (fun _ hk => hk.2) (.slice Ao11 t224.length co11)) (fun _ hk => hk.2) (.int .i64 t227)) (fun _ hk => trivial), pH HB⟩

end Go.Proofs.Ytcpdeenhjodmfaa.QDyMul
