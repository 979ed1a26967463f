-- Written by wip/tools/mkprint.py (my program) out of the translation, for this claim. Not trusted: Lean checks it.
import Derived.Test.YtcpdeenhjodmfaaQDecodePicturex0
import Derived.Test.YtcpdeenhjodmfaaQDecodePicturex2
import Derived.Test.YtcpdeenhjodmfaaQDecodePicturex3
namespace Go.Proofs.Ytcpdeenhjodmfaa.QDecodePicture
open Go.RowKit Go.Proofs.YtcpdeenhjodmfaaW.PrintWords Go.Proofs.YtcpdeenhjodmfaaW.PrintLast Go.Proofs.YtcpdeenhjodmfaaW.PrintMore
attribute [local go_sem] max2_int min2_int max_two min_two max_three min_three max_four min_four   -- for this text's walks alone
set_option linter.unusedVariables false
set_option linter.unusedSimpArgs false

/-! ### spec_DecodePicture: function 33 -/
mutual
def spec_DecodePicture.j0 : Nat → List Int → Int → Bool → Int → Option (List Int × Int × List Bool × Int)
 | 0, _, _, _, _ => none
 | k + 1, x0, x5, x30, x162001 => if x30 = true then (some (([] : List Int), 0, ([] : List Bool), 1)) else (spec_DecodePicture.l0 k x0 x5 0 ([] : List Int) x162001)
def spec_DecodePicture.l0 : Nat → List Int → Int → Int → List Int → Int → Option (List Int × Int × List Bool × Int)
 | 0, _, _, _, _, _ => none
 | k + 1, x0, x5, x6, x162000, x162001 => if x6 < x5 then ((spec_l6number.f k x0 (wrap64 (7 + (wrap64 (4 * x6)))) 4).bind fun t164 => (if t164 = 4294967295 then (if x162000.length < 17592186044416 then (spec_DecodePicture.l0 k x0 x5 (wrap64 (x6 + 1)) (x162000 ++ [(-1)]) x162001) else (none)) else (if t164 < 0 then (some (([] : List Int), 0, ([] : List Bool), 1)) else (if x162000.length < 17592186044416 then (spec_DecodePicture.l0 k x0 x5 (wrap64 (x6 + 1)) (x162000 ++ [t164]) x162001) else (none))))) else (spec_DecodePicture.l1 k x0 x5 0 x162000 x162001 ([] : List Bool))
def spec_DecodePicture.l1 : Nat → List Int → Int → Int → List Int → Int → List Bool → Option (List Int × Int × List Bool × Int)
 | 0, _, _, _, _, _, _ => none
 | k + 1, x0, x5, x8, x162000, x162001, x162002 => if x8 < (wrap64 (x5 * x162001)) then ((spec_l6number.f k x0 (wrap64 ((wrap64 (7 + (wrap64 (4 * x5)))) + (wrap64 (Int.tdiv x8 8)))) 1).bind fun t171 => (if t171 < 0 then (some (([] : List Int), 0, ([] : List Bool), 1)) else (if 0 ≤ (IntKind.u64.wrap (Int.tmod x8 8)) then (if x162002.length < 140737488355328 then (spec_DecodePicture.l1 k x0 x5 (wrap64 (x8 + 1)) x162000 x162001 (x162002 ++ [((Int.tmod (shr .i64 t171 (IntKind.u64.wrap (Int.tmod x8 8))) 2) == 1)])) else (none)) else (none)))) else ((spec_l6validPicture.f k x162000 x162001 x162002).bind fun t175 => (if t175 = true then ((spec_l6picture.f k x162000 x162001 x162002).bind fun t176 => (if (strOfNums t176).toList = (strOfNums x0).toList then (some (x162000, x162001, x162002, 0)) else (some (([] : List Int), 0, ([] : List Bool), 1)))) else (some (([] : List Int), 0, ([] : List Bool), 1))))
end
def spec_DecodePicture.f (k : Nat) (l0 : List Int) : Option (List Int × Int × List Bool × Int) := (spec_l6number.f k l0 4 2).bind fun t162 => ((spec_l6number.f k l0 6 1).bind fun t163 => (if t162 < 0 then (spec_DecodePicture.j0 k l0 t162 true t163) else (if t162 > 40 then (spec_DecodePicture.j0 k l0 t162 true t163) else (if t163 < 0 then (spec_DecodePicture.j0 k l0 t162 true t163) else (spec_DecodePicture.j0 k l0 t162 (decide (t163 > 4)) t163)))))
theorem spec_DecodePicture.mono_l : ∀ k, (∀ y0 y1 y2 y3, LeO (spec_DecodePicture.j0 k y0 y1 y2 y3) (spec_DecodePicture.j0 (k + 1) y0 y1 y2 y3)) ∧ (∀ y0 y1 y2 y3 y4, LeO (spec_DecodePicture.l0 k y0 y1 y2 y3 y4) (spec_DecodePicture.l0 (k + 1) y0 y1 y2 y3 y4)) ∧ (∀ y0 y1 y2 y3 y4 y5, LeO (spec_DecodePicture.l1 k y0 y1 y2 y3 y4 y5) (spec_DecodePicture.l1 (k + 1) y0 y1 y2 y3 y4 y5))
 | 0 => ⟨fun _ _ _ _ r h => by simp [spec_DecodePicture.j0] at h, fun _ _ _ _ _ r h => by simp [spec_DecodePicture.l0] at h, fun _ _ _ _ _ _ r h => by simp [spec_DecodePicture.l1] at h⟩
 | k + 1 => by
  obtain ⟨ih0, ih1, ih2⟩ := spec_DecodePicture.mono_l k
  refine ⟨?_, ?_, ?_⟩
  · intro y0 y1 y2 y3
    unfold spec_DecodePicture.j0
    repeat' with_reducible first | exact ih0 _ _ _ _ | exact ih1 _ _ _ _ _ | exact ih2 _ _ _ _ _ _ | exact spec_l6number.mono _ _ _ _ | exact spec_l6picture.mono _ _ _ _ | exact spec_l6validPicture.mono _ _ _ _ | exact LeO.refl _ | exact LeO.none _ | refine LeO.ite ?_ ?_ | refine LeO.bind ?_ (fun _ => ?_)
  · intro y0 y1 y2 y3 y4
    unfold spec_DecodePicture.l0
    repeat' with_reducible first | exact ih0 _ _ _ _ | exact ih1 _ _ _ _ _ | exact ih2 _ _ _ _ _ _ | exact spec_l6number.mono _ _ _ _ | exact spec_l6picture.mono _ _ _ _ | exact spec_l6validPicture.mono _ _ _ _ | exact LeO.refl _ | exact LeO.none _ | refine LeO.ite ?_ ?_ | refine LeO.bind ?_ (fun _ => ?_)
  intro y0 y1 y2 y3 y4 y5
  unfold spec_DecodePicture.l1
  repeat' with_reducible first | exact ih0 _ _ _ _ | exact ih1 _ _ _ _ _ | exact ih2 _ _ _ _ _ _ | exact spec_l6number.mono _ _ _ _ | exact spec_l6picture.mono _ _ _ _ | exact spec_l6validPicture.mono _ _ _ _ | exact LeO.refl _ | exact LeO.none _ | refine LeO.ite ?_ ?_ | refine LeO.bind ?_ (fun _ => ?_)
theorem spec_DecodePicture.mono : ∀ a0 k, LeO (spec_DecodePicture.f k a0) (spec_DecodePicture.f (k + 1) a0) := by
 intro a0 k
 obtain ⟨ih0, ih1, ih2⟩ := spec_DecodePicture.mono_l k
 unfold spec_DecodePicture.f
 repeat' with_reducible first | exact ih0 _ _ _ _ | exact ih1 _ _ _ _ _ | exact ih2 _ _ _ _ _ _ | exact spec_l6number.mono _ _ _ _ | exact spec_l6picture.mono _ _ _ _ | exact spec_l6validPicture.mono _ _ _ _ | exact LeO.refl _ | exact LeO.none _ | refine LeO.ite ?_ ?_ | refine LeO.bind ?_ (fun _ => ?_)
def spec_DecodePicture.T22 : Bool × List (List Nat × List Nat) := (true, [([], []), ([0], [0]), ([1], [1]), ([2, 1], [2]), ([3], [3]), ([4, 3, 3], [3, 4]), ([5, 3], [3, 5]), ([3], [3]), ([7, 3], [3, 7]), ([6, 8, 3], [3, 6, 8]), ([3, 9], [3, 9])])
def spec_DecodePicture.B22 : List Nat := [0, 1, 3, 7, 15, 31, 63, 15, 143, 511, 1023]
theorem spec_DecodePicture.tab22 : rtab .any (opsOf Try.f33 22) = spec_DecodePicture.T22 := by kernel_rfl
theorem spec_DecodePicture.bits22 : waitsOk spec_DecodePicture.T22.2 spec_DecodePicture.B22 = true := by kernel_rfl
set_option maxHeartbeats 8000000 in
set_option maxRecDepth 100000 in
theorem spec_DecodePicture.calls (k : Nat) (A0 : Option Addr) (c0 : Nat) (l0 : List Int) (r1 : List Int) (r2 : Int) (r3 : List Bool) (r4 : Int) (w : World) (hr0 : Kd.C (Kd.int .u8) w A0 l0.length l0) (hc0 : l0.length ≤ c0) (h : spec_DecodePicture.f k l0 = some (r1, r2, r3, r4)) :
 Calls Try.prog 33 #[.slice A0 l0.length c0] w fun e w' => ∃ v0_ v2_ : Value, e = .returned (.tuple #[.agg #[v0_, .int .i64 r2, v2_], .int .i64 r4]) ∧ Kd.R (Kd.int .i64) 3 w' w.heap.size (fun _ => True) v0_ r1 ∧ Kd.R Kd.bool 4 w' w.heap.size (fun _ => True) v2_ r3 ∧ Below w.heap.size w w' := by
 have hu43 := Try.underlying43; have HR0 := AM hr0; have HC0 := AM hc0; clear hr0 hc0; have HB := AM (Below.refl w.heap.size w)
 have H : ((spec_l6number.f k l0 4 2).bind fun t162 => ((spec_l6number.f k l0 6 1).bind fun t163 => (if t162 < 0 then (spec_DecodePicture.j0 k l0 t162 true t163) else (if t162 > 40 then (spec_DecodePicture.j0 k l0 t162 true t163) else (if t163 < 0 then (spec_DecodePicture.j0 k l0 t162 true t163) else (spec_DecodePicture.j0 k l0 t162 (decide (t163 > 4)) t163)))))) = some (r1, r2, r3, r4) := h
 clear h
 replace H := Option.bind_eq_some_iff.mp H
 obtain ⟨t162, A20, H⟩ := H
 (try dsimp only at H)
 have A2 := AM A20; clear A20
 replace H := Option.bind_eq_some_iff.mp H
 obtain ⟨t163, A30, H⟩ := H
 (try dsimp only at H)
 have A3 := AM A30; clear A30; have HC4 := AM H; clear H
 go_enter Try.func33, Try.ntmps33
 go_upto_region 4 with (first | ((with_reducible refine gate_dst (N := 2) rfl ?_); refine box_event ?hg (N := 2) ?hd (cs := #[.slice none 0 0, .int .i64 0, .slice none 0 0]) (t := 43) ?hr ?_; (case hd => rfl); (case hg => rfl); (case hr => first | (go_simp; done) | (go_simp; rfl)); intro gb160 hg w5 hbox hb; have BK160 := AM (hbox); have GW160 := gH HB hg; have GE160 := gH HB hg; replace HB := AM (below_step (pH HB) hb); clear hb hbox hg) | ((with_reducible refine gate_dst (N := 4) rfl ?_); refine box_event ?hg (N := 4) ?hd (cs := #[.slice none 0 0, .int .i64 0, .slice none 0 0]) (t := 43) ?hr ?_; (case hd => rfl); (case hg => rfl); (case hr => first | (go_simp; done) | (go_simp; rfl)); intro gb161 hg w6 hbox hb; have BK161 := AM (hbox); have GW161 := gH HB hg; have GE161 := gH HB hg; replace HB := AM (below_step (pH HB) hb); have NB160_161 := nL BK160 hg; have NB161_160 := nG BK160 hg; replace BK160 := bB BK160 hb; clear hb hbox hg) | ((with_reducible refine gate_callee (f := 81) rfl ?_); refine goesL_ (some 11) rfl rfl Try.func81 (by kernel_rfl) rfl #[.slice A0 l0.length c0, .int .i64 4, .int .i64 2] rfl (by (try simp only [List.map_toArray, List.map_cons, List.map_nil]); first | done | rfl | (simp only [List.length_drop, List.length_take]; rfl)) ?_; (with_reducible refine (spec_l6number.calls k _ _ l0 4 2 t162 _ ?side1 ?side2 A2.out).mono ?_); (case side1 => exact cB HR0 HB); (case side2 => exact HC0.out); rintro e w' ⟨rfl, ⟨nd, rfl⟩⟩; refine ⟨_, rfl, ?_⟩; (try (rw [drewN_self w6]; generalize hq_ : World.drewN w6 _ = w6; have n0_ : Aside0 (w6.heap[gb160]? = some (.cells #[.slice none 0 0, .int .i64 0, .slice none 0 0] 43 (0, 0))) := ⟨by rw [← hq_]; exact (pB BK160)⟩; have n1_ : Aside0 (w6.heap[gb161]? = some (.cells #[.slice none 0 0, .int .i64 0, .slice none 0 0] 43 (0, 0))) := ⟨by rw [← hq_]; exact (pB BK161)⟩; have n2_ : Aside0 (Below w.heap.size w w6) := ⟨by rw [← hq_]; exact (pH HB)⟩; clear BK160 BK161 HB hq_; have BK160 := n0_; have BK161 := n1_; have HB := n2_; clear n0_ n1_ n2_)); have ⟨hcy1_160_0, hcy1_160_1, hcy1_160_2, hfy1_160_0, hfy1_160_1, hfy1_160_2⟩ := z3 BK160; have ⟨hcy1_161_0, hcy1_161_1, hcy1_161_2, hfy1_161_0, hfy1_161_1, hfy1_161_2⟩ := z3 BK161) | ((with_reducible refine gate_callee (f := 81) rfl ?_); refine goesL_ (some 13) rfl rfl Try.func81 (by kernel_rfl) rfl #[.slice A0 l0.length c0, .int .i64 6, .int .i64 1] rfl (by (try simp only [List.map_toArray, List.map_cons, List.map_nil]); first | done | rfl | (simp only [List.length_drop, List.length_take]; rfl)) ?_; (with_reducible refine (spec_l6number.calls k _ _ l0 6 1 t163 _ ?side1 ?side2 A3.out).mono ?_); (case side1 => exact cB HR0 HB); (case side2 => exact HC0.out); rintro e w' ⟨rfl, ⟨nd, rfl⟩⟩; refine ⟨_, rfl, ?_⟩; (try (rw [drewN_self w6]; generalize hq_ : World.drewN w6 _ = w6; have n0_ : Aside0 (w6.heap[gb160]? = some (.cells #[.slice none 0 0, .int .i64 0, .slice none 0 0] 43 (0, 0))) := ⟨by rw [← hq_]; exact (pB BK160)⟩; have n1_ : Aside0 (w6.heap[gb161]? = some (.cells #[.slice none 0 0, .int .i64 0, .slice none 0 0] 43 (0, 0))) := ⟨by rw [← hq_]; exact (pB BK161)⟩; have n2_ : Aside0 (Below w.heap.size w w6) := ⟨by rw [← hq_]; exact (pH HB)⟩; clear BK160 BK161 HB hq_; have BK160 := n0_; have BK161 := n1_; have HB := n2_; clear n0_ n1_ n2_)); have ⟨hcy2_160_0, hcy2_160_1, hcy2_160_2, hfy2_160_0, hfy2_160_1, hfy2_160_2⟩ := z3 BK160; have ⟨hcy2_161_0, hcy2_161_1, hcy2_161_2, hfy2_161_0, hfy2_161_1, hfy2_161_2⟩ := z3 BK161; have hnb7 := NB161_160.out; have hnc7 := NB160_161.out; have ⟨hcz8_0, hcz8_1, hcz8_2, hfz8_0, hfz8_1, hfz8_2⟩ := z3 BK161))
 (try simp only [Act.put, List.setIfInBounds_toArray, List.set_cons_zero, List.set_cons_succ])
 go_cut [30] (fun v30 wc => ∃ (kq : Nat) (x30_3 : Bool), v30 = .bool x30_3 ∧ Aside0 (spec_DecodePicture.j0 kq l0 t162 x30_3 t163 = some (r1, r2, r3, r4)) ∧ Aside0 (kq ≤ k) ∧ Aside0 (wc.heap[gb160]? = some (.cells #[(.slice none 0 0), .int .i64 0, (.slice none 0 0)] 43 (0, 0))) ∧ Aside0 (wc.heap[gb161]? = some (.cells #[(.slice none 0 0), .int .i64 t163, (.slice none 0 0)] 43 (0, 0))) ∧ Aside0 (Below w.heap.size w wc))
 case first =>
  have H := HC4.out; clear HC4
  by_cases c9 : t162 < 0
  · rw [if_pos c9] at H
    have c9b0 : decide (t162 < 0) = true := decide_eq_true c9
    clear c9
    (first | rw [c9b0] | (simp only [i64_w, i32_w]; rw [c9b0]) | skip)
    have H' := AM H
    clear H
    go_wp2
    go_meet
    case rel => exact ⟨_, (true), (by first | rfl | (simp; done) | (simp [*]; done)), H', ⟨by first | omega | exact Nat.le_refl _⟩, ⟨by refine sB ?_; refine blk_far ?_ NB160_161.out _; refine sB ?_; exact BK160.out⟩, ⟨by refine sB ?_; refine blk_put (cs := #[.slice none 0 0, .int .i64 0, .slice none 0 0]) ?_ 1 _ rfl; refine sB ?_; exact BK161.out⟩, ⟨pH HB⟩⟩
  rw [if_neg c9] at H
  have c9b0 : decide (t162 < 0) = false := decide_eq_false c9
  clear c9
  (first | rw [c9b0] | (simp only [i64_w, i32_w]; rw [c9b0]) | skip)
  by_cases c10 : t162 > 40
  · rw [if_pos c10] at H
    have c10b0 : decide (40 < t162) = true := decide_eq_true c10
    clear c10
    have H' := AM H
    clear H
    go_wp2
    go_meet
    case rel => exact ⟨_, (true), (by first | rfl | (simp; done) | (simp [*]; done)), H', ⟨by first | omega | exact Nat.le_refl _⟩, ⟨by refine sB ?_; refine blk_far ?_ NB160_161.out _; refine sB ?_; exact BK160.out⟩, ⟨by refine sB ?_; refine blk_put (cs := #[.slice none 0 0, .int .i64 0, .slice none 0 0]) ?_ 1 _ rfl; refine sB ?_; exact BK161.out⟩, ⟨pH HB⟩⟩
  rw [if_neg c10] at H
  have c10b0 : decide (40 < t162) = false := decide_eq_false c10
  clear c10
  by_cases c11 : t163 < 0
  · rw [if_pos c11] at H
    have c11b0 : decide (t163 < 0) = true := decide_eq_true c11
    clear c11
    have H' := AM H
    clear H; have hnb12 := NB161_160.out; have hnc12 := NB160_161.out
    have hcz13_0 : w6.cell? ⟨gb161, 0, none⟩ = some (.slice none 0 0) := (blk_cell BK161.out 0).trans rfl
    have hcz13_1 : w6.cell? ⟨gb161, 1, none⟩ = some (.int .i64 0) := (blk_cell BK161.out 1).trans rfl
    have hcz13_2 : w6.cell? ⟨gb161, 2, none⟩ = some (.slice none 0 0) := (blk_cell BK161.out 2).trans rfl
    have hfz13_0 := blk_frozen BK161.out 0; have hfz13_1 := blk_frozen BK161.out 1; have hfz13_2 := blk_frozen BK161.out 2
    go_wp2
    go_meet
    case rel => exact ⟨_, (true), (by first | rfl | (simp; done) | (simp [*]; done)), H', ⟨by first | omega | exact Nat.le_refl _⟩, ⟨by refine sB ?_; refine blk_far ?_ NB160_161.out _; refine sB ?_; exact BK160.out⟩, ⟨by refine sB ?_; refine blk_put (cs := #[.slice none 0 0, .int .i64 0, .slice none 0 0]) ?_ 1 _ rfl; refine sB ?_; exact BK161.out⟩, ⟨pH HB⟩⟩
  rw [if_neg c11] at H
  have c11b0 : decide (t163 < 0) = false := decide_eq_false c11
  clear c11
  have H' := AM H
  clear H; have hnb14 := NB161_160.out; have hnc14 := NB160_161.out
  have hcz15_0 : w6.cell? ⟨gb161, 0, none⟩ = some (.slice none 0 0) := (blk_cell BK161.out 0).trans rfl
  have hcz15_1 : w6.cell? ⟨gb161, 1, none⟩ = some (.int .i64 0) := (blk_cell BK161.out 1).trans rfl
  have hcz15_2 : w6.cell? ⟨gb161, 2, none⟩ = some (.slice none 0 0) := (blk_cell BK161.out 2).trans rfl
  have hfz15_0 := blk_frozen BK161.out 0; have hfz15_1 := blk_frozen BK161.out 1; have hfz15_2 := blk_frozen BK161.out 2
  go_wp2
  go_meet
  case rel => exact ⟨_, (decide (t163 > 4)), (by first | rfl | (simp; done) | (simp [*]; done)), H', ⟨by first | omega | exact Nat.le_refl _⟩, ⟨by refine sB ?_; refine blk_far ?_ NB160_161.out _; refine sB ?_; exact BK160.out⟩, ⟨by refine sB ?_; refine blk_put (cs := #[.slice none 0 0, .int .i64 0, .slice none 0 0]) ?_ 1 _ rfl; refine sB ?_; exact BK161.out⟩, ⟨pH HB⟩⟩
 case rest =>
  clear HC4
  try clear c1
  try clear p2
  try clear c3
  try clear c7
  try clear c8
  try clear c9
  try clear c9b0
  try clear c10
  try clear c10b0
  try clear c11
  try clear c11b0
  try clear c12
  try clear c14
  try clear hcz13_0
  try clear hcz13_1
  try clear hcz13_2
  try clear hcz15_0
  try clear hcz15_1
  try clear hcz15_2
  try clear hcz8_0
  try clear hcz8_1
  try clear hcz8_2
  try clear hfz13_0
  try clear hfz13_1
  try clear hfz13_2
  try clear hfz15_0
  try clear hfz15_1
  try clear hfz15_2
  try clear hfz8_0
  try clear hfz8_1
  try clear hfz8_2
  obtain ⟨kq, x30_3, rfl, HA, HJ3, BK160, BK161, HB⟩ := hcut
  cases kq with
  | zero => exact absurd HA.out (by simp [spec_DecodePicture.j0])
  | succ kj3 =>
   have H := HA.out; clear HA
   simp only [spec_DecodePicture.j0] at H
   by_cases c16 : x30_3 = true
   · subst c16
     have H1 : (some (([] : List Int), 0, ([] : List Bool), 1)) = some (r1, r2, r3, r4) := by rw [if_pos rfl] at H; exact H
     clear H; have H := H1; clear H1
     simp only [Option.some.injEq, Prod.mk.injEq] at H
     obtain ⟨rfl, rfl, rfl, rfl⟩ := H
     have hnb17 := NB160_161.out; have hnc17 := NB161_160.out
     have hcz18_0 : wc.cell? ⟨gb160, 0, none⟩ = some (.slice none 0 0) := (blk_cell BK160.out 0).trans rfl
     have hcz18_1 : wc.cell? ⟨gb160, 1, none⟩ = some (.int .i64 0) := (blk_cell BK160.out 1).trans rfl
     have hcz18_2 : wc.cell? ⟨gb160, 2, none⟩ = some (.slice none 0 0) := (blk_cell BK160.out 2).trans rfl
     have hfz18_0 := blk_frozen BK160.out 0; have hfz18_1 := blk_frozen BK160.out 1; have hfz18_2 := blk_frozen BK160.out 2
     go_wp2
     refine bodyPost_ret (results_ct rfl _ _ gb160 43 #[.slice none 0 0, .int .i64 0, .slice none 0 0] (0, 0) _ rfl (by refine sB ?_; refine blk_put (cs := #[.slice none 0 0, .int .i64 0, .slice none 0 0]) ?_ 2 _ rfl; refine sB ?_; refine blk_put (cs := #[.slice none 0 0, .int .i64 0, .slice none 0 0]) ?_ 1 _ rfl; refine sB ?_; refine blk_put (cs := #[.slice none 0 0, .int .i64 0, .slice none 0 0]) ?_ 0 _ rfl; refine sB ?_; exact BK160.out) Try.underlying43 rfl (by kernel_rfl)) rfl ?_
     exact ⟨_, _, by first | rfl | (simp [errW_none, errW_some] <;> rfl) | (simp [*, errW_none, errW_some] <;> rfl), by first | exact Kd.R_nil _ _ _ _ _ | exact Kd.N_nil _ _ _ _ _ | exact Kd.V_nil _ _ _ _ _ | exact Kd.Q_nil _ _ _ _ _ | exact Kd.S_nil _ _ _ _ _, by first | exact Kd.R_nil _ _ _ _ _ | exact Kd.N_nil _ _ _ _ _ | exact Kd.V_nil _ _ _ _ _ | exact Kd.Q_nil _ _ _ _ _ | exact Kd.S_nil _ _ _ _ _, pH HB⟩
   replace c16 := Bool.eq_false_iff.mpr c16
   subst c16
   have H1 : (spec_DecodePicture.l0 kj3 l0 t162 0 ([] : List Int) t163) = some (r1, r2, r3, r4) := by rw [if_neg (show ¬ (false = true) by decide)] at H; exact H
   clear H; have H := H1; clear H1
   have H' := AM H
   clear H
   go_wp2
   go_loopg [6] kj3 (fun kq v6 w' => ∃ (x6_2 : Int) (x161001_2 : Int) (x162000_2 : List Int) (u162000 : Value), v6 = .int .i64 x6_2 ∧ Aside0 (spec_DecodePicture.l0 kq l0 t162 x6_2 x162000_2 t163 = some (r1, r2, r3, r4)) ∧ Aside0 (kq ≤ kj3) ∧ Aside0 (Kd.R (Kd.int .i64) 3 w' w.heap.size (fun _ => True) u162000 x162000_2) ∧ Aside0 (w'.heap[gb160]? = some (.cells #[(.slice none 0 0), .int .i64 x161001_2, (.slice none 0 0)] 43 (0, 0))) ∧ Aside0 (w'.heap[gb161]? = some (.cells #[u162000, .int .i64 t163, (.slice none 0 0)] 43 (0, 0))) ∧ Aside0 (Below w.heap.size w w'))
   case atStart => exact ⟨(0), (0), (([] : List Int)), (.slice none 0 0), (by first | rfl | (simp; done) | (simp [*]; done)), H', ⟨Nat.le_refl _⟩, ⟨by first | exact Kd.R_nil _ _ _ _ _ | exact Kd.N_nil _ _ _ _ _ | exact Kd.V_nil _ _ _ _ _ | exact Kd.Q_nil _ _ _ _ _ | exact Kd.S_nil _ _ _ _ _⟩, ⟨by refine sB ?_; exact BK160.out⟩, ⟨by refine sB ?_; exact BK161.out⟩, ⟨pH HB⟩⟩
   case round =>
    clear H'
    try clear c1
    try clear p2
    try clear c3
    try clear c7
    try clear c8
    try clear c9
    try clear c9b0
    try clear c10
    try clear c10b0
    try clear c11
    try clear c11b0
    try clear c12
    try clear c14
    try clear c16
    try clear c17
    try clear hcz13_0
    try clear hcz13_1
    try clear hcz13_2
    try clear hcz15_0
    try clear hcz15_1
    try clear hcz15_2
    try clear hcz18_0
    try clear hcz18_1
    try clear hcz18_2
    try clear hcz8_0
    try clear hcz8_1
    try clear hcz8_2
    try clear hfz13_0
    try clear hfz13_1
    try clear hfz13_2
    try clear hfz15_0
    try clear hfz15_1
    try clear hfz15_2
    try clear hfz18_0
    try clear hfz18_1
    try clear hfz18_2
    try clear hfz8_0
    try clear hfz8_1
    try clear hfz8_2
    try clear p2
    obtain ⟨x6_2, x161001_2, x162000_2, u162000, rfl, HA, HK2, HO_162000, BK160, BK161, HB⟩ := hrel
    cases gk with
    | zero => exact absurd HA.out (by simp [spec_DecodePicture.l0])
    | succ k2 =>
     have H := HA.out; clear HA
     simp only [spec_DecodePicture.l0] at H
     by_cases c19 : x6_2 < t162
     · rw [if_pos c19] at H
       have c19b0 : decide (x6_2 < t162) = true := decide_eq_true c19
       clear c19
       replace H := Option.bind_eq_some_iff.mp H
       obtain ⟨t164, A200, H⟩ := H
       (try dsimp only at H)
       have A20 := AM A200; clear A200
       by_cases c21 : t164 = 4294967295
       · rw [if_pos c21] at H
         have c21b0 : (t164 == 4294967295) = true := beq_iff_eq.mpr c21
         have c21b1 : (t164 != 4294967295) = false := bne_eq_false_iff_eq.mpr c21
         clear c21
         by_cases c22 : x162000_2.length < 17592186044416
         rotate_left
         · rw [if_neg c22] at H
           exact absurd H (by simp)
         rw [if_pos c22] at H
         have LMc22 := AM c22; clear c22
         obtain ⟨y165, hy165⟩ : ∃ y_ : List Int, y_ = (x162000_2 ++ [(-1)]) := ⟨_, rfl⟩
         replace H : (spec_DecodePicture.l0 k2 l0 t162 (wrap64 (x6_2 + 1)) y165 t163) = some (r1, r2, r3, r4) := by first | (rw [hy165]; with_reducible exact H) | (have H2_ := (Option.bind_some _ _).symm.trans H; rw [hy165]; with_reducible exact H2_) | (have H2_ := (Option.bind_some _ _).symm.trans H; with_reducible exact H2_) | with_reducible exact H | (rw [hy165]; exact H) | exact H
         have Ny165 := AM hy165; clear hy165
         have H' := AM H
         clear H
         go_wp2_with (first | ((with_reducible refine gate_callee (f := 81) rfl ?_); refine goesL_ (some 41) rfl rfl Try.func81 (by kernel_rfl) rfl #[.slice A0 l0.length c0, .int .i64 (wrap64 (7 + (wrap64 (4 * x6_2)))), .int .i64 4] rfl (by (try simp only [List.map_toArray, List.map_cons, List.map_nil]); first | done | rfl | (simp only [List.length_drop, List.length_take]; rfl)) ?_; (with_reducible refine (spec_l6number.calls k2 _ _ l0 (wrap64 (7 + (wrap64 (4 * x6_2)))) 4 t164 _ ?side1 ?side2 A20.out).mono ?_); (case side1 => exact cB HR0 HB); (case side2 => exact HC0.out); rintro e w' ⟨rfl, ⟨nd, rfl⟩⟩; refine ⟨_, rfl, ?_⟩; (try (rw [drewN_self wr]; generalize hq_ : World.drewN wr _ = wr; have n0_ : Aside0 (Kd.R (Kd.int .i64) 3 wr w.heap.size (fun _ => True) u162000 x162000_2) := ⟨by rw [← hq_]; exact (pR HO_162000)⟩; have n1_ : Aside0 (wr.heap[gb160]? = some (.cells #[.slice none 0 0, .int .i64 x161001_2, .slice none 0 0] 43 (0, 0))) := ⟨by rw [← hq_]; exact (pB BK160)⟩; have n2_ : Aside0 (wr.heap[gb161]? = some (.cells #[u162000, .int .i64 t163, .slice none 0 0] 43 (0, 0))) := ⟨by rw [← hq_]; exact (pB BK161)⟩; have n3_ : Aside0 (Below w.heap.size w wr) := ⟨by rw [← hq_]; exact (pH HB)⟩; clear HO_162000 BK160 BK161 HB hq_; have HO_162000 := n0_; have BK160 := n1_; have BK161 := n2_; have HB := n3_; clear n0_ n1_ n2_ n3_)); have ⟨hcy3_160_0, hcy3_160_1, hcy3_160_2, hfy3_160_0, hfy3_160_1, hfy3_160_2⟩ := z3 BK160; have ⟨hcy3_161_0, hcy3_161_1, hcy3_161_2, hfy3_161_0, hfy3_161_1, hfy3_161_2⟩ := z3 BK161; have hnb23 := NB161_160.out; have hnc23 := NB160_161.out; have ⟨hcz24_0, hcz24_1, hcz24_2, hfz24_0, hfz24_1, hfz24_2⟩ := z3 BK161) | ((with_reducible refine gate_builtin (b := .append) (xs := #[.tmp 48, .tmp 50]) rfl ?_); at_builtin; refine Kd.R_append (Kd.int .i64) (w0 := w) w.heap.size rfl (.tmp 48) (.tmp 50) 36 3 (.int .i64 0) 8 rfl Try.underlying36 info3 rfl (by decide) (by omega) u162000 x162000_2 (-1) [.int .i64 (-1)] (fun _ => True) (fun _ => False) rfl rfl ?aP (fun _ hk => hk.elim) ?aF ?aO ?aB ?aS ?aL ?_; (case aP => exact rfl); (case aB => exact (pH HB)); (case aF => exact (fun _ _ => trivial)); (case aO => exact (pR HO_162000)); (case aS => exact (below_size (pH HB))); (case aL => have := LMc22.out; omega); intro v166 w25 ho hb hg hat; rw [← Ny165.out] at ho; replace BK160 := AM (blk_grown (g := gb160) (o := .cells #[.slice none 0 0, .int .i64 x161001_2, .slice none 0 0] 43 (0, 0)) (pB BK160) hg (Kd.R_ne HO_162000.out BK160.out (by decide))); replace BK161 := AM (blk_grown (g := gb161) (o := .cells #[u162000, .int .i64 t163, .slice none 0 0] 43 (0, 0)) (pB BK161) hg (Kd.R_ne HO_162000.out BK161.out (by decide))); replace HB := AM (hb); have HO167 := AM (ho); clear HO_162000; clear ho hb hg hat; obtain ⟨Ao26, co26, eo26⟩ := Kd.R_slice HO167.out; subst eo26; have ⟨hcz27_0, hcz27_1, hcz27_2, hfz27_0, hfz27_1, hfz27_2⟩ := z3 BK161))
         go_roundg k2
         case measure => have := HJ3.out; have := HK2.out; omega
         case rel => exact ⟨(wrap64 (x6_2 + 1)), (x161001_2), (y165), (.slice Ao26 y165.length co26), (by first | rfl | (simp; done) | (simp [*]; done)), H', ⟨by have := HJ3.out; have := HK2.out; omega⟩, ⟨by (with_reducible repeat (first | apply Kd.R_alloc | apply Kd.R_drewN | apply Kd.R_drew)); exact Kd.R_mono (Kd.R_far (p := ⟨gb161, 0, none⟩) (Kd.R_types HO167.out BK161.out (by decide)) (fun _ hk => hk.2) (.slice Ao26 y165.length co26)) (fun _ hk => trivial)⟩, ⟨by refine sB ?_; refine blk_far ?_ NB160_161.out _; refine sB ?_; exact BK160.out⟩, ⟨by refine sB ?_; refine blk_put (cs := #[u162000, .int .i64 t163, .slice none 0 0]) ?_ 0 _ rfl; refine sB ?_; exact BK161.out⟩, ⟨pH HB⟩⟩
       rw [if_neg c21] at H
       have c21b0 : (t164 == 4294967295) = false := beq_eq_false_iff_ne.mpr c21
       have c21b1 : (t164 != 4294967295) = true := bne_iff_ne.mpr c21
       by_cases c28 : t164 < 0
       · rw [if_pos c28] at H
         have c28b0 : decide (t164 < 0) = true := decide_eq_true c28
         clear c28
         simp only [Option.some.injEq, Prod.mk.injEq] at H
         obtain ⟨rfl, rfl, rfl, rfl⟩ := H
         go_wp2_with (first | ((with_reducible refine gate_callee (f := 81) rfl ?_); refine goesL_ (some 41) rfl rfl Try.func81 (by kernel_rfl) rfl #[.slice A0 l0.length c0, .int .i64 (wrap64 (7 + (wrap64 (4 * x6_2)))), .int .i64 4] rfl (by (try simp only [List.map_toArray, List.map_cons, List.map_nil]); first | done | rfl | (simp only [List.length_drop, List.length_take]; rfl)) ?_; (with_reducible refine (spec_l6number.calls k2 _ _ l0 (wrap64 (7 + (wrap64 (4 * x6_2)))) 4 t164 _ ?side1 ?side2 A20.out).mono ?_); (case side1 => exact cB HR0 HB); (case side2 => exact HC0.out); rintro e w' ⟨rfl, ⟨nd, rfl⟩⟩; refine ⟨_, rfl, ?_⟩; (try (rw [drewN_self wr]; generalize hq_ : World.drewN wr _ = wr; have n0_ : Aside0 (Kd.R (Kd.int .i64) 3 wr w.heap.size (fun _ => True) u162000 x162000_2) := ⟨by rw [← hq_]; exact (pR HO_162000)⟩; have n1_ : Aside0 (wr.heap[gb160]? = some (.cells #[.slice none 0 0, .int .i64 x161001_2, .slice none 0 0] 43 (0, 0))) := ⟨by rw [← hq_]; exact (pB BK160)⟩; have n2_ : Aside0 (wr.heap[gb161]? = some (.cells #[u162000, .int .i64 t163, .slice none 0 0] 43 (0, 0))) := ⟨by rw [← hq_]; exact (pB BK161)⟩; have n3_ : Aside0 (Below w.heap.size w wr) := ⟨by rw [← hq_]; exact (pH HB)⟩; clear HO_162000 BK160 BK161 HB hq_; have HO_162000 := n0_; have BK160 := n1_; have BK161 := n2_; have HB := n3_; clear n0_ n1_ n2_ n3_)); have ⟨hcy4_160_0, hcy4_160_1, hcy4_160_2, hfy4_160_0, hfy4_160_1, hfy4_160_2⟩ := z3 BK160; have ⟨hcy4_161_0, hcy4_161_1, hcy4_161_2, hfy4_161_0, hfy4_161_1, hfy4_161_2⟩ := z3 BK161; have hnb29 := NB160_161.out; have hnc29 := NB161_160.out; have ⟨hcz30_0, hcz30_1, hcz30_2, hfz30_0, hfz30_1, hfz30_2⟩ := z3 BK160))
         refine bodyPost_ret (results_ct rfl _ _ gb160 43 #[.slice none 0 0, .int .i64 0, .slice none 0 0] (0, 0) _ rfl (by refine sB ?_; refine blk_put (cs := #[.slice none 0 0, .int .i64 0, .slice none 0 0]) ?_ 2 _ rfl; refine sB ?_; refine blk_put (cs := #[.slice none 0 0, .int .i64 x161001_2, .slice none 0 0]) ?_ 1 _ rfl; refine sB ?_; refine blk_put (cs := #[.slice none 0 0, .int .i64 x161001_2, .slice none 0 0]) ?_ 0 _ rfl; refine sB ?_; exact BK160.out) Try.underlying43 rfl (by kernel_rfl)) rfl ?_
         exact ⟨_, _, by first | rfl | (simp [errW_none, errW_some] <;> rfl) | (simp [*, errW_none, errW_some] <;> rfl), by first | exact Kd.R_nil _ _ _ _ _ | exact Kd.N_nil _ _ _ _ _ | exact Kd.V_nil _ _ _ _ _ | exact Kd.Q_nil _ _ _ _ _ | exact Kd.S_nil _ _ _ _ _, by first | exact Kd.R_nil _ _ _ _ _ | exact Kd.N_nil _ _ _ _ _ | exact Kd.V_nil _ _ _ _ _ | exact Kd.Q_nil _ _ _ _ _ | exact Kd.S_nil _ _ _ _ _, pH HB⟩
       rw [if_neg c28] at H
       have c28b0 : decide (t164 < 0) = false := decide_eq_false c28
       clear c28
       by_cases c31 : x162000_2.length < 17592186044416
       rotate_left
       · rw [if_neg c31] at H
         exact absurd H (by simp)
       rw [if_pos c31] at H
       have LMc31 := AM c31; clear c31
       obtain ⟨y168, hy168⟩ : ∃ y_ : List Int, y_ = (x162000_2 ++ [t164]) := ⟨_, rfl⟩
       replace H : (spec_DecodePicture.l0 k2 l0 t162 (wrap64 (x6_2 + 1)) y168 t163) = some (r1, r2, r3, r4) := by first | (rw [hy168]; with_reducible exact H) | (have H2_ := (Option.bind_some _ _).symm.trans H; rw [hy168]; with_reducible exact H2_) | (have H2_ := (Option.bind_some _ _).symm.trans H; with_reducible exact H2_) | with_reducible exact H | (rw [hy168]; exact H) | exact H
       have Ny168 := AM hy168; clear hy168
       have H' := AM H
       clear H
       go_wp2_with (first | ((with_reducible refine gate_callee (f := 81) rfl ?_); refine goesL_ (some 41) rfl rfl Try.func81 (by kernel_rfl) rfl #[.slice A0 l0.length c0, .int .i64 (wrap64 (7 + (wrap64 (4 * x6_2)))), .int .i64 4] rfl (by (try simp only [List.map_toArray, List.map_cons, List.map_nil]); first | done | rfl | (simp only [List.length_drop, List.length_take]; rfl)) ?_; (with_reducible refine (spec_l6number.calls k2 _ _ l0 (wrap64 (7 + (wrap64 (4 * x6_2)))) 4 t164 _ ?side1 ?side2 A20.out).mono ?_); (case side1 => exact cB HR0 HB); (case side2 => exact HC0.out); rintro e w' ⟨rfl, ⟨nd, rfl⟩⟩; refine ⟨_, rfl, ?_⟩; (try (rw [drewN_self wr]; generalize hq_ : World.drewN wr _ = wr; have n0_ : Aside0 (Kd.R (Kd.int .i64) 3 wr w.heap.size (fun _ => True) u162000 x162000_2) := ⟨by rw [← hq_]; exact (pR HO_162000)⟩; have n1_ : Aside0 (wr.heap[gb160]? = some (.cells #[.slice none 0 0, .int .i64 x161001_2, .slice none 0 0] 43 (0, 0))) := ⟨by rw [← hq_]; exact (pB BK160)⟩; have n2_ : Aside0 (wr.heap[gb161]? = some (.cells #[u162000, .int .i64 t163, .slice none 0 0] 43 (0, 0))) := ⟨by rw [← hq_]; exact (pB BK161)⟩; have n3_ : Aside0 (Below w.heap.size w wr) := ⟨by rw [← hq_]; exact (pH HB)⟩; clear HO_162000 BK160 BK161 HB hq_; have HO_162000 := n0_; have BK160 := n1_; have BK161 := n2_; have HB := n3_; clear n0_ n1_ n2_ n3_)); have ⟨hcy5_160_0, hcy5_160_1, hcy5_160_2, hfy5_160_0, hfy5_160_1, hfy5_160_2⟩ := z3 BK160; have ⟨hcy5_161_0, hcy5_161_1, hcy5_161_2, hfy5_161_0, hfy5_161_1, hfy5_161_2⟩ := z3 BK161; have hnb32 := NB161_160.out; have hnc32 := NB160_161.out; have ⟨hcz33_0, hcz33_1, hcz33_2, hfz33_0, hfz33_1, hfz33_2⟩ := z3 BK161) | ((with_reducible refine gate_builtin (b := .append) (xs := #[.tmp 48, .tmp 50]) rfl ?_); at_builtin; refine Kd.R_append (Kd.int .i64) (w0 := w) w.heap.size rfl (.tmp 48) (.tmp 50) 36 3 (.int .i64 0) 8 rfl Try.underlying36 info3 rfl (by decide) (by omega) u162000 x162000_2 t164 [.int .i64 t164] (fun _ => True) (fun _ => False) rfl rfl ?aP (fun _ hk => hk.elim) ?aF ?aO ?aB ?aS ?aL ?_; (case aP => exact rfl); (case aB => exact (pH HB)); (case aF => exact (fun _ _ => trivial)); (case aO => exact (pR HO_162000)); (case aS => exact (below_size (pH HB))); (case aL => have := LMc31.out; omega); intro v169 w34 ho hb hg hat; rw [← Ny168.out] at ho; replace BK160 := AM (blk_grown (g := gb160) (o := .cells #[.slice none 0 0, .int .i64 x161001_2, .slice none 0 0] 43 (0, 0)) (pB BK160) hg (Kd.R_ne HO_162000.out BK160.out (by decide))); replace BK161 := AM (blk_grown (g := gb161) (o := .cells #[u162000, .int .i64 t163, .slice none 0 0] 43 (0, 0)) (pB BK161) hg (Kd.R_ne HO_162000.out BK161.out (by decide))); replace HB := AM (hb); have HO170 := AM (ho); clear HO_162000; clear ho hb hg hat; obtain ⟨Ao35, co35, eo35⟩ := Kd.R_slice HO170.out; subst eo35; have ⟨hcz36_0, hcz36_1, hcz36_2, hfz36_0, hfz36_1, hfz36_2⟩ := z3 BK161))
       go_roundg k2
       case measure => have := HJ3.out; have := HK2.out; omega
       case rel => exact ⟨(wrap64 (x6_2 + 1)), (x161001_2), (y168), (.slice Ao35 y168.length co35), (by first | rfl | (simp; done) | (simp [*]; done)), H', ⟨by have := HJ3.out; have := HK2.out; omega⟩, ⟨by (with_reducible repeat (first | apply Kd.R_alloc | apply Kd.R_drewN | apply Kd.R_drew)); exact Kd.R_mono (Kd.R_far (p := ⟨gb161, 0, none⟩) (Kd.R_types HO170.out BK161.out (by decide)) (fun _ hk => hk.2) (.slice Ao35 y168.length co35)) (fun _ hk => trivial)⟩, ⟨by refine sB ?_; refine blk_far ?_ NB160_161.out _; refine sB ?_; exact BK160.out⟩, ⟨by refine sB ?_; refine blk_put (cs := #[u162000, .int .i64 t163, .slice none 0 0]) ?_ 0 _ rfl; refine sB ?_; exact BK161.out⟩, ⟨pH HB⟩⟩
     rw [if_neg c19] at H
     have c19b0 : decide (x6_2 < t162) = false := decide_eq_false c19
     clear c19
     have H' := AM H
     clear H
     go_wp2
     go_loopg [8] k2 (fun kq v8 w' => ∃ (x8_3 : Int) (x161001_3 : Int) (x162002_3 : List Bool) (u162002 : Value), v8 = .int .i64 x8_3 ∧ Aside0 (spec_DecodePicture.l1 kq l0 t162 x8_3 x162000_2 t163 x162002_3 = some (r1, r2, r3, r4)) ∧ Aside0 (kq ≤ k2) ∧ Aside0 (Kd.R (Kd.int .i64) 3 w' w.heap.size (fun _ => True) u162000 x162000_2) ∧ Aside0 (Kd.R Kd.bool 4 w' w.heap.size (fun _ => True) u162002 x162002_3) ∧ Aside0 (w'.heap[gb160]? = some (.cells #[(.slice none 0 0), .int .i64 x161001_3, (.slice none 0 0)] 43 (0, 0))) ∧ Aside0 (w'.heap[gb161]? = some (.cells #[u162000, .int .i64 t163, u162002] 43 (0, 0))) ∧ Aside0 (Below w.heap.size w w'))
     case atStart => exact ⟨(0), (x161001_2), (([] : List Bool)), (.slice none 0 0), (by first | rfl | (simp; done) | (simp [*]; done)), H', ⟨Nat.le_refl _⟩, ⟨by (with_reducible repeat (first | apply Kd.R_alloc | apply Kd.R_drewN | apply Kd.R_drew)); exact HO_162000.out⟩, ⟨by first | exact Kd.R_nil _ _ _ _ _ | exact Kd.N_nil _ _ _ _ _ | exact Kd.V_nil _ _ _ _ _ | exact Kd.Q_nil _ _ _ _ _ | exact Kd.S_nil _ _ _ _ _⟩, ⟨by refine sB ?_; exact BK160.out⟩, ⟨by refine sB ?_; exact BK161.out⟩, ⟨pH HB⟩⟩
     case round =>
      clear H'
      try clear c1
      try clear c2
      try clear p2
      try clear c3
      try clear p6
      try clear c7
      try clear c8
      try clear c9
      try clear c9b0
      try clear c10
      try clear c10b0
      try clear c11
      try clear c11b0
      try clear c12
      try clear c14
      try clear c16
      try clear c17
      try clear c19
      try clear c19b0
      try clear c21
      try clear c21b0
      try clear c21b1
      try clear c22
      try clear c23
      try clear c28
      try clear c28b0
      try clear c29
      try clear c31
      try clear c32
      try clear c33
      try clear hcz13_0
      try clear hcz13_1
      try clear hcz13_2
      try clear hcz15_0
      try clear hcz15_1
      try clear hcz15_2
      try clear hcz18_0
      try clear hcz18_1
      try clear hcz18_2
      try clear hcz24_0
      try clear hcz24_1
      try clear hcz24_2
      try clear hcz27_0
      try clear hcz27_1
      try clear hcz27_2
      try clear hcz30_0
      try clear hcz30_1
      try clear hcz30_2
      try clear hcz33_0
      try clear hcz33_1
      try clear hcz33_2
      try clear hcz36_0
      try clear hcz36_1
      try clear hcz36_2
      try clear hcz8_0
      try clear hcz8_1
      try clear hcz8_2
      try clear hfz13_0
      try clear hfz13_1
      try clear hfz13_2
      try clear hfz15_0
      try clear hfz15_1
      try clear hfz15_2
      try clear hfz18_0
      try clear hfz18_1
      try clear hfz18_2
      try clear hfz24_0
      try clear hfz24_1
      try clear hfz24_2
      try clear hfz27_0
      try clear hfz27_1
      try clear hfz27_2
      try clear hfz30_0
      try clear hfz30_1
      try clear hfz30_2
      try clear hfz33_0
      try clear hfz33_1
      try clear hfz33_2
      try clear hfz36_0
      try clear hfz36_1
      try clear hfz36_2
      try clear hfz8_0
      try clear hfz8_1
      try clear hfz8_2
      try clear p2
      obtain ⟨x8_3, x161001_3, x162002_3, u162002, rfl, HA, HK3, HO_162000, HO_162002, BK160, BK161, HB⟩ := hrel
      cases gk with
      | zero => exact absurd HA.out (by simp [spec_DecodePicture.l1])
      | succ k3 =>
       have H := HA.out; clear HA
       simp only [spec_DecodePicture.l1] at H
       by_cases c37 : x8_3 < (wrap64 (t162 * t163))
       · rw [if_pos c37] at H
         have c37b0 : decide (x8_3 < (wrap64 (t162 * t163))) = true := decide_eq_true c37
         clear c37
         replace H := Option.bind_eq_some_iff.mp H
         obtain ⟨t171, A380, H⟩ := H
         (try dsimp only at H)
         have A38 := AM A380; clear A380
         by_cases c39 : t171 < 0
         · rw [if_pos c39] at H
           have c39b0 : decide (t171 < 0) = true := decide_eq_true c39
           clear c39
           simp only [Option.some.injEq, Prod.mk.injEq] at H
           obtain ⟨rfl, rfl, rfl, rfl⟩ := H
           have hnb40 := NB161_160.out; have hnc40 := NB160_161.out
           have hcz41_0 : wr.cell? ⟨gb161, 0, none⟩ = some (u162000) := (blk_cell BK161.out 0).trans rfl
           have hcz41_1 : wr.cell? ⟨gb161, 1, none⟩ = some (.int .i64 t163) := (blk_cell BK161.out 1).trans rfl
           have hcz41_2 : wr.cell? ⟨gb161, 2, none⟩ = some (u162002) := (blk_cell BK161.out 2).trans rfl
           have hfz41_0 := blk_frozen BK161.out 0; have hfz41_1 := blk_frozen BK161.out 1; have hfz41_2 := blk_frozen BK161.out 2
           go_wp2_with (first | ((with_reducible refine gate_callee (f := 81) rfl ?_); refine goesL_ (some 68) rfl rfl Try.func81 (by kernel_rfl) rfl #[.slice A0 l0.length c0, .int .i64 (wrap64 ((wrap64 (7 + (wrap64 (4 * t162)))) + (wrap64 (Int.tdiv x8_3 8)))), .int .i64 1] rfl (by (try simp only [List.map_toArray, List.map_cons, List.map_nil]); first | done | rfl | (simp only [List.length_drop, List.length_take]; rfl)) ?_; (with_reducible refine (spec_l6number.calls k3 _ _ l0 (wrap64 ((wrap64 (7 + (wrap64 (4 * t162)))) + (wrap64 (Int.tdiv x8_3 8)))) 1 t171 _ ?side1 ?side2 A38.out).mono ?_); (case side1 => exact cB HR0 HB); (case side2 => exact HC0.out); rintro e w' ⟨rfl, ⟨nd, rfl⟩⟩; refine ⟨_, rfl, ?_⟩; (try (rw [drewN_self wr]; generalize hq_ : World.drewN wr _ = wr; have n0_ : Aside0 (Kd.R (Kd.int .i64) 3 wr w.heap.size (fun _ => True) u162000 x162000_2) := ⟨by rw [← hq_]; exact (pR HO_162000)⟩; have n1_ : Aside0 (Kd.R Kd.bool 4 wr w.heap.size (fun _ => True) u162002 x162002_3) := ⟨by rw [← hq_]; exact (pR HO_162002)⟩; have n2_ : Aside0 (wr.heap[gb160]? = some (.cells #[.slice none 0 0, .int .i64 x161001_3, .slice none 0 0] 43 (0, 0))) := ⟨by rw [← hq_]; exact (pB BK160)⟩; have n3_ : Aside0 (wr.heap[gb161]? = some (.cells #[u162000, .int .i64 t163, u162002] 43 (0, 0))) := ⟨by rw [← hq_]; exact (pB BK161)⟩; have n4_ : Aside0 (Below w.heap.size w wr) := ⟨by rw [← hq_]; exact (pH HB)⟩; clear HO_162000 HO_162002 BK160 BK161 HB hq_; have HO_162000 := n0_; have HO_162002 := n1_; have BK160 := n2_; have BK161 := n3_; have HB := n4_; clear n0_ n1_ n2_ n3_ n4_)); have ⟨hcy6_160_0, hcy6_160_1, hcy6_160_2, hfy6_160_0, hfy6_160_1, hfy6_160_2⟩ := z3 BK160; have ⟨hcy6_161_0, hcy6_161_1, hcy6_161_2, hfy6_161_0, hfy6_161_1, hfy6_161_2⟩ := z3 BK161; have ⟨hcz42_0, hcz42_1, hcz42_2, hfz42_0, hfz42_1, hfz42_2⟩ := z3 BK160))
           refine bodyPost_ret (results_ct rfl _ _ gb160 43 #[.slice none 0 0, .int .i64 0, .slice none 0 0] (0, 0) _ rfl (by refine sB ?_; refine blk_put (cs := #[.slice none 0 0, .int .i64 0, .slice none 0 0]) ?_ 2 _ rfl; refine sB ?_; refine blk_put (cs := #[.slice none 0 0, .int .i64 x161001_3, .slice none 0 0]) ?_ 1 _ rfl; refine sB ?_; refine blk_put (cs := #[.slice none 0 0, .int .i64 x161001_3, .slice none 0 0]) ?_ 0 _ rfl; refine sB ?_; exact BK160.out) Try.underlying43 rfl (by kernel_rfl)) rfl ?_
           exact ⟨_, _, by first | rfl | (simp [errW_none, errW_some] <;> rfl) | (simp [*, errW_none, errW_some] <;> rfl), by first | exact Kd.R_nil _ _ _ _ _ | exact Kd.N_nil _ _ _ _ _ | exact Kd.V_nil _ _ _ _ _ | exact Kd.Q_nil _ _ _ _ _ | exact Kd.S_nil _ _ _ _ _, by first | exact Kd.R_nil _ _ _ _ _ | exact Kd.N_nil _ _ _ _ _ | exact Kd.V_nil _ _ _ _ _ | exact Kd.Q_nil _ _ _ _ _ | exact Kd.S_nil _ _ _ _ _, pH HB⟩
         rw [if_neg c39] at H
         have c39b0 : decide (t171 < 0) = false := decide_eq_false c39
         clear c39
         obtain ⟨ji43, hji43⟩ : ∃ j_ : Int, (IntKind.u64.wrap (Int.tmod x8_3 8)) = j_ := ⟨_, rfl⟩
         replace H : (if 0 ≤ (ji43) then (if x162002_3.length < 140737488355328 then (spec_DecodePicture.l1 k3 l0 t162 (wrap64 (x8_3 + 1)) x162000_2 t163 (x162002_3 ++ [((Int.tmod (shr .i64 t171 (ji43)) 2) == 1)])) else (none)) else (none)) = some (r1, r2, r3, r4) := by first | (rw [hji43] at H; exact H) | (simp only [hji43] at H ⊢; exact H)
         (try rw [hji43] at A38)
         by_cases c44 : 0 ≤ (ji43)
         rotate_left
         · rw [if_neg c44] at H
           exact absurd H (by simp)
         rw [if_pos c44] at H
         have c44b0 := eq_true c44
         have c44b1 : decide (0 ≤ (ji43)) = true := decide_eq_true c44
         clear c44
         obtain ⟨ji45, hji45⟩ : ∃ j_ : Int, (shr .i64 t171 (ji43)) = j_ := ⟨_, rfl⟩
         replace H : (if x162002_3.length < 140737488355328 then (spec_DecodePicture.l1 k3 l0 t162 (wrap64 (x8_3 + 1)) x162000_2 t163 (x162002_3 ++ [((Int.tmod (ji45) 2) == 1)])) else (none)) = some (r1, r2, r3, r4) := by first | (rw [hji45] at H; exact H) | (simp only [hji45] at H ⊢; exact H)
         (try rw [hji45] at A38)
         have hji45_ : (t171 / 2 ^ min (ji43).toNat 64) = ji45 := hji45
         have hji45z : (ji43) ≤ 64 → (t171 / 2 ^ (ji43).toNat) = ji45 := shr_small hji45
         by_cases c46 : x162002_3.length < 140737488355328
         rotate_left
         · rw [if_neg c46] at H
           exact absurd H (by simp)
         rw [if_pos c46] at H
         have LMc46 := AM c46; clear c46
         obtain ⟨y172, hy172⟩ : ∃ y_ : List Bool, y_ = (x162002_3 ++ [((Int.tmod (ji45) 2) == 1)]) := ⟨_, rfl⟩
         replace H : (spec_DecodePicture.l1 k3 l0 t162 (wrap64 (x8_3 + 1)) x162000_2 t163 y172) = some (r1, r2, r3, r4) := by first | (rw [hy172]; with_reducible exact H) | (have H2_ := (Option.bind_some _ _).symm.trans H; rw [hy172]; with_reducible exact H2_) | (have H2_ := (Option.bind_some _ _).symm.trans H; with_reducible exact H2_) | with_reducible exact H | (rw [hy172]; exact H) | exact H
         have Ny172 := AM hy172; clear hy172
         have H' := AM H
         clear H; have hnb47 := NB161_160.out; have hnc47 := NB160_161.out
         have hcz48_0 : wr.cell? ⟨gb161, 0, none⟩ = some (u162000) := (blk_cell BK161.out 0).trans rfl
         have hcz48_1 : wr.cell? ⟨gb161, 1, none⟩ = some (.int .i64 t163) := (blk_cell BK161.out 1).trans rfl
         have hcz48_2 : wr.cell? ⟨gb161, 2, none⟩ = some (u162002) := (blk_cell BK161.out 2).trans rfl
         have hfz48_0 := blk_frozen BK161.out 0; have hfz48_1 := blk_frozen BK161.out 1; have hfz48_2 := blk_frozen BK161.out 2
         go_wp2_with (first | ((with_reducible refine gate_callee (f := 81) rfl ?_); refine goesL_ (some 68) rfl rfl Try.func81 (by kernel_rfl) rfl #[.slice A0 l0.length c0, .int .i64 (wrap64 ((wrap64 (7 + (wrap64 (4 * t162)))) + (wrap64 (Int.tdiv x8_3 8)))), .int .i64 1] rfl (by (try simp only [List.map_toArray, List.map_cons, List.map_nil]); first | done | rfl | (simp only [List.length_drop, List.length_take]; rfl)) ?_; (with_reducible refine (spec_l6number.calls k3 _ _ l0 (wrap64 ((wrap64 (7 + (wrap64 (4 * t162)))) + (wrap64 (Int.tdiv x8_3 8)))) 1 t171 _ ?side1 ?side2 A38.out).mono ?_); (case side1 => exact cB HR0 HB); (case side2 => exact HC0.out); rintro e w' ⟨rfl, ⟨nd, rfl⟩⟩; refine ⟨_, rfl, ?_⟩; (try (rw [drewN_self wr]; generalize hq_ : World.drewN wr _ = wr; have n0_ : Aside0 (Kd.R (Kd.int .i64) 3 wr w.heap.size (fun _ => True) u162000 x162000_2) := ⟨by rw [← hq_]; exact (pR HO_162000)⟩; have n1_ : Aside0 (Kd.R Kd.bool 4 wr w.heap.size (fun _ => True) u162002 x162002_3) := ⟨by rw [← hq_]; exact (pR HO_162002)⟩; have n2_ : Aside0 (wr.heap[gb160]? = some (.cells #[.slice none 0 0, .int .i64 x161001_3, .slice none 0 0] 43 (0, 0))) := ⟨by rw [← hq_]; exact (pB BK160)⟩; have n3_ : Aside0 (wr.heap[gb161]? = some (.cells #[u162000, .int .i64 t163, u162002] 43 (0, 0))) := ⟨by rw [← hq_]; exact (pB BK161)⟩; have n4_ : Aside0 (Below w.heap.size w wr) := ⟨by rw [← hq_]; exact (pH HB)⟩; clear HO_162000 HO_162002 BK160 BK161 HB hq_; have HO_162000 := n0_; have HO_162002 := n1_; have BK160 := n2_; have BK161 := n3_; have HB := n4_; clear n0_ n1_ n2_ n3_ n4_)); have ⟨hcy7_160_0, hcy7_160_1, hcy7_160_2, hfy7_160_0, hfy7_160_1, hfy7_160_2⟩ := z3 BK160; have ⟨hcy7_161_0, hcy7_161_1, hcy7_161_2, hfy7_161_0, hfy7_161_1, hfy7_161_2⟩ := z3 BK161) | ((with_reducible refine gate_builtin (b := .append) (xs := #[.tmp 73, .tmp 81]) rfl ?_); at_builtin; refine Kd.R_append Kd.bool (w0 := w) w.heap.size rfl (.tmp 73) (.tmp 81) 37 4 (.bool false) 1 rfl Try.underlying37 info4 rfl (by decide) (by omega) u162002 x162002_3 ((Int.tmod (ji45) 2) == 1) [.bool ((Int.tmod (ji45) 2) == 1)] (fun _ => True) (fun _ => False) rfl rfl ?aP (fun _ hk => hk.elim) ?aF ?aO ?aB ?aS ?aL ?_; (case aP => exact rfl); (case aB => exact (pH HB)); (case aF => exact (fun _ _ => trivial)); (case aO => exact (pR HO_162002)); (case aS => exact (below_size (pH HB))); (case aL => have := LMc46.out; omega); intro v173 w49 ho hb hg hat; rw [← Ny172.out] at ho; replace HO_162000 := AM (Kd.R_over' (pR HO_162000) (Kd.R_typed (pR HO_162002)) (by decide) hg); replace BK160 := AM (blk_grown (g := gb160) (o := .cells #[.slice none 0 0, .int .i64 x161001_3, .slice none 0 0] 43 (0, 0)) (pB BK160) hg (Kd.R_ne HO_162002.out BK160.out (by decide))); replace BK161 := AM (blk_grown (g := gb161) (o := .cells #[u162000, .int .i64 t163, u162002] 43 (0, 0)) (pB BK161) hg (Kd.R_ne HO_162002.out BK161.out (by decide))); replace HB := AM (hb); have HO174 := AM (ho); clear HO_162002; clear ho hb hg hat; obtain ⟨Ao50, co50, eo50⟩ := Kd.R_slice HO174.out; subst eo50; have ⟨hcz51_0, hcz51_1, hcz51_2, hfz51_0, hfz51_1, hfz51_2⟩ := z3 BK161))
         go_roundg k3
         case measure => have := HJ3.out; have := HK2.out; have := HK3.out; omega
         case rel => exact ⟨(wrap64 (x8_3 + 1)), (x161001_3), (y172), (.slice Ao50 y172.length co50), (by first | rfl | (simp; done) | (simp [*]; done)), H', ⟨by have := HJ3.out; have := HK2.out; have := HK3.out; omega⟩, ⟨by (with_reducible repeat (first | apply Kd.R_alloc | apply Kd.R_drewN | apply Kd.R_drew)); exact Kd.R_mono (Kd.R_far (p := ⟨gb161, 2, none⟩) (Kd.R_types HO_162000.out BK161.out (by decide)) (fun _ hk => hk.2) (.slice Ao50 y172.length co50)) (fun _ hk => trivial)⟩, ⟨by (with_reducible repeat (first | apply Kd.R_alloc | apply Kd.R_drewN | apply Kd.R_drew)); exact Kd.R_mono (Kd.R_far (p := ⟨gb161, 2, none⟩) (Kd.R_types HO174.out BK161.out (by decide)) (fun _ hk => hk.2) (.slice Ao50 y172.length co50)) (fun _ hk => trivial)⟩, ⟨by refine sB ?_; refine blk_far ?_ NB160_161.out _; refine sB ?_; exact BK160.out⟩, ⟨by refine sB ?_; refine blk_put (cs := #[u162000, .int .i64 t163, u162002]) ?_ 2 _ rfl; refine sB ?_; exact BK161.out⟩, ⟨pH HB⟩⟩
       rw [if_neg c37] at H
       have c37b0 : decide (x8_3 < (wrap64 (t162 * t163))) = false := decide_eq_false c37
       clear c37
       replace H := Option.bind_eq_some_iff.mp H
       obtain ⟨t175, A520, H⟩ := H
       (try dsimp only at H)
       have A52 := AM A520; clear A520
       by_cases c53 : t175 = true
       rotate_left
       · replace c53 := Bool.eq_false_iff.mpr c53
         subst c53
         have H1 : (some (([] : List Int), 0, ([] : List Bool), 1)) = some (r1, r2, r3, r4) := by rw [if_neg (show ¬ (false = true) by decide)] at H; exact H
         clear H; have H := H1; clear H1
         simp only [Option.some.injEq, Prod.mk.injEq] at H
         obtain ⟨rfl, rfl, rfl, rfl⟩ := H
         have hnb79 := NB161_160.out; have hnc79 := NB160_161.out
         have hcz80_0 : wr.cell? ⟨gb161, 0, none⟩ = some (u162000) := (blk_cell BK161.out 0).trans rfl
         have hcz80_1 : wr.cell? ⟨gb161, 1, none⟩ = some (.int .i64 t163) := (blk_cell BK161.out 1).trans rfl
         have hcz80_2 : wr.cell? ⟨gb161, 2, none⟩ = some (u162002) := (blk_cell BK161.out 2).trans rfl
         have hfz80_0 := blk_frozen BK161.out 0; have hfz80_1 := blk_frozen BK161.out 1; have hfz80_2 := blk_frozen BK161.out 2
         try go_wp2
         replace HO_162000 := AM (Kd.R_drew HO_162000.out); replace HO_162002 := AM (Kd.R_drew HO_162002.out); replace BK160 := AM (blk_drew BK160.out); replace BK161 := AM (blk_drew BK161.out); replace HB := AM (below_drew1 HB.out)
         obtain ⟨Ao82, co82, eo82⟩ := Kd.R_slice HO_162000.out
         (first | subst eo82 | (injection eo82 with f1_ f2_ f3_; have f4_ := f1_.symm; have f5_ := f3_.symm; clear f1_ f2_ f3_; subst f4_; subst f5_))
         obtain ⟨Ao83, co83, eo83⟩ := Kd.R_slice HO_162002.out
         (first | subst eo83 | (injection eo83 with f1_ f2_ f3_; have f4_ := f1_.symm; have f5_ := f3_.symm; clear f1_ f2_ f3_; subst f4_; subst f5_))
         refine start_ (n := 11) (S := fun w' => w'.cell? ⟨gb161, 0, none⟩ = some (.slice Ao82 x162000_2.length co82) ∧ w'.cell? ⟨gb161, 1, none⟩ = some (.int .i64 t163) ∧ w'.cell? ⟨gb161, 2, none⟩ = some (.slice Ao83 x162002_3.length co83)) (ds := []) #[false, false, false, false, false, false, false, false, false, false, false] (by kernel_rfl) rfl rfl ⟨(blk_cell BK161.out 0).trans rfl, (blk_cell BK161.out 1).trans rfl, (blk_cell BK161.out 2).trans rfl⟩ (fun hHeld => ?_); refine with_tabW spec_DecodePicture.tab22 spec_DecodePicture.bits22 (fun HT_ HW_ => ?_)
         generalize wr.drew = w81 at HO_162000 HO_162002 BK160 BK161 HB hHeld ⊢
         refine take_ (i := 0) (N := some 84) (v := ?_) (a' := ?_) #[true, false, false, false, false, false, false, false, false, false, false] rfl rfl (take_ofW HT_.out HW_.out (by kernel_rfl)) (fun _ _ _ h => h) (Or.inl ⟨by rfl, ?_⟩) hHeld ?_ ?_
         rotate_left
         · rintro w' ⟨s0, s1, s2⟩
           go_simp
           with_reducible rfl
         rotate_left
         · simp only [Act.put, sa, sb, sc, i64_w, i32_w]
           rfl
         refine one_ (i := 1) (N := some 85) #[true, true, false, false, false, false, false, false, false, false, false] rfl rfl (one_of HT_.out (by kernel_rfl)) (by decide) (fun K hK => ?_)
         refine goes_ Try.func66 (by kernel_rfl) rfl #[.agg #[.slice Ao82 x162000_2.length co82, .int .i64 t163, .slice Ao83 x162002_3.length co83]] (by rfl) rfl rfl (by (try simp only [List.map_toArray, List.map_cons, List.map_nil]); first | done | rfl | (simp only [List.length_drop, List.length_take]; rfl)) ?_
         with_reducible refine (spec_l6validPicture.calls k3 _ _ x162000_2 t163 _ _ x162002_3 false _ ?side1 ?side2 ?side3 ?side4 A52.out).mono ?_
         (case side1 => exact cR HO_162000)
         (case side2 => exact (Kd.R_reads' HO_162000.out).2.1)
         (case side3 => exact cR HO_162002)
         (case side4 => exact (Kd.R_reads' HO_162002.out).2.1)
         rintro e w84 ⟨rfl, hb⟩
         refine ⟨_, rfl, ?_⟩
         replace HO_162000 := AM (Kd.R_below (pR HO_162000) hb); replace HO_162002 := AM (Kd.R_below (pR HO_162002) hb); replace BK160 := bB BK160 hb; replace BK161 := bB BK161 hb; replace HB := AM (below_step (pH HB) hb)
         (try clear hb)
         (try clear hb2)
         (try clear hk)
         (try clear hi)
         refine hK.out _ _ ⟨(blk_cell BK161.out 0).trans rfl, (blk_cell BK161.out 1).trans rfl, (blk_cell BK161.out 2).trans rfl⟩ (fun hHeld => ?_)
         clear hK K
         refine norm_ (a' := ?_) ?_ ?_
         rotate_left
         · show Act.put _ (some 85) _ = _
           simp only [Act.put, sa, sb, sc, i64_w, i32_w]
           rfl
         refine pure_ (i := 2) (N := some 86) (v := ?_) (a' := ?_) #[true, true, true, false, false, false, false, false, false, false, false] rfl rfl (any_of HT_.out (by kernel_rfl)) (fun _ _ _ h => h) (Or.inl ⟨by rfl, ?_⟩) ?_ ?_
         rotate_left
         · intro w'
           go_simp
           with_reducible rfl
         rotate_left
         · simp only [Act.put, sa, sb, sc, i64_w, i32_w]
           rfl
         refine pure_ (i := 3) (N := some 87) (v := ?_) (a' := ?_) #[true, true, true, true, false, false, false, false, false, false, false] rfl rfl (any_of HT_.out (by kernel_rfl)) (fun _ _ _ h => h) (Or.inl ⟨by rfl, ?_⟩) ?_ ?_
         rotate_left
         · intro w'
           go_simp
           with_reducible rfl
         rotate_left
         · simp only [Act.put, sa, sb, sc, i64_w, i32_w]
           rfl
         refine pure_ (i := 4) (N := some 88) (v := undef) (a' := ?_) #[true, true, true, true, true, false, false, false, false, false, false] rfl rfl (any_of HT_.out (by kernel_rfl)) (fun _ _ _ h => h) (Or.inr ⟨by rfl, rfl⟩) ?_ ?_
         rotate_left
         · simp only [Act.put, sa, sb, sc, i64_w, i32_w]
           rfl
         refine pure_ (i := 5) (N := some 89) (v := undef) (a' := ?_) #[true, true, true, true, true, true, false, false, false, false, false] rfl rfl (any_of HT_.out (by kernel_rfl)) (fun _ _ _ h => h) (Or.inr ⟨by rfl, rfl⟩) ?_ ?_
         rotate_left
         · simp only [Act.put, sa, sb, sc, i64_w, i32_w]
           rfl
         refine pure_ (i := 6) (N := some 90) (v := undef) (a' := ?_) #[true, true, true, true, true, true, true, false, false, false, false] rfl rfl (any_of HT_.out (by kernel_rfl)) (fun _ _ _ h => h) (Or.inr ⟨by rfl, rfl⟩) ?_ ?_
         rotate_left
         · simp only [Act.put, sa, sb, sc, i64_w, i32_w]
           rfl
         refine pure_ (i := 7) (N := some 91) (v := undef) (a' := ?_) #[true, true, true, true, true, true, true, true, false, false, false] rfl rfl (any_of HT_.out (by kernel_rfl)) (fun _ _ _ h => h) (Or.inr ⟨by rfl, rfl⟩) ?_ ?_
         rotate_left
         · simp only [Act.put, sa, sb, sc, i64_w, i32_w]
           rfl
         refine pure_ (i := 8) (N := some 92) (v := undef) (a' := ?_) #[true, true, true, true, true, true, true, true, true, false, false] rfl rfl (any_of HT_.out (by kernel_rfl)) (fun _ _ _ h => h) (Or.inr ⟨by rfl, rfl⟩) ?_ ?_
         rotate_left
         · simp only [Act.put, sa, sb, sc, i64_w, i32_w]
           rfl
         refine pure_ (i := 9) (N := some 93) (v := undef) (a' := ?_) #[true, true, true, true, true, true, true, true, true, true, false] rfl rfl (any_of HT_.out (by kernel_rfl)) (fun _ _ _ h => h) (Or.inr ⟨by rfl, rfl⟩) ?_ ?_
         rotate_left
         · simp only [Act.put, sa, sb, sc, i64_w, i32_w]
           rfl
         refine pure_ (i := 10) (N := some 94) (v := ?_) (a' := ?_) #[true, true, true, true, true, true, true, true, true, true, true] rfl rfl (any_of HT_.out (by kernel_rfl)) (fun _ _ _ h => h) (Or.inl ⟨by rfl, ?_⟩) ?_ ?_
         rotate_left
         · intro w'
           go_simp
           with_reducible rfl
         rotate_left
         · simp only [Act.put, sa, sb, sc, i64_w, i32_w]
           rfl
         refine done_ (done_of HT_.out (by kernel_rfl)) ?_
         have hcz85_0 : w84.cell? ⟨gb160, 0, none⟩ = some (.slice none 0 0) := (blk_cell BK160.out 0).trans rfl
         have hcz85_1 : w84.cell? ⟨gb160, 1, none⟩ = some (.int .i64 x161001_3) := (blk_cell BK160.out 1).trans rfl
         have hcz85_2 : w84.cell? ⟨gb160, 2, none⟩ = some (.slice none 0 0) := (blk_cell BK160.out 2).trans rfl
         have hfz85_0 := blk_frozen BK160.out 0; have hfz85_1 := blk_frozen BK160.out 1; have hfz85_2 := blk_frozen BK160.out 2
         try go_wp2
         refine bodyPost_ret (results_ct rfl _ _ gb160 43 #[.slice none 0 0, .int .i64 0, .slice none 0 0] (0, 0) _ rfl (by refine sB ?_; refine blk_put (cs := #[.slice none 0 0, .int .i64 0, .slice none 0 0]) ?_ 2 _ rfl; refine sB ?_; refine blk_put (cs := #[.slice none 0 0, .int .i64 x161001_3, .slice none 0 0]) ?_ 1 _ rfl; refine sB ?_; refine blk_put (cs := #[.slice none 0 0, .int .i64 x161001_3, .slice none 0 0]) ?_ 0 _ rfl; refine sB ?_; exact BK160.out) Try.underlying43 rfl (by kernel_rfl)) rfl ?_
         exact ⟨_, _, by first | rfl | (simp [errW_none, errW_some] <;> rfl) | (simp [*, errW_none, errW_some] <;> rfl), by first | exact Kd.R_nil _ _ _ _ _ | exact Kd.N_nil _ _ _ _ _ | exact Kd.V_nil _ _ _ _ _ | exact Kd.Q_nil _ _ _ _ _ | exact Kd.S_nil _ _ _ _ _, by first | exact Kd.R_nil _ _ _ _ _ | exact Kd.N_nil _ _ _ _ _ | exact Kd.V_nil _ _ _ _ _ | exact Kd.Q_nil _ _ _ _ _ | exact Kd.S_nil _ _ _ _ _, pH HB⟩

       subst c53
       have H1 : ((spec_l6picture.f k3 x162000_2 t163 x162002_3).bind fun t176 => (if (strOfNums t176).toList = (strOfNums l0).toList then (some (x162000_2, t163, x162002_3, 0)) else (some (([] : List Int), 0, ([] : List Bool), 1)))) = some (r1, r2, r3, r4) := by rw [if_pos rfl] at H; exact H
       clear H; have H := H1; clear H1
       replace H := Option.bind_eq_some_iff.mp H
       obtain ⟨t176, A540, H⟩ := H
       (try dsimp only at H)
       have A54 := AM A540; clear A540
       by_cases c55 : (strOfNums t176).toList = (strOfNums l0).toList
       rotate_left
       · rw [if_neg c55] at H
         have c55b0 : ((strOfNums t176).toList == (strOfNums l0).toList) = false := beq_eq_false_iff_ne.mpr c55
         have c55b1 : ((strOfNums t176).toList != (strOfNums l0).toList) = true := bne_iff_ne.mpr c55
         simp only [Option.some.injEq, Prod.mk.injEq] at H
         obtain ⟨rfl, rfl, rfl, rfl⟩ := H
         have hnb68 := NB161_160.out; have hnc68 := NB160_161.out
         have hcz69_0 : wr.cell? ⟨gb161, 0, none⟩ = some (u162000) := (blk_cell BK161.out 0).trans rfl
         have hcz69_1 : wr.cell? ⟨gb161, 1, none⟩ = some (.int .i64 t163) := (blk_cell BK161.out 1).trans rfl
         have hcz69_2 : wr.cell? ⟨gb161, 2, none⟩ = some (u162002) := (blk_cell BK161.out 2).trans rfl
         have hfz69_0 := blk_frozen BK161.out 0; have hfz69_1 := blk_frozen BK161.out 1; have hfz69_2 := blk_frozen BK161.out 2
         obtain ⟨Ao70, co70, eo70⟩ := Kd.R_slice HO_162000.out
         subst eo70
         obtain ⟨Ao71, co71, eo71⟩ := Kd.R_slice HO_162002.out
         subst eo71
         try go_wp2
         replace HO_162000 := AM (Kd.R_drew HO_162000.out); replace HO_162002 := AM (Kd.R_drew HO_162002.out); replace BK160 := AM (blk_drew BK160.out); replace BK161 := AM (blk_drew BK161.out); replace HB := AM (below_drew1 HB.out)
         refine start_ (n := 11) (S := fun w' => Kd.C (Kd.int .u8) w' A0 l0.length l0 ∧ w'.cell? ⟨gb161, 0, none⟩ = some (.slice Ao70 x162000_2.length co70) ∧ w'.cell? ⟨gb161, 1, none⟩ = some (.int .i64 t163) ∧ w'.cell? ⟨gb161, 2, none⟩ = some (.slice Ao71 x162002_3.length co71)) (ds := []) #[false, false, false, false, false, false, false, false, false, false, false] (by kernel_rfl) rfl rfl ⟨cB HR0 HB, (blk_cell BK161.out 0).trans rfl, (blk_cell BK161.out 1).trans rfl, (blk_cell BK161.out 2).trans rfl⟩ (fun hHeld => ?_); refine with_tabW spec_DecodePicture.tab22 spec_DecodePicture.bits22 (fun HT_ HW_ => ?_)
         generalize wr.drew = w72 at HO_162000 HO_162002 BK160 BK161 HB hHeld ⊢
         refine take_ (i := 0) (N := some 84) (v := ?_) (a' := ?_) #[true, false, false, false, false, false, false, false, false, false, false] rfl rfl (take_ofW HT_.out HW_.out (by kernel_rfl)) (fun _ _ _ h => h) (Or.inl ⟨by rfl, ?_⟩) hHeld ?_ ?_
         rotate_left
         · rintro w' ⟨sC_, s0, s1, s2⟩
           go_simp
           with_reducible rfl
         rotate_left
         · simp only [Act.put, sa, sb, sc, i64_w, i32_w]
           rfl
         refine one_ (i := 1) (N := some 85) #[true, true, false, false, false, false, false, false, false, false, false] rfl rfl (one_of HT_.out (by kernel_rfl)) (by decide) (fun K hK => ?_)
         refine goes_ Try.func66 (by kernel_rfl) rfl #[.agg #[.slice Ao70 x162000_2.length co70, .int .i64 t163, .slice Ao71 x162002_3.length co71]] (by rfl) rfl rfl (by (try simp only [List.map_toArray, List.map_cons, List.map_nil]); first | done | rfl | (simp only [List.length_drop, List.length_take]; rfl)) ?_
         with_reducible refine (spec_l6validPicture.calls k3 _ _ x162000_2 t163 _ _ x162002_3 true _ ?side1 ?side2 ?side3 ?side4 A52.out).mono ?_
         (case side1 => exact cR HO_162000)
         (case side2 => exact (Kd.R_reads' HO_162000.out).2.1)
         (case side3 => exact cR HO_162002)
         (case side4 => exact (Kd.R_reads' HO_162002.out).2.1)
         rintro e w73 ⟨rfl, hb⟩
         refine ⟨_, rfl, ?_⟩
         replace HO_162000 := AM (Kd.R_below (pR HO_162000) hb); replace HO_162002 := AM (Kd.R_below (pR HO_162002) hb); replace BK160 := bB BK160 hb; replace BK161 := bB BK161 hb; replace HB := AM (below_step (pH HB) hb)
         (try clear hb)
         (try clear hb2)
         (try clear hk)
         (try clear hi)
         refine hK.out _ _ ⟨cB HR0 HB, (blk_cell BK161.out 0).trans rfl, (blk_cell BK161.out 1).trans rfl, (blk_cell BK161.out 2).trans rfl⟩ (fun hHeld => ?_)
         clear hK K
         refine norm_ (a' := ?_) ?_ ?_
         rotate_left
         · show Act.put _ (some 85) _ = _
           simp only [Act.put, sa, sb, sc, i64_w, i32_w]
           rfl
         refine pure_ (i := 2) (N := some 86) (v := ?_) (a' := ?_) #[true, true, true, false, false, false, false, false, false, false, false] rfl rfl (any_of HT_.out (by kernel_rfl)) (fun _ _ _ h => h) (Or.inl ⟨by rfl, ?_⟩) ?_ ?_
         rotate_left
         · intro w'
           go_simp
           with_reducible rfl
         rotate_left
         · simp only [Act.put, sa, sb, sc, i64_w, i32_w]
           rfl
         refine pure_ (i := 3) (N := some 87) (v := ?_) (a' := ?_) #[true, true, true, true, false, false, false, false, false, false, false] rfl rfl (any_of HT_.out (by kernel_rfl)) (fun _ _ _ h => h) (Or.inl ⟨by rfl, ?_⟩) ?_ ?_
         rotate_left
         · intro w'
           go_simp
           with_reducible rfl
         rotate_left
         · simp only [Act.put, sa, sb, sc, i64_w, i32_w]
           rfl
         refine pure_ (i := 7) (N := some 91) (v := ?_) (a' := ?_) #[true, true, true, true, false, false, false, true, false, false, false] rfl rfl (any_of HT_.out (by kernel_rfl)) (fun _ _ _ h => h) (Or.inl ⟨by rfl, ?_⟩) ?_ ?_
         rotate_left
         · intro w'
           go_simp
           with_reducible rfl
         rotate_left
         · simp only [Act.put, sa, sb, sc, i64_w, i32_w]
           rfl
         refine take_ (i := 8) (N := some 92) (v := ?_) (a' := ?_) #[true, true, true, true, false, false, false, true, true, false, false] rfl rfl (take_ofW HT_.out HW_.out (by kernel_rfl)) (fun _ _ _ h => h) (Or.inl ⟨by rfl, ?_⟩) hHeld ?_ ?_
         rotate_left
         · rintro w' ⟨sC_, -⟩
           have hcv_ := Kd.C_string (P := Try.prog) (A := A0) (c := c0) Try.underlying41 Try.underlying5 Try.underlying9 sC_
           go_simp
           with_reducible rfl
         rotate_left
         · simp only [Act.put, sa, sb, sc, i64_w, i32_w]
           rfl
         refine take_ (i := 4) (N := some 88) (v := ?_) (a' := ?_) #[true, true, true, true, true, false, false, true, true, false, false] rfl rfl (take_ofW HT_.out HW_.out (by kernel_rfl)) (fun _ _ _ h => h) (Or.inl ⟨by rfl, ?_⟩) hHeld ?_ ?_
         rotate_left
         · rintro w' ⟨sC_, s0, s1, s2⟩
           go_simp
           with_reducible rfl
         rotate_left
         · simp only [Act.put, sa, sb, sc, i64_w, i32_w]
           rfl
         refine one_ (i := 5) (N := some 89) #[true, true, true, true, true, true, false, true, true, false, false] rfl rfl (one_of HT_.out (by kernel_rfl)) (by decide) (fun K hK => ?_)
         refine goes_ Try.func67 (by kernel_rfl) rfl #[.agg #[.slice Ao70 x162000_2.length co70, .int .i64 t163, .slice Ao71 x162002_3.length co71]] (by rfl) rfl rfl (by (try simp only [List.map_toArray, List.map_cons, List.map_nil]); first | done | rfl | (simp only [List.length_drop, List.length_take]; rfl)) ?_
         with_reducible refine (spec_l6picture.calls k3 _ _ x162000_2 t163 _ _ x162002_3 t176 _ ?side1 ?side2 ?side3 ?side4 A54.out).mono ?_
         (case side1 => exact cR HO_162000)
         (case side2 => exact (Kd.R_reads' HO_162000.out).2.1)
         (case side3 => exact cR HO_162002)
         (case side4 => exact (Kd.R_reads' HO_162002.out).2.1)
         rintro e w74 ⟨v177, rfl, ho0, hb⟩
         refine ⟨_, rfl, ?_⟩
         replace HO_162000 := AM (Kd.R_below (pR HO_162000) hb); replace HO_162002 := AM (Kd.R_below (pR HO_162002) hb); have HO178 := AM (Kd.R_lower ho0 (below_size (pH HB))); replace BK160 := bB BK160 hb; replace BK161 := bB BK161 hb; replace HB := AM (below_step (pH HB) hb)
         (try clear hb)
         (try clear hb2)
         (try clear hk)
         (try clear hi)
         (try clear ho0)
         refine hK.out _ _ ⟨cB HR0 HB, (blk_cell BK161.out 0).trans rfl, (blk_cell BK161.out 1).trans rfl, (blk_cell BK161.out 2).trans rfl⟩ (fun hHeld => ?_)
         clear hK K
         refine norm_ (a' := ?_) ?_ ?_
         rotate_left
         · show Act.put _ (some 89) _ = _
           simp only [Act.put, sa, sb, sc, i64_w, i32_w]
           rfl
         refine one_ (i := 6) (N := some 90) #[true, true, true, true, true, true, true, true, true, false, false] rfl rfl (one_of HT_.out (by kernel_rfl)) (by decide) (fun K hK => ?_)
         have hcv75 := own_string (P := Try.prog) Try.underlying41 Try.underlying5 Try.underlying9 (Kd.own_of_R HO178.out)
         refine value_ (w1 := ?_) (v := ?_) (by rfl) rfl ?_ ?_
         rotate_left 2
         · go_simp
           constructor
           · rfl
           rfl
         clear hcv75
         refine hK.out _ _ ⟨cB HR0 HB, (blk_cell BK161.out 0).trans rfl, (blk_cell BK161.out 1).trans rfl, (blk_cell BK161.out 2).trans rfl⟩ (fun hHeld => ?_)
         clear hK K
         refine norm_ (a' := ?_) ?_ ?_
         rotate_left
         · show Act.put _ (some 90) _ = _
           simp only [Act.put, sa, sb, sc, i64_w, i32_w]
           rfl
         refine pure_ (i := 9) (N := some 93) (v := ?_) (a' := ?_) #[true, true, true, true, true, true, true, true, true, true, false] rfl rfl (any_of HT_.out (by kernel_rfl)) (fun _ _ _ h => h) (Or.inl ⟨by rfl, ?_⟩) ?_ ?_
         rotate_left
         · intro w'
           go_simp
           with_reducible rfl
         rotate_left
         · simp only [Act.put, sa, sb, sc, i64_w, i32_w]
           rfl
         refine pure_ (i := 10) (N := some 94) (v := ?_) (a' := ?_) #[true, true, true, true, true, true, true, true, true, true, true] rfl rfl (any_of HT_.out (by kernel_rfl)) (fun _ _ _ h => h) (Or.inl ⟨by rfl, ?_⟩) ?_ ?_
         rotate_left
         · intro w'
           go_simp
           with_reducible rfl
         rotate_left
         · simp only [Act.put, sa, sb, sc, i64_w, i32_w]
           rfl
         refine done_ (done_of HT_.out (by kernel_rfl)) ?_
         have hcz78_0 : w74.cell? ⟨gb160, 0, none⟩ = some (.slice none 0 0) := (blk_cell BK160.out 0).trans rfl
         have hcz78_1 : w74.cell? ⟨gb160, 1, none⟩ = some (.int .i64 x161001_3) := (blk_cell BK160.out 1).trans rfl
         have hcz78_2 : w74.cell? ⟨gb160, 2, none⟩ = some (.slice none 0 0) := (blk_cell BK160.out 2).trans rfl
         have hfz78_0 := blk_frozen BK160.out 0; have hfz78_1 := blk_frozen BK160.out 1; have hfz78_2 := blk_frozen BK160.out 2
         try go_wp2
         refine bodyPost_ret (results_ct rfl _ _ gb160 43 #[.slice none 0 0, .int .i64 0, .slice none 0 0] (0, 0) _ rfl (by refine sB ?_; refine blk_put (cs := #[.slice none 0 0, .int .i64 0, .slice none 0 0]) ?_ 2 _ rfl; refine sB ?_; refine blk_put (cs := #[.slice none 0 0, .int .i64 x161001_3, .slice none 0 0]) ?_ 1 _ rfl; refine sB ?_; refine blk_put (cs := #[.slice none 0 0, .int .i64 x161001_3, .slice none 0 0]) ?_ 0 _ rfl; refine sB ?_; exact BK160.out) Try.underlying43 rfl (by kernel_rfl)) rfl ?_
         exact ⟨_, _, by first | rfl | (simp [errW_none, errW_some] <;> rfl) | (simp [*, errW_none, errW_some] <;> rfl), by first | exact Kd.R_nil _ _ _ _ _ | exact Kd.N_nil _ _ _ _ _ | exact Kd.V_nil _ _ _ _ _ | exact Kd.Q_nil _ _ _ _ _ | exact Kd.S_nil _ _ _ _ _, by first | exact Kd.R_nil _ _ _ _ _ | exact Kd.N_nil _ _ _ _ _ | exact Kd.V_nil _ _ _ _ _ | exact Kd.Q_nil _ _ _ _ _ | exact Kd.S_nil _ _ _ _ _, pH HB⟩
       rw [if_pos c55] at H
       have c55b0 : ((strOfNums t176).toList == (strOfNums l0).toList) = true := beq_iff_eq.mpr c55
       have c55b1 : ((strOfNums t176).toList != (strOfNums l0).toList) = false := bne_eq_false_iff_eq.mpr c55
       clear c55
       simp only [Option.some.injEq, Prod.mk.injEq] at H
       obtain ⟨rfl, rfl, rfl, rfl⟩ := H
       have hnb56 := NB161_160.out; have hnc56 := NB160_161.out
       have hcz57_0 : wr.cell? ⟨gb161, 0, none⟩ = some (u162000) := (blk_cell BK161.out 0).trans rfl
       have hcz57_1 : wr.cell? ⟨gb161, 1, none⟩ = some (.int .i64 t163) := (blk_cell BK161.out 1).trans rfl
       have hcz57_2 : wr.cell? ⟨gb161, 2, none⟩ = some (u162002) := (blk_cell BK161.out 2).trans rfl
       have hfz57_0 := blk_frozen BK161.out 0; have hfz57_1 := blk_frozen BK161.out 1; have hfz57_2 := blk_frozen BK161.out 2
       obtain ⟨Ao58, co58, eo58⟩ := Kd.R_slice HO_162000.out
       subst eo58
       obtain ⟨Ao59, co59, eo59⟩ := Kd.R_slice HO_162002.out
       subst eo59
       try go_wp2
       replace HO_162000 := AM (Kd.R_drew HO_162000.out); replace HO_162002 := AM (Kd.R_drew HO_162002.out); replace BK160 := AM (blk_drew BK160.out); replace BK161 := AM (blk_drew BK161.out); replace HB := AM (below_drew1 HB.out)
       refine start_ (n := 11) (S := fun w' => Kd.C (Kd.int .u8) w' A0 l0.length l0 ∧ w'.cell? ⟨gb161, 0, none⟩ = some (.slice Ao58 x162000_2.length co58) ∧ w'.cell? ⟨gb161, 1, none⟩ = some (.int .i64 t163) ∧ w'.cell? ⟨gb161, 2, none⟩ = some (.slice Ao59 x162002_3.length co59)) (ds := []) #[false, false, false, false, false, false, false, false, false, false, false] (by kernel_rfl) rfl rfl ⟨cB HR0 HB, (blk_cell BK161.out 0).trans rfl, (blk_cell BK161.out 1).trans rfl, (blk_cell BK161.out 2).trans rfl⟩ (fun hHeld => ?_); refine with_tabW spec_DecodePicture.tab22 spec_DecodePicture.bits22 (fun HT_ HW_ => ?_)
       generalize wr.drew = w60 at HO_162000 HO_162002 BK160 BK161 HB hHeld ⊢
       refine take_ (i := 0) (N := some 84) (v := ?_) (a' := ?_) #[true, false, false, false, false, false, false, false, false, false, false] rfl rfl (take_ofW HT_.out HW_.out (by kernel_rfl)) (fun _ _ _ h => h) (Or.inl ⟨by rfl, ?_⟩) hHeld ?_ ?_
       rotate_left
       · rintro w' ⟨sC_, s0, s1, s2⟩
         go_simp
         with_reducible rfl
       rotate_left
       · simp only [Act.put, sa, sb, sc, i64_w, i32_w]
         rfl
       refine one_ (i := 1) (N := some 85) #[true, true, false, false, false, false, false, false, false, false, false] rfl rfl (one_of HT_.out (by kernel_rfl)) (by decide) (fun K hK => ?_)
       refine goes_ Try.func66 (by kernel_rfl) rfl #[.agg #[.slice Ao58 x162000_2.length co58, .int .i64 t163, .slice Ao59 x162002_3.length co59]] (by rfl) rfl rfl (by (try simp only [List.map_toArray, List.map_cons, List.map_nil]); first | done | rfl | (simp only [List.length_drop, List.length_take]; rfl)) ?_
       with_reducible refine (spec_l6validPicture.calls k3 _ _ x162000_2 t163 _ _ x162002_3 true _ ?side1 ?side2 ?side3 ?side4 A52.out).mono ?_
       (case side1 => exact cR HO_162000)
       (case side2 => exact (Kd.R_reads' HO_162000.out).2.1)
       (case side3 => exact cR HO_162002)
       (case side4 => exact (Kd.R_reads' HO_162002.out).2.1)
       rintro e w61 ⟨rfl, hb⟩
       refine ⟨_, rfl, ?_⟩
       replace HO_162000 := AM (Kd.R_below (pR HO_162000) hb); replace HO_162002 := AM (Kd.R_below (pR HO_162002) hb); replace BK160 := bB BK160 hb; replace BK161 := bB BK161 hb; replace HB := AM (below_step (pH HB) hb)
       (try clear hb)
       (try clear hb2)
       (try clear hk)
       (try clear hi)
       refine hK.out _ _ ⟨cB HR0 HB, (blk_cell BK161.out 0).trans rfl, (blk_cell BK161.out 1).trans rfl, (blk_cell BK161.out 2).trans rfl⟩ (fun hHeld => ?_)
       clear hK K
       refine norm_ (a' := ?_) ?_ ?_
       rotate_left
       · show Act.put _ (some 85) _ = _
         simp only [Act.put, sa, sb, sc, i64_w, i32_w]
         rfl
       refine pure_ (i := 2) (N := some 86) (v := ?_) (a' := ?_) #[true, true, true, false, false, false, false, false, false, false, false] rfl rfl (any_of HT_.out (by kernel_rfl)) (fun _ _ _ h => h) (Or.inl ⟨by rfl, ?_⟩) ?_ ?_
       rotate_left
       · intro w'
         go_simp
         with_reducible rfl
       rotate_left
       · simp only [Act.put, sa, sb, sc, i64_w, i32_w]
         rfl
       refine pure_ (i := 3) (N := some 87) (v := ?_) (a' := ?_) #[true, true, true, true, false, false, false, false, false, false, false] rfl rfl (any_of HT_.out (by kernel_rfl)) (fun _ _ _ h => h) (Or.inl ⟨by rfl, ?_⟩) ?_ ?_
       rotate_left
       · intro w'
         go_simp
         with_reducible rfl
       rotate_left
       · simp only [Act.put, sa, sb, sc, i64_w, i32_w]
         rfl
       refine pure_ (i := 7) (N := some 91) (v := ?_) (a' := ?_) #[true, true, true, true, false, false, false, true, false, false, false] rfl rfl (any_of HT_.out (by kernel_rfl)) (fun _ _ _ h => h) (Or.inl ⟨by rfl, ?_⟩) ?_ ?_
       rotate_left
       · intro w'
         go_simp
         with_reducible rfl
       rotate_left
       · simp only [Act.put, sa, sb, sc, i64_w, i32_w]
         rfl
       refine take_ (i := 8) (N := some 92) (v := ?_) (a' := ?_) #[true, true, true, true, false, false, false, true, true, false, false] rfl rfl (take_ofW HT_.out HW_.out (by kernel_rfl)) (fun _ _ _ h => h) (Or.inl ⟨by rfl, ?_⟩) hHeld ?_ ?_
       rotate_left
       · rintro w' ⟨sC_, -⟩
         have hcv_ := Kd.C_string (P := Try.prog) (A := A0) (c := c0) Try.underlying41 Try.underlying5 Try.underlying9 sC_
         go_simp
         with_reducible rfl
       rotate_left
       · simp only [Act.put, sa, sb, sc, i64_w, i32_w]
         rfl
       refine take_ (i := 4) (N := some 88) (v := ?_) (a' := ?_) #[true, true, true, true, true, false, false, true, true, false, false] rfl rfl (take_ofW HT_.out HW_.out (by kernel_rfl)) (fun _ _ _ h => h) (Or.inl ⟨by rfl, ?_⟩) hHeld ?_ ?_
       rotate_left
       · rintro w' ⟨sC_, s0, s1, s2⟩
         go_simp
         with_reducible rfl
       rotate_left
       · simp only [Act.put, sa, sb, sc, i64_w, i32_w]
         rfl
       refine one_ (i := 5) (N := some 89) #[true, true, true, true, true, true, false, true, true, false, false] rfl rfl (one_of HT_.out (by kernel_rfl)) (by decide) (fun K hK => ?_)
       refine goes_ Try.func67 (by kernel_rfl) rfl #[.agg #[.slice Ao58 x162000_2.length co58, .int .i64 t163, .slice Ao59 x162002_3.length co59]] (by rfl) rfl rfl (by (try simp only [List.map_toArray, List.map_cons, List.map_nil]); first | done | rfl | (simp only [List.length_drop, List.length_take]; rfl)) ?_
       with_reducible refine (spec_l6picture.calls k3 _ _ x162000_2 t163 _ _ x162002_3 t176 _ ?side1 ?side2 ?side3 ?side4 A54.out).mono ?_
       (case side1 => exact cR HO_162000)
       (case side2 => exact (Kd.R_reads' HO_162000.out).2.1)
       (case side3 => exact cR HO_162002)
       (case side4 => exact (Kd.R_reads' HO_162002.out).2.1)
       rintro e w62 ⟨v177, rfl, ho0, hb⟩
       refine ⟨_, rfl, ?_⟩
       replace HO_162000 := AM (Kd.R_below (pR HO_162000) hb); replace HO_162002 := AM (Kd.R_below (pR HO_162002) hb); have HO178 := AM (Kd.R_lower ho0 (below_size (pH HB))); replace BK160 := bB BK160 hb; replace BK161 := bB BK161 hb; replace HB := AM (below_step (pH HB) hb)
       (try clear hb)
       (try clear hb2)
       (try clear hk)
       (try clear hi)
       (try clear ho0)
       refine hK.out _ _ ⟨cB HR0 HB, (blk_cell BK161.out 0).trans rfl, (blk_cell BK161.out 1).trans rfl, (blk_cell BK161.out 2).trans rfl⟩ (fun hHeld => ?_)
       clear hK K
       refine norm_ (a' := ?_) ?_ ?_
       rotate_left
       · show Act.put _ (some 89) _ = _
         simp only [Act.put, sa, sb, sc, i64_w, i32_w]
         rfl
       refine one_ (i := 6) (N := some 90) #[true, true, true, true, true, true, true, true, true, false, false] rfl rfl (one_of HT_.out (by kernel_rfl)) (by decide) (fun K hK => ?_)
       have hcv63 := own_string (P := Try.prog) Try.underlying41 Try.underlying5 Try.underlying9 (Kd.own_of_R HO178.out)
       refine value_ (w1 := ?_) (v := ?_) (by rfl) rfl ?_ ?_
       rotate_left 2
       · go_simp
         constructor
         · rfl
         rfl
       clear hcv63
       refine hK.out _ _ ⟨cB HR0 HB, (blk_cell BK161.out 0).trans rfl, (blk_cell BK161.out 1).trans rfl, (blk_cell BK161.out 2).trans rfl⟩ (fun hHeld => ?_)
       clear hK K
       refine norm_ (a' := ?_) ?_ ?_
       rotate_left
       · show Act.put _ (some 90) _ = _
         simp only [Act.put, sa, sb, sc, i64_w, i32_w]
         rfl
       refine pure_ (i := 9) (N := some 93) (v := ?_) (a' := ?_) #[true, true, true, true, true, true, true, true, true, true, false] rfl rfl (any_of HT_.out (by kernel_rfl)) (fun _ _ _ h => h) (Or.inl ⟨by rfl, ?_⟩) ?_ ?_
       rotate_left
       · intro w'
         go_simp
         with_reducible rfl
       rotate_left
       · simp only [Act.put, sa, sb, sc, i64_w, i32_w]
         rfl
       refine pure_ (i := 10) (N := some 94) (v := ?_) (a' := ?_) #[true, true, true, true, true, true, true, true, true, true, true] rfl rfl (any_of HT_.out (by kernel_rfl)) (fun _ _ _ h => h) (Or.inl ⟨by rfl, ?_⟩) ?_ ?_
       rotate_left
       · intro w'
         go_simp
         with_reducible rfl
       rotate_left
       · simp only [Act.put, sa, sb, sc, i64_w, i32_w]
         rfl
       refine done_ (done_of HT_.out (by kernel_rfl)) ?_
       have hcz66_0 : w62.cell? ⟨gb161, 0, none⟩ = some (.slice Ao58 x162000_2.length co58) := (blk_cell BK161.out 0).trans rfl
       have hcz66_1 : w62.cell? ⟨gb161, 1, none⟩ = some (.int .i64 t163) := (blk_cell BK161.out 1).trans rfl
       have hcz66_2 : w62.cell? ⟨gb161, 2, none⟩ = some (.slice Ao59 x162002_3.length co59) := (blk_cell BK161.out 2).trans rfl
       have hfz66_0 := blk_frozen BK161.out 0; have hfz66_1 := blk_frozen BK161.out 1; have hfz66_2 := blk_frozen BK161.out 2
       have hcz67_0 : w62.cell? ⟨gb160, 0, none⟩ = some (.slice none 0 0) := (blk_cell BK160.out 0).trans rfl
       have hcz67_1 : w62.cell? ⟨gb160, 1, none⟩ = some (.int .i64 x161001_3) := (blk_cell BK160.out 1).trans rfl
       have hcz67_2 : w62.cell? ⟨gb160, 2, none⟩ = some (.slice none 0 0) := (blk_cell BK160.out 2).trans rfl
       have hfz67_0 := blk_frozen BK160.out 0; have hfz67_1 := blk_frozen BK160.out 1; have hfz67_2 := blk_frozen BK160.out 2
       try go_wp2
       refine bodyPost_ret (results_ct rfl _ _ gb160 43 #[.slice Ao58 x162000_2.length co58, .int .i64 t163, .slice Ao59 x162002_3.length co59] (0, 0) _ rfl (by refine sB ?_; refine blk_put (cs := #[.slice Ao58 x162000_2.length co58, .int .i64 t163, .slice none 0 0]) ?_ 2 _ rfl; refine sB ?_; refine blk_put (cs := #[.slice Ao58 x162000_2.length co58, .int .i64 x161001_3, .slice none 0 0]) ?_ 1 _ rfl; refine sB ?_; refine blk_put (cs := #[.slice none 0 0, .int .i64 x161001_3, .slice none 0 0]) ?_ 0 _ rfl; refine sB ?_; exact BK160.out) Try.underlying43 rfl (by kernel_rfl)) rfl ?_
       exact ⟨_, _, by first | rfl | (simp [errW_none, errW_some] <;> rfl) | (simp [*, errW_none, errW_some] <;> rfl), by (with_reducible repeat (first | apply Kd.R_alloc | apply Kd.R_drewN | apply Kd.R_drew)); exact Kd.R_mono (Kd.R_far (p := ⟨gb160, 2, none⟩) (Kd.R_far (p := ⟨gb160, 1, none⟩) (Kd.R_far (p := ⟨gb160, 0, none⟩) (Kd.R_types HO_162000.out BK160.out (by decide)) (fun _ hk => hk.2) (.slice Ao58 x162000_2.length co58)) (fun _ hk => hk.2) (.int .i64 t163)) (fun _ hk => hk.2) (.slice Ao59 x162002_3.length co59)) (fun _ hk => trivial), by (with_reducible repeat (first | apply Kd.R_alloc | apply Kd.R_drewN | apply Kd.R_drew)); exact Kd.R_mono (Kd.R_far (p := ⟨gb160, 2, none⟩) (Kd.R_far (p := ⟨gb160, 1, none⟩) (Kd.R_far (p := ⟨gb160, 0, none⟩) (Kd.R_types HO_162002.out BK160.out (by decide)) (fun _ hk => hk.2) (.slice Ao58 x162000_2.length co58)) (fun _ hk => hk.2) (.int .i64 t163)) (fun _ hk => hk.2) (.slice Ao59 x162002_3.length co59)) (fun _ hk => trivial), pH HB⟩
end Go.Proofs.Ytcpdeenhjodmfaa.QDecodePicture
