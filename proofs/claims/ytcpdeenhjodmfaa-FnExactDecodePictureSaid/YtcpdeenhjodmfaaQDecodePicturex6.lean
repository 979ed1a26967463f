-- Written by wip/tools/mkprint.py (my program) out of the translation, for this claim. Not trusted: Lean checks it.
import Derived.Test.YtcpdeenhjodmfaaQDecodePicturex0
import Derived.Test.YtcpdeenhjodmfaaQDecodePicturex5
namespace Go.Proofs.Ytcpdeenhjodmfaa.QDecodePicture
open Go.RowKit Go.Proofs.YtcpdeenhjodmfaaW.PrintWords Go.Proofs.YtcpdeenhjodmfaaW.PrintLast Go.Proofs.YtcpdeenhjodmfaaW.PrintMore
attribute [local go_sem] max2_int min2_int max_two min_two max_three min_three max_four min_four   -- for this text's walks alone
set_option linter.unusedVariables false
set_option linter.unusedSimpArgs false

/-! ### impl_DecodePicture: function 35 -/
mutual
def impl_DecodePicture.j0 : Nat → List Int → Bool → Option (List Int × Int × List Bool × Int)
 | 0, _, _ => none
 | k + 1, x0, x19 => if x19 = true then (some (([] : List Int), 0, ([] : List Bool), 1)) else (if 4 < (x0.length : Int) then (if 5 < (x0.length : Int) then (if 6 < (x0.length : Int) then (if (Go.bits .or .i64 (wrap64 (rd x0 4)) (wrap64 ((wrap64 (rd x0 5)) * 256))) > 40 then (impl_DecodePicture.j1 k x0 (Go.bits .or .i64 (wrap64 (rd x0 4)) (wrap64 ((wrap64 (rd x0 5)) * 256))) (wrap64 ((Go.bits .or .i64 (wrap64 (rd x0 4)) (wrap64 ((wrap64 (rd x0 5)) * 256))) * (wrap64 (rd x0 6)))) true (wrap64 (rd x0 6))) else (if (wrap64 (rd x0 6)) > 4 then (impl_DecodePicture.j1 k x0 (Go.bits .or .i64 (wrap64 (rd x0 4)) (wrap64 ((wrap64 (rd x0 5)) * 256))) (wrap64 ((Go.bits .or .i64 (wrap64 (rd x0 4)) (wrap64 ((wrap64 (rd x0 5)) * 256))) * (wrap64 (rd x0 6)))) true (wrap64 (rd x0 6))) else (impl_DecodePicture.j1 k x0 (Go.bits .or .i64 (wrap64 (rd x0 4)) (wrap64 ((wrap64 (rd x0 5)) * 256))) (wrap64 ((Go.bits .or .i64 (wrap64 (rd x0 4)) (wrap64 ((wrap64 (rd x0 5)) * 256))) * (wrap64 (rd x0 6)))) ((x0.length : Int) != (wrap64 ((wrap64 (7 + (wrap64 (4 * (Go.bits .or .i64 (wrap64 (rd x0 4)) (wrap64 ((wrap64 (rd x0 5)) * 256))))))) + (wrap64 (Int.tdiv (wrap64 ((wrap64 ((Go.bits .or .i64 (wrap64 (rd x0 4)) (wrap64 ((wrap64 (rd x0 5)) * 256))) * (wrap64 (rd x0 6)))) + 7)) 8))))) (wrap64 (rd x0 6))))) else (none)) else (none)) else (none))
def impl_DecodePicture.j1 : Nat → List Int → Int → Int → Bool → Int → Option (List Int × Int × List Bool × Int)
 | 0, _, _, _, _, _ => none
 | k + 1, x0, x4, x6, x58, x194001 => if x58 = true then (some (([] : List Int), 0, ([] : List Bool), 1)) else (impl_DecodePicture.l0 k x0 x4 x6 x4 0 ([] : List Int) x194001 x0 7)
def impl_DecodePicture.l0 : Nat → List Int → Int → Int → Int → Int → List Int → Int → List Int → Int → Option (List Int × Int × List Bool × Int)
 | 0, _, _, _, _, _, _, _, _, _ => none
 | k + 1, x0, x4, x6, x63, x64, x194000, x194001, x195000, x195001 => if x64 < x63 then ((impl_bytesIn_num.f k x195000 x195001 4).bind fun bt195 => (if x194000.length < 17592186044416 then (impl_DecodePicture.l0 k x0 x4 x6 x63 (wrap64 (x64 + 1)) (x194000 ++ [wrap64 (wrap32 (bt195.1))]) x194001 x195000 bt195.2) else (none))) else (if 0 ≤ (wrap64 (7 + (wrap64 (4 * x4)))) then (if (wrap64 (7 + (wrap64 (4 * x4)))) ≤ (x0.length : Int) then (impl_DecodePicture.l1 k x6 (x0.drop ((wrap64 (7 + (wrap64 (4 * x4)))) : Int).toNat) (wrap64 (8 * ((x0.drop ((wrap64 (7 + (wrap64 (4 * x4)))) : Int).toNat).length : Int))) 0 x194000 x194001 ([] : List Bool)) else (none)) else (none))
def impl_DecodePicture.l1 : Nat → Int → List Int → Int → Int → List Int → Int → List Bool → Option (List Int × Int × List Bool × Int)
 | 0, _, _, _, _, _, _, _ => none
 | k + 1, x6, x8, x83, x84, x194000, x194001, x194002 => if x84 < x83 then (if 0 ≤ (wrap64 (Int.tdiv x84 8)) then (if (wrap64 (Int.tdiv x84 8)) < (x8.length : Int) then (if 0 ≤ (Int.tmod x84 8) then (if x84 < x6 then (if x194002.length < 140737488355328 then (impl_DecodePicture.l1 k x6 x8 x83 (wrap64 (x84 + 1)) x194000 x194001 (x194002 ++ [((Go.bits .and .u8 (shr .u8 (rd x8 (wrap64 (Int.tdiv x84 8))) (Int.tmod x84 8)) 1) == 1)])) else (none)) else (if (Go.bits .and .u8 (shr .u8 (rd x8 (wrap64 (Int.tdiv x84 8))) (Int.tmod x84 8)) 1) = 1 then (some (([] : List Int), 0, ([] : List Bool), 1)) else (impl_DecodePicture.l1 k x6 x8 x83 (wrap64 (x84 + 1)) x194000 x194001 x194002))) else (none)) else (none)) else (none)) else ((impl_validPicture.f k x194000 x194001 x194002).bind fun t201 => (if t201 = true then (some (x194000, x194001, x194002, 0)) else (some (([] : List Int), 0, ([] : List Bool), 1))))
end
def impl_DecodePicture.f (k : Nat) (l0 : List Int) : Option (List Int × Int × List Bool × Int) := if (l0.length : Int) < 7 then (impl_DecodePicture.j0 k l0 true) else (if 4 ≤ (l0.length : Int) then (impl_DecodePicture.j0 k l0 ((strOfNums (l0.take 4)).toList != ([80, 73, 67, 84] : List UInt8))) else (none))
theorem impl_DecodePicture.mono_l : ∀ k, (∀ y0 y1, LeO (impl_DecodePicture.j0 k y0 y1) (impl_DecodePicture.j0 (k + 1) y0 y1)) ∧ (∀ y0 y1 y2 y3 y4, LeO (impl_DecodePicture.j1 k y0 y1 y2 y3 y4) (impl_DecodePicture.j1 (k + 1) y0 y1 y2 y3 y4)) ∧ (∀ y0 y1 y2 y3 y4 y5 y6 y7 y8, LeO (impl_DecodePicture.l0 k y0 y1 y2 y3 y4 y5 y6 y7 y8) (impl_DecodePicture.l0 (k + 1) y0 y1 y2 y3 y4 y5 y6 y7 y8)) ∧ (∀ y0 y1 y2 y3 y4 y5 y6, LeO (impl_DecodePicture.l1 k y0 y1 y2 y3 y4 y5 y6) (impl_DecodePicture.l1 (k + 1) y0 y1 y2 y3 y4 y5 y6))
 | 0 => ⟨fun _ _ r h => by simp [impl_DecodePicture.j0] at h, fun _ _ _ _ _ r h => by simp [impl_DecodePicture.j1] at h, fun _ _ _ _ _ _ _ _ _ r h => by simp [impl_DecodePicture.l0] at h, fun _ _ _ _ _ _ _ r h => by simp [impl_DecodePicture.l1] at h⟩
 | k + 1 => by
  obtain ⟨ih0, ih1, ih2, ih3⟩ := impl_DecodePicture.mono_l k
  refine ⟨?_, ?_, ?_, ?_⟩
  · intro y0 y1
    unfold impl_DecodePicture.j0
    repeat' with_reducible first | exact ih0 _ _ | exact ih1 _ _ _ _ _ | exact ih2 _ _ _ _ _ _ _ _ _ | exact ih3 _ _ _ _ _ _ _ | exact impl_bytesIn_num.mono _ _ _ _ | exact impl_validPicture.mono _ _ _ _ | exact LeO.refl _ | exact LeO.none _ | refine LeO.ite ?_ ?_ | refine LeO.bind ?_ (fun _ => ?_)
  · intro y0 y1 y2 y3 y4
    unfold impl_DecodePicture.j1
    repeat' with_reducible first | exact ih0 _ _ | exact ih1 _ _ _ _ _ | exact ih2 _ _ _ _ _ _ _ _ _ | exact ih3 _ _ _ _ _ _ _ | exact impl_bytesIn_num.mono _ _ _ _ | exact impl_validPicture.mono _ _ _ _ | exact LeO.refl _ | exact LeO.none _ | refine LeO.ite ?_ ?_ | refine LeO.bind ?_ (fun _ => ?_)
  · intro y0 y1 y2 y3 y4 y5 y6 y7 y8
    unfold impl_DecodePicture.l0
    repeat' with_reducible first | exact ih0 _ _ | exact ih1 _ _ _ _ _ | exact ih2 _ _ _ _ _ _ _ _ _ | exact ih3 _ _ _ _ _ _ _ | exact impl_bytesIn_num.mono _ _ _ _ | exact impl_validPicture.mono _ _ _ _ | exact LeO.refl _ | exact LeO.none _ | refine LeO.ite ?_ ?_ | refine LeO.bind ?_ (fun _ => ?_)
  intro y0 y1 y2 y3 y4 y5 y6
  unfold impl_DecodePicture.l1
  repeat' with_reducible first | exact ih0 _ _ | exact ih1 _ _ _ _ _ | exact ih2 _ _ _ _ _ _ _ _ _ | exact ih3 _ _ _ _ _ _ _ | exact impl_bytesIn_num.mono _ _ _ _ | exact impl_validPicture.mono _ _ _ _ | exact LeO.refl _ | exact LeO.none _ | refine LeO.ite ?_ ?_ | refine LeO.bind ?_ (fun _ => ?_)
theorem impl_DecodePicture.mono : ∀ a0 k, LeO (impl_DecodePicture.f k a0) (impl_DecodePicture.f (k + 1) a0) := by
 intro a0 k
 obtain ⟨ih0, ih1, ih2, ih3⟩ := impl_DecodePicture.mono_l k
 unfold impl_DecodePicture.f
 repeat' with_reducible first | exact ih0 _ _ | exact ih1 _ _ _ _ _ | exact ih2 _ _ _ _ _ _ _ _ _ | exact ih3 _ _ _ _ _ _ _ | exact impl_bytesIn_num.mono _ _ _ _ | exact impl_validPicture.mono _ _ _ _ | exact LeO.refl _ | exact LeO.none _ | refine LeO.ite ?_ ?_ | refine LeO.bind ?_ (fun _ => ?_)
def impl_DecodePicture.T3 : Bool × List (List Nat × List Nat) := (true, [([], []), ([0], [0]), ([1], [1]), ([2], [2]), ([], []), ([4], [4]), ([5], [5]), ([6], [6]), ([7], [7]), ([3, 8], [3, 8]), ([9, 0, 1, 2, 3, 4, 5, 6, 7, 8, 9], [9])])
def impl_DecodePicture.B3 : List Nat := [0, 1, 3, 7, 0, 16, 48, 112, 240, 511, 1023]
theorem impl_DecodePicture.tab3 : rtab .any (opsOf Try.f35 3) = impl_DecodePicture.T3 := by kernel_rfl
theorem impl_DecodePicture.bits3 : waitsOk impl_DecodePicture.T3.2 impl_DecodePicture.B3 = true := by kernel_rfl
def impl_DecodePicture.T11 : Bool × List (List Nat × List Nat) := (true, [([], []), ([0], [0]), ([], []), ([2], [2]), ([3], [3]), ([4], [4]), ([5], [5]), ([1, 6, 3], [1, 6]), ([0, 1, 2, 3, 4, 5, 6, 7], []), ([8, 7, 7, 0, 1, 2, 3, 4, 5, 6, 7], [7, 8])])
def impl_DecodePicture.B11 : List Nat := [0, 1, 0, 4, 12, 28, 60, 127, 255, 511]
theorem impl_DecodePicture.tab11 : rtab .any (opsOf Try.f35 11) = impl_DecodePicture.T11 := by kernel_rfl
theorem impl_DecodePicture.bits11 : waitsOk impl_DecodePicture.T11.2 impl_DecodePicture.B11 = true := by kernel_rfl
set_option maxHeartbeats 8000000 in
set_option maxRecDepth 100000 in
theorem impl_DecodePicture.calls (k : Nat) (A0 : Option Addr) (c0 : Nat) (l0 : List Int) (r1 : List Int) (r2 : Int) (r3 : List Bool) (r4 : Int) (w : World) (hr0 : Kd.C (Kd.int .u8) w A0 l0.length l0) (hc0 : l0.length ≤ c0) (h : impl_DecodePicture.f k l0 = some (r1, r2, r3, r4)) :
 Calls Try.prog 35 #[.slice A0 l0.length c0] w fun e w' => ∃ v0_ v2_ : Value, e = .returned (.tuple #[.agg #[v0_, .int .i64 r2, v2_], .int .i64 r4]) ∧ Kd.R (Kd.int .i64) 3 w' w.heap.size (fun _ => True) v0_ r1 ∧ Kd.R Kd.bool 4 w' w.heap.size (fun _ => True) v2_ r3 ∧ Below w.heap.size w w' := by
 have hu43 := Try.underlying43; have hu117 := Try.underlying117; have HR0 := AM hr0; have HC0 := AM hc0; clear hr0 hc0; have HB := AM (Below.refl w.heap.size w)
 have H : (if (l0.length : Int) < 7 then (impl_DecodePicture.j0 k l0 true) else (if 4 ≤ (l0.length : Int) then (impl_DecodePicture.j0 k l0 ((strOfNums (l0.take 4)).toList != ([80, 73, 67, 84] : List UInt8))) else (none))) = some (r1, r2, r3, r4) := h
 clear h; have HC2 := AM H; clear H
 go_enter Try.func35, Try.ntmps35
 go_upto_region 1 with (first | ((with_reducible refine gate_dst (N := 2) rfl ?_); (try (refine gate_guard (by rfl) ?_; dsimp only)); refine box_event ?hg (N := 2) ?hd (cs := #[.slice none 0 0, .int .i64 0, .slice none 0 0]) (t := 43) ?hr ?_; (case hd => rfl); (case hg => rfl); (case hr => first | (go_simp; done) | (go_simp; rfl)); intro gb188 hg w3 hbox hb; have BK188 := AM (hbox); have GW188 := gH HB hg; have GE188 := gH HB hg; replace HB := AM (below_step (pH HB) hb); clear hb hbox hg))
 (try simp only [Act.put, List.setIfInBounds_toArray, List.set_cons_zero, List.set_cons_succ])
 go_cut [19] (fun v19 wc => ∃ (kq : Nat) (x19_1 : Bool), v19 = .bool x19_1 ∧ Aside0 (impl_DecodePicture.j0 kq l0 x19_1 = some (r1, r2, r3, r4)) ∧ Aside0 (kq ≤ k) ∧ Aside0 (wc.heap[gb188]? = some (.cells #[(.slice none 0 0), .int .i64 0, (.slice none 0 0)] 43 (0, 0))) ∧ Aside0 (Below w.heap.size w wc))
 case first =>
  have H := HC2.out; clear HC2
  by_cases c4 : (l0.length : Int) < 7
  · rw [if_pos c4] at H
    have c4b0 : decide ((l0.length : Int) < 7) = true := decide_eq_true c4
    have c4b1 : decide (l0.length < 7) = true := decide_eq_true (by omega)
    clear c4
    (first | rw [c4b0] | (simp only [i64_w, i32_w]; rw [c4b0]) | skip)
    have H' := AM H
    clear H
    go_wp2
    go_meet
    case rel => exact ⟨_, (true), (by first | rfl | (simp; done) | (simp [*]; done)), H', ⟨by first | omega | exact Nat.le_refl _⟩, ⟨by refine sB ?_; exact BK188.out⟩, ⟨pH HB⟩⟩
  rw [if_neg c4] at H
  have c4b0 : decide ((l0.length : Int) < 7) = false := decide_eq_false c4
  have c4b1 : decide (l0.length < 7) = false := decide_eq_false (by omega)
  clear c4
  (first | rw [c4b0] | (simp only [i64_w, i32_w]; rw [c4b0]) | skip)
  by_cases c5 : 4 ≤ (l0.length : Int)
  rotate_left
  · rw [if_neg c5] at H
    exact absurd H (by simp)
  rw [if_pos c5] at H
  have c5b0 := eq_true c5
  have c5b1 : decide (4 ≤ (l0.length : Int)) = true := decide_eq_true c5
  clear c5
  have H' := AM H
  clear H
  obtain ⟨i06, hi06, _, hsz6, _⟩ := info_parts info5
  obtain ⟨hcut6, hA6, hC6⟩ := print_take_of (P := Try.prog) (Value.int .u8) 0 41 5 .i64 Try.underlying41 hi06 hsz6 A0 c0 l0 4 (by omega) (of_decide_eq_true (by first | (with_reducible assumption) | assumption)) HC0.out
  have HR189 := AM (Kd.C_of_reads (h1 := fun _ => rfl) (hA6 _ (Kd.reads_of_C HR0.out))); have HC189 := AM hC6; clear hA6 hC6 hi06 hsz6; have hcv7 := Kd.C_string (P := Try.prog) (A := A0) (c := c0) Try.underlying41 Try.underlying5 Try.underlying9 (Kd.C_below HR189.out HB.out); (try simp only [List.length_take, Int.reduceToNat] at hcv7)
  go_wp2
  go_meet
  case rel => exact ⟨_, (((strOfNums (l0.take 4)).toList != ([80, 73, 67, 84] : List UInt8))), (by first | rfl | (simp; done) | (simp [*]; done)), H', ⟨by first | omega | exact Nat.le_refl _⟩, ⟨by refine sB ?_; exact BK188.out⟩, ⟨pH HB⟩⟩
 case rest =>
  clear HC2
  try clear p2
  try clear c3
  try clear c4
  try clear c4b0
  try clear c4b1
  try clear c5
  try clear c5b0
  try clear c5b1
  try clear hcv7
  obtain ⟨kq, x19_1, rfl, HA, HJ1, BK188, HB⟩ := hcut
  cases kq with
  | zero => exact absurd HA.out (by simp [impl_DecodePicture.j0])
  | succ kj1 =>
   have H := HA.out; clear HA
   simp only [impl_DecodePicture.j0] at H
   by_cases c8 : x19_1 = true
   · subst c8
     have H1 : (some (([] : List Int), 0, ([] : List Bool), 1)) = some (r1, r2, r3, r4) := by rw [if_pos rfl] at H; exact H
     clear H; have H := H1; clear H1
     simp only [Option.some.injEq, Prod.mk.injEq] at H
     obtain ⟨rfl, rfl, rfl, rfl⟩ := H
     have hcz9_0 : wc.cell? ⟨gb188, 0, none⟩ = some (.slice none 0 0) := (blk_cell BK188.out 0).trans rfl
     have hcz9_1 : wc.cell? ⟨gb188, 1, none⟩ = some (.int .i64 0) := (blk_cell BK188.out 1).trans rfl
     have hcz9_2 : wc.cell? ⟨gb188, 2, none⟩ = some (.slice none 0 0) := (blk_cell BK188.out 2).trans rfl
     have hfz9_0 := blk_frozen BK188.out 0; have hfz9_1 := blk_frozen BK188.out 1; have hfz9_2 := blk_frozen BK188.out 2
     go_wp2
     refine bodyPost_ret (results_ct rfl _ _ gb188 43 #[.slice none 0 0, .int .i64 0, .slice none 0 0] (0, 0) _ rfl (by refine sB ?_; refine blk_put (cs := #[.slice none 0 0, .int .i64 0, .slice none 0 0]) ?_ 2 _ rfl; refine sB ?_; refine blk_put (cs := #[.slice none 0 0, .int .i64 0, .slice none 0 0]) ?_ 1 _ rfl; refine sB ?_; refine blk_put (cs := #[.slice none 0 0, .int .i64 0, .slice none 0 0]) ?_ 0 _ rfl; refine sB ?_; exact BK188.out) Try.underlying43 rfl (by kernel_rfl)) rfl ?_
     exact ⟨_, _, by first | rfl | (simp [errW_none, errW_some] <;> rfl) | (simp [*, errW_none, errW_some] <;> rfl), by first | exact Kd.R_nil _ _ _ _ _ | exact Kd.N_nil _ _ _ _ _ | exact Kd.V_nil _ _ _ _ _ | exact Kd.Q_nil _ _ _ _ _ | exact Kd.S_nil _ _ _ _ _, by first | exact Kd.R_nil _ _ _ _ _ | exact Kd.N_nil _ _ _ _ _ | exact Kd.V_nil _ _ _ _ _ | exact Kd.Q_nil _ _ _ _ _ | exact Kd.S_nil _ _ _ _ _, pH HB⟩
   replace c8 := Bool.eq_false_iff.mpr c8
   subst c8
   have H1 : (if 4 < (l0.length : Int) then (if 5 < (l0.length : Int) then (if 6 < (l0.length : Int) then (if (Go.bits .or .i64 (wrap64 (rd l0 4)) (wrap64 ((wrap64 (rd l0 5)) * 256))) > 40 then (impl_DecodePicture.j1 kj1 l0 (Go.bits .or .i64 (wrap64 (rd l0 4)) (wrap64 ((wrap64 (rd l0 5)) * 256))) (wrap64 ((Go.bits .or .i64 (wrap64 (rd l0 4)) (wrap64 ((wrap64 (rd l0 5)) * 256))) * (wrap64 (rd l0 6)))) true (wrap64 (rd l0 6))) else (if (wrap64 (rd l0 6)) > 4 then (impl_DecodePicture.j1 kj1 l0 (Go.bits .or .i64 (wrap64 (rd l0 4)) (wrap64 ((wrap64 (rd l0 5)) * 256))) (wrap64 ((Go.bits .or .i64 (wrap64 (rd l0 4)) (wrap64 ((wrap64 (rd l0 5)) * 256))) * (wrap64 (rd l0 6)))) true (wrap64 (rd l0 6))) else (impl_DecodePicture.j1 kj1 l0 (Go.bits .or .i64 (wrap64 (rd l0 4)) (wrap64 ((wrap64 (rd l0 5)) * 256))) (wrap64 ((Go.bits .or .i64 (wrap64 (rd l0 4)) (wrap64 ((wrap64 (rd l0 5)) * 256))) * (wrap64 (rd l0 6)))) ((l0.length : Int) != (wrap64 ((wrap64 (7 + (wrap64 (4 * (Go.bits .or .i64 (wrap64 (rd l0 4)) (wrap64 ((wrap64 (rd l0 5)) * 256))))))) + (wrap64 (Int.tdiv (wrap64 ((wrap64 ((Go.bits .or .i64 (wrap64 (rd l0 4)) (wrap64 ((wrap64 (rd l0 5)) * 256))) * (wrap64 (rd l0 6)))) + 7)) 8))))) (wrap64 (rd l0 6))))) else (none)) else (none)) else (none)) = some (r1, r2, r3, r4) := by rw [if_neg (show ¬ (false = true) by decide)] at H; exact H
   clear H; have H := H1; clear H1
   by_cases c10 : 4 < (l0.length : Int)
   rotate_left
   · rw [if_neg c10] at H
     exact absurd H (by simp)

   rw [if_pos c10] at H
   have c10b0 : decide (4 < (l0.length : Int)) = true := decide_eq_true c10
   have c10b1 : decide (4 < l0.length) = true := decide_eq_true (by omega)
   clear c10
   by_cases c11 : 5 < (l0.length : Int)
   rotate_left
   · rw [if_neg c11] at H
     exact absurd H (by simp)
   rw [if_pos c11] at H
   have c11b0 : decide (5 < (l0.length : Int)) = true := decide_eq_true c11
   have c11b1 : decide (5 < l0.length) = true := decide_eq_true (by omega)
   clear c11
   by_cases c12 : 6 < (l0.length : Int)
   rotate_left
   · rw [if_neg c12] at H
     exact absurd H (by simp)
   rw [if_pos c12] at H
   have c12b0 : decide (6 < (l0.length : Int)) = true := decide_eq_true c12
   have c12b1 : decide (6 < l0.length) = true := decide_eq_true (by omega)
   clear c12; have HC13 := AM H; clear H
   try go_wp2
   replace BK188 := AM (blk_drew BK188.out); replace HB := AM (below_drew1 HB.out)
   have p190 : 0 ≤ (4 : Int) := (by omega)
   have q190 : 4 < (l0.length : Int) := of_decide_eq_true (by first | (with_reducible assumption) | assumption)
   obtain ⟨ad190, e190, hx190_0⟩ := Kd.at_int HR0.out 4 p190 q190
   have hw190_0 := hx190_0
   (try rw [show ((4 : Int)).toNat = 4 from rfl] at hw190_0)
   (try rw [show 4 * 1 = 4 from rfl] at hw190_0)
   (try simp only [Nat.reduceMul, Nat.reduceEqDiff, Go.Addr.add, ↓reduceIte] at hw190_0)
   cases e190
   (try simp only [show (4 : Int).toNat = 4 from rfl, Nat.reduceMul, Nat.reduceEqDiff, Go.Addr.add, ↓reduceIte] at hx190_0)
   have qi190 : (4 < l0.length) = True := eq_true (by omega)
   (try rw [show ((4 : Int)).toNat = 4 from rfl] at hx190_0)
   replace hx190_0 := (HB.out.cell (World.block_lt_of_cell? w _ hx190_0)).trans hx190_0; replace p190 := eq_true p190; replace q190 := eq_true q190
   have p191 : 0 ≤ (5 : Int) := (by omega)
   have q191 : 5 < (l0.length : Int) := of_decide_eq_true (by first | (with_reducible assumption) | assumption)
   obtain ⟨ad191, e191, hx191_0⟩ := Kd.at_int HR0.out 5 p191 q191
   have hw191_0 := hx191_0
   (try rw [show ((5 : Int)).toNat = 5 from rfl] at hw191_0)
   (try rw [show 5 * 1 = 5 from rfl] at hw191_0)
   (try simp only [Nat.reduceMul, Nat.reduceEqDiff, Go.Addr.add, ↓reduceIte] at hw191_0)
   obtain rfl : ad190 = ad191 := (by injection e191)
   (try simp only [show (5 : Int).toNat = 5 from rfl, Nat.reduceMul, Nat.reduceEqDiff, Go.Addr.add, ↓reduceIte] at hx191_0)
   have qi191 : (5 < l0.length) = True := eq_true (by omega)
   (try rw [show ((5 : Int)).toNat = 5 from rfl] at hx191_0)
   replace hx191_0 := (HB.out.cell (World.block_lt_of_cell? w _ hx191_0)).trans hx191_0; replace p191 := eq_true p191; replace q191 := eq_true q191
   refine start_ (n := 11) (S := fun w' => w'.cell? ⟨ad190.block, ad190.off + 4, none⟩ = some (.int .u8 (rd l0 4)) ∧ w'.cell? ⟨ad190.block, ad190.off + 5, none⟩ = some (.int .u8 (rd l0 5))) (ds := []) #[false, false, false, false, false, false, false, false, false, false, false] (by kernel_rfl) rfl rfl ⟨((HB.out.cell (World.block_lt_of_cell? w _ hw190_0)).trans hw190_0), ((HB.out.cell (World.block_lt_of_cell? w _ hw191_0)).trans hw191_0)⟩ (fun hHeld => ?_); refine with_tabW impl_DecodePicture.tab3 impl_DecodePicture.bits3 (fun HT_ HW_ => ?_)
   generalize wc.drew = w14 at BK188 HB hx190_0 hx191_0 hHeld ⊢
   refine pure_ (i := 0) (N := some 21) (v := ?_) (a' := ?_) #[true, false, false, false, false, false, false, false, false, false, false] rfl rfl (any_of HT_.out (by kernel_rfl)) (fun _ _ _ h => h) (Or.inl ⟨by rfl, ?_⟩) ?_ ?_
   rotate_left
   · intro w'
     go_simp
     with_reducible rfl
   rotate_left
   · simp only [Act.put, sa, sb, sc, i64_w, i32_w]
     rfl
   refine pure_ (i := 1) (N := some 22) (v := ?_) (a' := ?_) #[true, true, false, false, false, false, false, false, false, false, false] rfl rfl (any_of HT_.out (by kernel_rfl)) (fun _ _ _ h => h) (Or.inl ⟨by rfl, ?_⟩) ?_ ?_
   rotate_left
   · intro w'
     go_simp
     with_reducible rfl
   rotate_left
   · simp only [Act.put, sa, sb, sc, i64_w, i32_w]
     rfl
   refine pure_ (i := 4) (N := some 25) (v := ?_) (a' := ?_) #[true, true, false, false, true, false, false, false, false, false, false] rfl rfl (any_of HT_.out (by kernel_rfl)) (fun _ _ _ h => h) (Or.inl ⟨by rfl, ?_⟩) ?_ ?_
   rotate_left
   · intro w'
     go_simp
     with_reducible rfl
   rotate_left
   · simp only [Act.put, sa, sb, sc, i64_w, i32_w]
     rfl
   refine pure_ (i := 5) (N := some 26) (v := ?_) (a' := ?_) #[true, true, false, false, true, true, false, false, false, false, false] rfl rfl (any_of HT_.out (by kernel_rfl)) (fun _ _ _ h => h) (Or.inl ⟨by rfl, ?_⟩) ?_ ?_
   rotate_left
   · intro w'
     go_simp
     with_reducible rfl
   rotate_left
   · simp only [Act.put, sa, sb, sc, i64_w, i32_w]
     rfl
   refine take_ (i := 2) (N := some 23) (v := ?_) (a' := ?_) #[true, true, true, false, true, true, false, false, false, false, false] rfl rfl (take_ofW HT_.out HW_.out (by kernel_rfl)) (fun _ _ _ h => h) (Or.inl ⟨by rfl, ?_⟩) hHeld ?_ ?_
   rotate_left
   · rintro w' ⟨s0, s1⟩
     go_simp
     with_reducible rfl
   rotate_left
   · simp only [Act.put, sa, sb, sc, i64_w, i32_w]
     rfl
   refine pure_ (i := 3) (N := some 24) (v := ?_) (a' := ?_) #[true, true, true, true, true, true, false, false, false, false, false] rfl rfl (any_of HT_.out (by kernel_rfl)) (fun _ _ _ h => h) (Or.inl ⟨by rfl, ?_⟩) ?_ ?_
   rotate_left
   · intro w'
     go_simp
     with_reducible rfl
   rotate_left
   · simp only [Act.put, sa, sb, sc, i64_w, i32_w]
     rfl
   refine take_ (i := 6) (N := some 27) (v := ?_) (a' := ?_) #[true, true, true, true, true, true, true, false, false, false, false] rfl rfl (take_ofW HT_.out HW_.out (by kernel_rfl)) (fun _ _ _ h => h) (Or.inl ⟨by rfl, ?_⟩) hHeld ?_ ?_
   rotate_left
   · rintro w' ⟨s0, s1⟩
     go_simp
     with_reducible rfl
   rotate_left
   · simp only [Act.put, sa, sb, sc, i64_w, i32_w]
     rfl
   refine pure_ (i := 7) (N := some 28) (v := ?_) (a' := ?_) #[true, true, true, true, true, true, true, true, false, false, false] rfl rfl (any_of HT_.out (by kernel_rfl)) (fun _ _ _ h => h) (Or.inl ⟨by rfl, ?_⟩) ?_ ?_
   rotate_left
   · intro w'
     go_simp
     with_reducible rfl
   rotate_left
   · simp only [Act.put, sa, sb, sc, i64_w, i32_w]
     rfl
   refine pure_ (i := 8) (N := some 29) (v := ?_) (a' := ?_) #[true, true, true, true, true, true, true, true, true, false, false] rfl rfl (any_of HT_.out (by kernel_rfl)) (fun _ _ _ h => h) (Or.inl ⟨by rfl, ?_⟩) ?_ ?_
   rotate_left
   · intro w'
     go_simp
     with_reducible rfl
   rotate_left
   · simp only [Act.put, sa, sb, sc, i64_w, i32_w]
     rfl
   refine pure_ (i := 9) (N := some 30) (v := ?_) (a' := ?_) #[true, true, true, true, true, true, true, true, true, true, false] rfl rfl (any_of HT_.out (by kernel_rfl)) (fun _ _ _ h => h) (Or.inl ⟨by rfl, ?_⟩) ?_ ?_
   rotate_left
   · intro w'
     go_simp
     with_reducible rfl
   rotate_left
   · simp only [Act.put, sa, sb, sc, i64_w, i32_w]
     rfl
   refine pure_ (i := 10) (N := some 4) (v := ?_) (a' := ?_) #[true, true, true, true, true, true, true, true, true, true, true] rfl rfl (any_of HT_.out (by kernel_rfl)) (fun _ _ _ h => h) (Or.inl ⟨by rfl, ?_⟩) ?_ ?_
   rotate_left
   · intro w'
     go_simp
     with_reducible rfl
   rotate_left
   · simp only [Act.put, sa, sb, sc, i64_w, i32_w]
     rfl
   refine done_ (done_of HT_.out (by kernel_rfl)) ?_
   have p192 : 0 ≤ (6 : Int) := (by omega)
   have q192 : 6 < (l0.length : Int) := of_decide_eq_true (by first | (with_reducible assumption) | assumption)
   obtain ⟨ad192, e192, hx192_0⟩ := Kd.at_int HR0.out 6 p192 q192
   obtain rfl : ad190 = ad192 := (by injection e192)
   (try simp only [show (6 : Int).toNat = 6 from rfl, Nat.reduceMul, Nat.reduceEqDiff, Go.Addr.add, ↓reduceIte] at hx192_0)
   have qi192 : (6 < l0.length) = True := eq_true (by omega)
   (try rw [show ((6 : Int)).toNat = 6 from rfl] at hx192_0)
   replace hx192_0 := (HB.out.cell (World.block_lt_of_cell? w _ hx192_0)).trans hx192_0; replace p192 := eq_true p192; replace q192 := eq_true q192
   go_upto_region 6 with (first | ((with_reducible refine gate_dst (N := 5) rfl ?_); (try (refine gate_guard (by rfl) ?_; dsimp only)); refine box_event ?hg (N := 5) ?hd (cs := #[.slice none 0 0, .int .i64 0, .slice none 0 0]) (t := 43) ?hr ?_; (case hd => rfl); (case hg => rfl); (case hr => first | (go_simp; done) | (go_simp; rfl)); intro gb193 hg w15 hbox hb; have BK193 := AM (hbox); have GW193 := gH HB hg; have GE193 := gH HB hg; replace HB := AM (below_step (pH HB) hb); have NB188_193 := nL BK188 hg; have NB193_188 := nG BK188 hg; replace BK188 := bB BK188 hb; clear hb hbox hg; have hnb16 := NB193_188.out; have hnc16 := NB188_193.out; have ⟨hcz17_0, hcz17_1, hcz17_2, hfz17_0, hfz17_1, hfz17_2⟩ := z3 BK193))
   (try simp only [Act.put, List.setIfInBounds_toArray, List.set_cons_zero, List.set_cons_succ])
   go_cut [58] (fun v58 wc => ∃ (kq : Nat) (x58_12 : Bool), v58 = .bool x58_12 ∧ Aside0 (impl_DecodePicture.j1 kq l0 (Go.bits .or .i64 (wrap64 (rd l0 4)) (wrap64 ((wrap64 (rd l0 5)) * 256))) (wrap64 ((Go.bits .or .i64 (wrap64 (rd l0 4)) (wrap64 ((wrap64 (rd l0 5)) * 256))) * (wrap64 (rd l0 6)))) x58_12 (wrap64 (rd l0 6)) = some (r1, r2, r3, r4)) ∧ Aside0 (kq ≤ kj1) ∧ Aside0 (wc.heap[gb188]? = some (.cells #[(.slice none 0 0), .int .i64 0, (.slice none 0 0)] 43 (0, 0))) ∧ Aside0 (wc.heap[gb193]? = some (.cells #[(.slice none 0 0), .int .i64 (wrap64 (rd l0 6)), (.slice none 0 0)] 43 (0, 0))) ∧ Aside0 (Below w.heap.size w wc))
   case first =>
    have H := HC13.out; clear HC13
    by_cases c18 : (Go.bits .or .i64 (wrap64 (rd l0 4)) (wrap64 ((wrap64 (rd l0 5)) * 256))) > 40
    · rw [if_pos c18] at H
      have c18b0 : decide (40 < (Go.bits .or .i64 (wrap64 (rd l0 4)) (wrap64 ((wrap64 (rd l0 5)) * 256)))) = true := decide_eq_true c18
      clear c18
      (first | rw [c18b0] | (simp only [i64_w, i32_w]; rw [c18b0]) | skip)
      have H' := AM H
      clear H
      go_wp2
      go_meet
      case rel => exact ⟨_, (true), (by first | rfl | (simp; done) | (simp [*]; done)), H', ⟨by have := HJ1.out; first | omega | exact Nat.le_refl _⟩, ⟨by refine sB ?_; refine blk_far ?_ NB188_193.out _; refine sB ?_; refine blk_far ?_ NB188_193.out _; refine sB ?_; refine blk_far ?_ NB188_193.out _; refine sB ?_; exact BK188.out⟩, ⟨by refine sB ?_; refine blk_put (cs := #[.slice none 0 0, .int .i64 (wrap64 (rd l0 6)), .slice none 0 0]) ?_ 2 _ rfl; refine sB ?_; refine blk_put (cs := #[.slice none 0 0, .int .i64 0, .slice none 0 0]) ?_ 1 _ rfl; refine sB ?_; refine blk_put (cs := #[.slice none 0 0, .int .i64 0, .slice none 0 0]) ?_ 0 _ rfl; refine sB ?_; exact BK193.out⟩, ⟨pH HB⟩⟩
    rw [if_neg c18] at H
    have c18b0 : decide (40 < (Go.bits .or .i64 (wrap64 (rd l0 4)) (wrap64 ((wrap64 (rd l0 5)) * 256)))) = false := decide_eq_false c18
    clear c18
    (first | rw [c18b0] | (simp only [i64_w, i32_w]; rw [c18b0]) | skip)
    by_cases c19 : (wrap64 (rd l0 6)) > 4
    · rw [if_pos c19] at H
      have c19b0 : decide (4 < (wrap64 (rd l0 6))) = true := decide_eq_true c19
      clear c19
      have H' := AM H
      clear H; have hnb20 := NB193_188.out; have hnc20 := NB188_193.out
      have hcz21_0 : w15.cell? ⟨gb193, 0, none⟩ = some (.slice none 0 0) := (blk_cell BK193.out 0).trans rfl
      have hcz21_1 : w15.cell? ⟨gb193, 1, none⟩ = some (.int .i64 0) := (blk_cell BK193.out 1).trans rfl
      have hcz21_2 : w15.cell? ⟨gb193, 2, none⟩ = some (.slice none 0 0) := (blk_cell BK193.out 2).trans rfl
      have hfz21_0 := blk_frozen BK193.out 0; have hfz21_1 := blk_frozen BK193.out 1; have hfz21_2 := blk_frozen BK193.out 2
      go_wp2
      go_meet
      case rel => exact ⟨_, (true), (by first | rfl | (simp; done) | (simp [*]; done)), H', ⟨by have := HJ1.out; first | omega | exact Nat.le_refl _⟩, ⟨by refine sB ?_; refine blk_far ?_ NB188_193.out _; refine sB ?_; refine blk_far ?_ NB188_193.out _; refine sB ?_; refine blk_far ?_ NB188_193.out _; refine sB ?_; exact BK188.out⟩, ⟨by refine sB ?_; refine blk_put (cs := #[.slice none 0 0, .int .i64 (wrap64 (rd l0 6)), .slice none 0 0]) ?_ 2 _ rfl; refine sB ?_; refine blk_put (cs := #[.slice none 0 0, .int .i64 0, .slice none 0 0]) ?_ 1 _ rfl; refine sB ?_; refine blk_put (cs := #[.slice none 0 0, .int .i64 0, .slice none 0 0]) ?_ 0 _ rfl; refine sB ?_; exact BK193.out⟩, ⟨pH HB⟩⟩
    rw [if_neg c19] at H
    have c19b0 : decide (4 < (wrap64 (rd l0 6))) = false := decide_eq_false c19
    clear c19
    have H' := AM H
    clear H; have hnb22 := NB193_188.out; have hnc22 := NB188_193.out
    have hcz23_0 : w15.cell? ⟨gb193, 0, none⟩ = some (.slice none 0 0) := (blk_cell BK193.out 0).trans rfl
    have hcz23_1 : w15.cell? ⟨gb193, 1, none⟩ = some (.int .i64 0) := (blk_cell BK193.out 1).trans rfl
    have hcz23_2 : w15.cell? ⟨gb193, 2, none⟩ = some (.slice none 0 0) := (blk_cell BK193.out 2).trans rfl
    have hfz23_0 := blk_frozen BK193.out 0; have hfz23_1 := blk_frozen BK193.out 1; have hfz23_2 := blk_frozen BK193.out 2
    go_wp2
    go_meet
    case rel => exact ⟨_, (((l0.length : Int) != (wrap64 ((wrap64 (7 + (wrap64 (4 * (Go.bits .or .i64 (wrap64 (rd l0 4)) (wrap64 ((wrap64 (rd l0 5)) * 256))))))) + (wrap64 (Int.tdiv (wrap64 ((wrap64 ((Go.bits .or .i64 (wrap64 (rd l0 4)) (wrap64 ((wrap64 (rd l0 5)) * 256))) * (wrap64 (rd l0 6)))) + 7)) 8)))))), (by first | rfl | (simp; done) | (simp [*]; done)), H', ⟨by have := HJ1.out; first | omega | exact Nat.le_refl _⟩, ⟨by refine sB ?_; refine blk_far ?_ NB188_193.out _; refine sB ?_; refine blk_far ?_ NB188_193.out _; refine sB ?_; refine blk_far ?_ NB188_193.out _; refine sB ?_; exact BK188.out⟩, ⟨by refine sB ?_; refine blk_put (cs := #[.slice none 0 0, .int .i64 (wrap64 (rd l0 6)), .slice none 0 0]) ?_ 2 _ rfl; refine sB ?_; refine blk_put (cs := #[.slice none 0 0, .int .i64 0, .slice none 0 0]) ?_ 1 _ rfl; refine sB ?_; refine blk_put (cs := #[.slice none 0 0, .int .i64 0, .slice none 0 0]) ?_ 0 _ rfl; refine sB ?_; exact BK193.out⟩, ⟨pH HB⟩⟩
   case rest =>
    clear HC13
    try clear c1
    try clear p1
    try clear q1
    try clear hx1
    try clear qi1
    try clear c2
    try clear p2
    try clear c3
    try clear c4
    try clear c4b0
    try clear c4b1
    try clear c5
    try clear c5b0
    try clear c5b1
    try clear p6
    try clear hcv7
    try clear c8
    try clear c10
    try clear c10b0
    try clear c10b1
    try clear c11
    try clear c11b0
    try clear c11b1
    try clear c12
    try clear c12b0
    try clear c12b1
    try clear c16
    try clear c18
    try clear c18b0
    try clear c19
    try clear c19b0
    try clear p19
    try clear q19
    try clear hx19
    try clear qi19
    try clear c20
    try clear c22
    try clear hcz17_0
    try clear hcz17_1
    try clear hcz17_2
    try clear hcz21_0
    try clear hcz21_1
    try clear hcz21_2
    try clear hcz23_0
    try clear hcz23_1
    try clear hcz23_2
    try clear hcz9_0
    try clear hcz9_1
    try clear hcz9_2
    try clear hfz17_0
    try clear hfz17_1
    try clear hfz17_2
    try clear hfz21_0
    try clear hfz21_1
    try clear hfz21_2
    try clear hfz23_0
    try clear hfz23_1
    try clear hfz23_2
    try clear hfz9_0
    try clear hfz9_1
    try clear hfz9_2
    try clear hx190_0
    try clear hx191_0
    try clear hx192_0
    try clear p190
    try clear p191
    try clear p192
    try clear p2
    try clear q190
    try clear q191
    try clear q192
    obtain ⟨kq, x58_12, rfl, HA, HJ12, BK188, BK193, HB⟩ := hcut
    cases kq with
    | zero => exact absurd HA.out (by simp [impl_DecodePicture.j1])
    | succ kj12 =>
     have H := HA.out; clear HA
     simp only [impl_DecodePicture.j1] at H
     by_cases c24 : x58_12 = true
     · subst c24
       have H1 : (some (([] : List Int), 0, ([] : List Bool), 1)) = some (r1, r2, r3, r4) := by rw [if_pos rfl] at H; exact H
       clear H; have H := H1; clear H1
       simp only [Option.some.injEq, Prod.mk.injEq] at H
       obtain ⟨rfl, rfl, rfl, rfl⟩ := H
       have hnb25 := NB188_193.out; have hnc25 := NB193_188.out
       have hcz26_0 : wc.cell? ⟨gb188, 0, none⟩ = some (.slice none 0 0) := (blk_cell BK188.out 0).trans rfl
       have hcz26_1 : wc.cell? ⟨gb188, 1, none⟩ = some (.int .i64 0) := (blk_cell BK188.out 1).trans rfl
       have hcz26_2 : wc.cell? ⟨gb188, 2, none⟩ = some (.slice none 0 0) := (blk_cell BK188.out 2).trans rfl
       have hfz26_0 := blk_frozen BK188.out 0; have hfz26_1 := blk_frozen BK188.out 1; have hfz26_2 := blk_frozen BK188.out 2
       go_wp2
       refine bodyPost_ret (results_ct rfl _ _ gb188 43 #[.slice none 0 0, .int .i64 0, .slice none 0 0] (0, 0) _ rfl (by refine sB ?_; refine blk_put (cs := #[.slice none 0 0, .int .i64 0, .slice none 0 0]) ?_ 2 _ rfl; refine sB ?_; refine blk_put (cs := #[.slice none 0 0, .int .i64 0, .slice none 0 0]) ?_ 1 _ rfl; refine sB ?_; refine blk_put (cs := #[.slice none 0 0, .int .i64 0, .slice none 0 0]) ?_ 0 _ rfl; refine sB ?_; exact BK188.out) Try.underlying43 rfl (by kernel_rfl)) rfl ?_
       exact ⟨_, _, by first | rfl | (simp [errW_none, errW_some] <;> rfl) | (simp [*, errW_none, errW_some] <;> rfl), by first | exact Kd.R_nil _ _ _ _ _ | exact Kd.N_nil _ _ _ _ _ | exact Kd.V_nil _ _ _ _ _ | exact Kd.Q_nil _ _ _ _ _ | exact Kd.S_nil _ _ _ _ _, by first | exact Kd.R_nil _ _ _ _ _ | exact Kd.N_nil _ _ _ _ _ | exact Kd.V_nil _ _ _ _ _ | exact Kd.Q_nil _ _ _ _ _ | exact Kd.S_nil _ _ _ _ _, pH HB⟩
     replace c24 := Bool.eq_false_iff.mpr c24
     subst c24
     have H1 : (impl_DecodePicture.l0 kj12 l0 (Go.bits .or .i64 (wrap64 (rd l0 4)) (wrap64 ((wrap64 (rd l0 5)) * 256))) (wrap64 ((Go.bits .or .i64 (wrap64 (rd l0 4)) (wrap64 ((wrap64 (rd l0 5)) * 256))) * (wrap64 (rd l0 6)))) (Go.bits .or .i64 (wrap64 (rd l0 4)) (wrap64 ((wrap64 (rd l0 5)) * 256))) 0 ([] : List Int) (wrap64 (rd l0 6)) l0 7) = some (r1, r2, r3, r4) := by rw [if_neg (show ¬ (false = true) by decide)] at H; exact H
     clear H; have H := H1; clear H1
     have H' := AM H
     clear H
     go_wp2_with (first | ((with_reducible refine gate_dst (N := 62) rfl ?_); (try (refine gate_guard (by rfl) ?_; dsimp only)); refine box_event ?hg (N := 62) ?hd (cs := #[.slice (some ad190) l0.length c0, .int .i64 7]) (t := 117) ?hr ?_; (case hd => rfl); (case hg => rfl); (case hr => first | (go_simp; done) | (go_simp; rfl)); intro gb194 hg w27 hbox hb; have HI194 := AM ((⟨_, _, hbox, (by rw [hg]; exact (below_size (pH HB))), HR0.out⟩ : IsS117 w _ gb194 l0 7)); have GW194 := gH HB hg; have GE194 := gH HB hg; replace HB := AM (below_step (pH HB) hb); have NB188_194 := nL BK188 hg; have NB194_188 := nG BK188 hg; replace BK188 := bB BK188 hb; have NB193_194 := nL BK193 hg; have NB194_193 := nG BK193 hg; replace BK193 := bB BK193 hb; clear hb hbox hg))
     go_loopg [64] kj12 (fun kq v64 w' => ∃ (x64_3 : Int) (x194000_3 : List Int) (x195001_3 : Int) (u194000 : Value), v64 = .int .i64 x64_3 ∧ Aside0 (impl_DecodePicture.l0 kq l0 (Go.bits .or .i64 (wrap64 (rd l0 4)) (wrap64 ((wrap64 (rd l0 5)) * 256))) (wrap64 ((Go.bits .or .i64 (wrap64 (rd l0 4)) (wrap64 ((wrap64 (rd l0 5)) * 256))) * (wrap64 (rd l0 6)))) (Go.bits .or .i64 (wrap64 (rd l0 4)) (wrap64 ((wrap64 (rd l0 5)) * 256))) x64_3 x194000_3 (wrap64 (rd l0 6)) l0 x195001_3 = some (r1, r2, r3, r4)) ∧ Aside0 (kq ≤ kj12) ∧ Aside0 (Kd.R (Kd.int .i64) 3 w' w.heap.size (fun _ => True) u194000 x194000_3) ∧ Aside0 (w'.heap[gb188]? = some (.cells #[(.slice none 0 0), .int .i64 0, (.slice none 0 0)] 43 (0, 0))) ∧ Aside0 (w'.heap[gb193]? = some (.cells #[u194000, .int .i64 (wrap64 (rd l0 6)), (.slice none 0 0)] 43 (0, 0))) ∧ Aside0 (IsS117 w w' gb194 l0 x195001_3) ∧ Aside0 (Below w.heap.size w w'))
     case atStart => exact ⟨(0), (([] : List Int)), (7), (.slice none 0 0), (by first | rfl | (simp; done) | (simp [*]; done)), H', ⟨Nat.le_refl _⟩, ⟨by first | exact Kd.R_nil _ _ _ _ _ | exact Kd.N_nil _ _ _ _ _ | exact Kd.V_nil _ _ _ _ _ | exact Kd.Q_nil _ _ _ _ _ | exact Kd.S_nil _ _ _ _ _⟩, ⟨by refine sB ?_; exact BK188.out⟩, ⟨by refine sB ?_; exact BK193.out⟩, ⟨by repeat (first | (with_reducible first | exact HI194.out | apply IsS117.alloc | apply IsS117.drewN | apply IsS117.drew | apply IsS117.set_1 | refine IsS117.far ?_ NB194_188.out _ | refine IsS117.far ?_ NB194_193.out _) | exact HI194.out)⟩, ⟨by repeat (first | (with_reducible first | exact HB.out | apply below_alloc | apply pw_below_drewN | apply below_drew1 | refine below_set ?_ (IsS117.ge HI194.out) | refine below_set ?_ GE188.out | refine below_set ?_ GE193.out) | exact HB.out)⟩⟩
     case round =>
      clear H'
      try clear c1
      try clear p1
      try clear q1
      try clear hx1
      try clear qi1
      try clear c2
      try clear p2
      try clear c3
      try clear c4
      try clear c4b0
      try clear c4b1
      try clear c5
      try clear c5b0
      try clear c5b1
      try clear p6
      try clear hcv7
      try clear c8
      try clear c10
      try clear c10b0
      try clear c10b1
      try clear c11
      try clear c11b0
      try clear c11b1
      try clear c12
      try clear c12b0
      try clear c12b1
      try clear c16
      try clear c18
      try clear c18b0
      try clear c19
      try clear c19b0
      try clear p19
      try clear q19
      try clear hx19
      try clear qi19
      try clear c20
      try clear c22
      try clear c24
      try clear c25
      try clear hcz17_0
      try clear hcz17_1
      try clear hcz17_2
      try clear hcz21_0
      try clear hcz21_1
      try clear hcz21_2
      try clear hcz23_0
      try clear hcz23_1
      try clear hcz23_2
      try clear hcz26_0
      try clear hcz26_1
      try clear hcz26_2
      try clear hcz9_0
      try clear hcz9_1
      try clear hcz9_2
      try clear hfz17_0
      try clear hfz17_1
      try clear hfz17_2
      try clear hfz21_0
      try clear hfz21_1
      try clear hfz21_2
      try clear hfz23_0
      try clear hfz23_1
      try clear hfz23_2
      try clear hfz26_0
      try clear hfz26_1
      try clear hfz26_2
      try clear hfz9_0
      try clear hfz9_1
      try clear hfz9_2
      try clear hx190_0
      try clear hx191_0
      try clear hx192_0
      try clear p1
      try clear p19
      try clear p190
      try clear p191
      try clear p192
      try clear p2
      try clear p6
      try clear q1
      try clear q19
      try clear q190
      try clear q191
      try clear q192
      obtain ⟨x64_3, x194000_3, x195001_3, u194000, rfl, HA, HK3, HO_194000, BK188, BK193, HI194, HB⟩ := hrel
      cases gk with
      | zero => exact absurd HA.out (by simp [impl_DecodePicture.l0])
      | succ k3 =>
       have H := HA.out; clear HA
       simp only [impl_DecodePicture.l0] at H
       by_cases c28 : x64_3 < (Go.bits .or .i64 (wrap64 (rd l0 4)) (wrap64 ((wrap64 (rd l0 5)) * 256)))
       · rw [if_pos c28] at H
         have c28b0 : decide (x64_3 < (Go.bits .or .i64 (wrap64 (rd l0 4)) (wrap64 ((wrap64 (rd l0 5)) * 256)))) = true := decide_eq_true c28
         clear c28
         replace H := Option.bind_eq_some_iff.mp H
         obtain ⟨⟨t195, t196⟩, A290, H⟩ := H
         (try dsimp only at H)
         have A29 := AM A290; clear A290
         by_cases c30 : x194000_3.length < 17592186044416
         rotate_left
         · rw [if_neg c30] at H
           exact absurd H (by simp)
         rw [if_pos c30] at H
         have LMc30 := AM c30; clear c30
         obtain ⟨y197, hy197⟩ : ∃ y_ : List Int, y_ = (x194000_3 ++ [wrap64 (wrap32 (t195))]) := ⟨_, rfl⟩
         replace H : (impl_DecodePicture.l0 k3 l0 (Go.bits .or .i64 (wrap64 (rd l0 4)) (wrap64 ((wrap64 (rd l0 5)) * 256))) (wrap64 ((Go.bits .or .i64 (wrap64 (rd l0 4)) (wrap64 ((wrap64 (rd l0 5)) * 256))) * (wrap64 (rd l0 6)))) (Go.bits .or .i64 (wrap64 (rd l0 4)) (wrap64 ((wrap64 (rd l0 5)) * 256))) (wrap64 (x64_3 + 1)) y197 (wrap64 (rd l0 6)) l0 t196) = some (r1, r2, r3, r4) := by first | (rw [hy197]; with_reducible exact H) | (have H2_ := (Option.bind_some _ _).symm.trans H; rw [hy197]; with_reducible exact H2_) | (have H2_ := (Option.bind_some _ _).symm.trans H; with_reducible exact H2_) | with_reducible exact H | (rw [hy197]; exact H) | exact H
         have Ny197 := AM hy197; clear hy197
         have H' := AM H
         clear H
         try go_wp2
         replace HO_194000 := AM (Kd.R_drew HO_194000.out); replace BK188 := AM (blk_drew BK188.out); replace BK193 := AM (blk_drew BK193.out); replace HI194 := AM (IsS117.drew HI194.out); replace HB := AM (below_drew1 HB.out)
         refine start_ (n := 10) (S := fun w' => w'.cell? ⟨gb193, 0, none⟩ = some (u194000) ∧ w'.cell? ⟨gb193, 1, none⟩ = some (.int .i64 (wrap64 (rd l0 6))) ∧ w'.cell? ⟨gb193, 2, none⟩ = some (.slice none 0 0)) (ds := [9]) #[false, false, false, false, false, false, false, false, false, false] (by kernel_rfl) rfl rfl ⟨(blk_cell BK193.out 0).trans rfl, (blk_cell BK193.out 1).trans rfl, (blk_cell BK193.out 2).trans rfl⟩ (fun hHeld => ?_); refine with_tabW impl_DecodePicture.tab11 impl_DecodePicture.bits11 (fun HT_ HW_ => ?_)
         generalize wr.drew = w31 at HO_194000 BK188 BK193 HI194 HB hHeld ⊢
         refine pure_ (i := 0) (N := some 66) (v := ?_) (a' := ?_) #[true, false, false, false, false, false, false, false, false, false] rfl rfl (any_of HT_.out (by kernel_rfl)) (fun _ _ _ h => h) (Or.inl ⟨by rfl, ?_⟩) ?_ ?_
         rotate_left
         · intro w'
           go_simp
           with_reducible rfl
         rotate_left
         · simp only [Act.put, sa, sb, sc, i64_w, i32_w]
           rfl
         refine pure_ (i := 2) (N := some 68) (v := ?_) (a' := ?_) #[true, false, true, false, false, false, false, false, false, false] rfl rfl (any_of HT_.out (by kernel_rfl)) (fun _ _ _ h => h) (Or.inl ⟨by rfl, ?_⟩) ?_ ?_
         rotate_left
         · intro w'
           go_simp
           with_reducible rfl
         rotate_left
         · simp only [Act.put, sa, sb, sc, i64_w, i32_w]
           rfl
         refine take_ (i := 1) (N := some 67) (v := ?_) (a' := ?_) #[true, true, true, false, false, false, false, false, false, false] rfl rfl (take_ofW HT_.out HW_.out (by kernel_rfl)) (fun _ _ _ h => h) (Or.inl ⟨by rfl, ?_⟩) hHeld ?_ ?_
         rotate_left
         · rintro w' ⟨s0, s1, s2⟩
           go_simp
           with_reducible rfl
         rotate_left
         · simp only [Act.put, sa, sb, sc, i64_w, i32_w]
           rfl
         refine one_ (i := 3) (N := some 69) #[true, true, true, true, false, false, false, false, false, false] rfl rfl (one_of HT_.out (by kernel_rfl)) (by decide) (fun K hK => ?_)
         refine goes_ Try.func82 (by kernel_rfl) rfl #[.pointer (some ⟨gb194, 0, none⟩), .int .i64 4] (by rfl) rfl rfl (by (try simp only [List.map_toArray, List.map_cons, List.map_nil]); first | done | rfl | (simp only [List.length_drop, List.length_take]; rfl)) ?_
         with_reducible refine (impl_bytesIn_num.calls k3 gb194 l0 x195001_3 4 t195 t196 w _ ?side1 ?side2 A29.out).mono ?_
         (case side1 => repeat (first | (with_reducible first | exact HI194.out | apply IsS117.alloc | apply IsS117.drewN | apply IsS117.drew | apply IsS117.set_1 | refine IsS117.far ?_ NB194_188.out _ | refine IsS117.far ?_ NB194_193.out _) | exact HI194.out))
         (case side2 => repeat (first | (with_reducible first | exact HB.out | apply below_alloc | apply pw_below_drewN | apply below_drew1 | refine below_set ?_ (IsS117.ge HI194.out) | refine below_set ?_ GE188.out | refine below_set ?_ GE193.out) | exact HB.out))
         rintro e w32 ⟨rfl, hi, hb, hk⟩
         refine ⟨_, rfl, ?_⟩
         replace HO_194000 := AM (Kd.R_mono (Kd.R_keep (IsS117.apart (show IsS117 w _ gb194 l0 x195001_3 from by repeat (first | (with_reducible first | exact HI194.out | apply IsS117.alloc | apply IsS117.drewN | apply IsS117.drew | apply IsS117.set_1 | refine IsS117.far ?_ NB194_188.out _ | refine IsS117.far ?_ NB194_193.out _) | exact HI194.out)) (pR HO_194000) (by decide)) hk (fun _ h => h.2)) (fun _ h => h.1)); replace BK188 := AM (KeepBut.blk hk (g' := gb188) (o := .cells #[.slice none 0 0, .int .i64 0, .slice none 0 0] 43 (0, 0)) (pB BK188) NB188_194.out (by simp)); replace BK193 := AM (KeepBut.blk hk (g' := gb193) (o := .cells #[u194000, .int .i64 (wrap64 (rd l0 6)), .slice none 0 0] 43 (0, 0)) (pB BK193) NB193_194.out (by simp)); replace HB := AM (hb); replace HI194 := AM (hi)
         (try clear hb)
         (try clear hb2)
         (try clear hk)
         (try clear hi)
         refine hK.out _ _ ⟨(blk_cell BK193.out 0).trans rfl, (blk_cell BK193.out 1).trans rfl, (blk_cell BK193.out 2).trans rfl⟩ (fun hHeld => ?_)
         clear hK K
         refine norm_ (a' := ?_) ?_ ?_
         rotate_left
         · show Act.put _ (some 69) _ = _
           simp only [Act.put, sa, sb, sc, i64_w, i32_w]
           rfl
         refine pure_ (i := 4) (N := some 70) (v := ?_) (a' := ?_) #[true, true, true, true, true, false, false, false, false, false] rfl rfl (any_of HT_.out (by kernel_rfl)) (fun _ _ _ h => h) (Or.inl ⟨by rfl, ?_⟩) ?_ ?_
         rotate_left
         · intro w'
           go_simp
           with_reducible rfl
         rotate_left
         · simp only [Act.put, sa, sb, sc, i64_w, i32_w]
           rfl
         refine pure_ (i := 5) (N := some 71) (v := ?_) (a' := ?_) #[true, true, true, true, true, true, false, false, false, false] rfl rfl (any_of HT_.out (by kernel_rfl)) (fun _ _ _ h => h) (Or.inl ⟨by rfl, ?_⟩) ?_ ?_
         rotate_left
         · intro w'
           go_simp
           with_reducible rfl
         rotate_left
         · simp only [Act.put, sa, sb, sc, i64_w, i32_w]
           rfl
         refine one_ (i := 6) (N := some 72) #[true, true, true, true, true, true, true, false, false, false] rfl rfl (one_of HT_.out (by kernel_rfl)) (by decide) (fun K hK => ?_)
         refine value_ (w1 := ?_) (v := ?_) (by rfl) rfl ?_ ?_
         rotate_left 2
         · go_simp
           constructor
           · rfl
           rfl
         refine hK.out _ _ ⟨(blk_cell (blk_alloc BK193.out _) 0).trans rfl, (blk_cell (blk_alloc BK193.out _) 1).trans rfl, (blk_cell (blk_alloc BK193.out _) 2).trans rfl⟩ (fun hHeld => ?_)
         clear hK K
         refine norm_ (a' := ?_) ?_ ?_
         rotate_left
         · show Act.put _ (some 72) _ = _
           simp only [Act.put, sa, sb, sc, i64_w, i32_w]
           rfl
         refine one_ (i := 7) (N := some 73) #[true, true, true, true, true, true, true, true, false, false] rfl rfl (one_of HT_.out (by kernel_rfl)) (by decide) (fun K hK => ?_)
         refine Kd.R_append_step (Kd.int .i64) (w0 := w) w.heap.size (by rfl) (.tmp 67) (.tmp 72) 36 3 (.int .i64 0) 8 rfl Try.underlying36 info3 rfl (by decide) (by omega) u194000 x194000_3 (wrap64 (wrap32 (t195))) [.int .i64 (wrap64 (wrap32 (t195)))] (fun _ => True) (fun _ => False) rfl rfl ?aP (fun _ hk => hk.elim) ?aF ?aO ?aB ?aS ?aL ?_
         (case aP => exact rfl)
         (case aB => exact (by repeat (first | (with_reducible first | exact HB.out | apply below_alloc | apply pw_below_drewN | apply below_drew1 | refine below_set ?_ (IsS117.ge HI194.out) | refine below_set ?_ GE188.out | refine below_set ?_ GE193.out) | exact HB.out)))
         (case aF => exact (fun _ _ => trivial))
         (case aO => exact (pR HO_194000))
         (case aS => exact (below_size (by repeat (first | (with_reducible first | exact HB.out | apply below_alloc | apply pw_below_drewN | apply below_drew1 | refine below_set ?_ (IsS117.ge HI194.out) | refine below_set ?_ GE188.out | refine below_set ?_ GE193.out) | exact HB.out))))
         (case aL => have := LMc30.out; omega)
         intro v198 w33 ho hb hg hat
         rw [← Ny197.out] at ho
         replace BK188 := AM (blk_grown (g := gb188) (o := .cells #[.slice none 0 0, .int .i64 0, .slice none 0 0] 43 (0, 0)) (pB BK188) hg (Kd.R_ne HO_194000.out BK188.out (by decide))); replace BK193 := AM (blk_grown (g := gb193) (o := .cells #[u194000, .int .i64 (wrap64 (rd l0 6)), .slice none 0 0] 43 (0, 0)) (pB BK193) hg (Kd.R_ne HO_194000.out BK193.out (by decide))); replace HI194 := AM (IsS117.grown (by repeat (first | (with_reducible first | exact HI194.out | apply IsS117.alloc | apply IsS117.drewN | apply IsS117.drew | apply IsS117.set_1 | refine IsS117.far ?_ NB194_188.out _ | refine IsS117.far ?_ NB194_193.out _) | exact HI194.out)) hg (IsS117.own_ne HI194.out HO_194000.out (by decide))); replace HB := AM (hb); have HO199 := AM (ho); clear HO_194000; clear ho hb hg hat
         obtain ⟨Ao34, co34, eo34⟩ := Kd.R_slice HO199.out
         (first | subst eo34 | (injection eo34 with f1_ f2_ f3_; have f4_ := f1_.symm; have f5_ := f3_.symm; clear f1_ f2_ f3_; subst f4_; subst f5_))
         refine hK.out _ _ ⟨(blk_cell BK193.out 0).trans rfl, (blk_cell BK193.out 1).trans rfl, (blk_cell BK193.out 2).trans rfl⟩ (fun hHeld => ?_)
         clear hK K
         refine norm_ (a' := ?_) ?_ ?_
         rotate_left
         · show Act.put _ (some 73) _ = _
           simp only [Act.put, sa, sb, sc, i64_w, i32_w]
           rfl
         refine pure_ (i := 8) (N := some 74) (v := ?_) (a' := ?_) #[true, true, true, true, true, true, true, true, true, false] rfl rfl (any_of HT_.out (by kernel_rfl)) (fun _ _ _ h => h) (Or.inl ⟨by rfl, ?_⟩) ?_ ?_
         rotate_left
         · intro w'
           go_simp
           with_reducible rfl
         rotate_left
         · simp only [Act.put, sa, sb, sc, i64_w, i32_w]
           rfl
         refine last_ (i := 9) (N := none) #[true, true, true, true, true, true, true, true, true, true] rfl rfl (one_of HT_.out (by kernel_rfl)) (by decide) (fun K hK => ?_)
         have hs35 : w33.cell? ⟨gb193, 0, none⟩ = some (u194000) := (blk_cell BK193.out 0).trans rfl
         have hfs35 := blk_frozen BK193.out 0; have hns35_0 := NB188_193.out; have hms35_0 := NB193_188.out
         refine skip_ (w1 := ?_) (by rfl) rfl ?_ ?_
         rotate_left
         · go_simp
           rfl
         refine hK.out _ _ ?_
         clear hK K
         refine done_ (done_of HT_.out (by kernel_rfl)) ?_
         try go_wp2
         go_roundg k3
         case measure => have := HJ1.out; have := HJ12.out; have := HK3.out; omega
         case rel => exact ⟨(wrap64 (x64_3 + 1)), (y197), (t196), (.slice Ao34 y197.length co34), (by first | rfl | (simp; done) | (simp [*]; done)), H', ⟨by have := HJ1.out; have := HJ12.out; have := HK3.out; omega⟩, ⟨by (with_reducible repeat (first | apply Kd.R_alloc | apply Kd.R_drewN | apply Kd.R_drew)); exact Kd.R_mono (Kd.R_far (p := ⟨gb193, 0, none⟩) (Kd.R_types HO199.out BK193.out (by decide)) (fun _ hk => hk.2) (.slice Ao34 y197.length co34)) (fun _ hk => trivial)⟩, ⟨by refine sB ?_; refine blk_far ?_ NB188_193.out _; refine sB ?_; exact BK188.out⟩, ⟨by refine sB ?_; refine blk_put (cs := #[u194000, .int .i64 (wrap64 (rd l0 6)), .slice none 0 0]) ?_ 0 _ rfl; refine sB ?_; exact BK193.out⟩, ⟨by repeat (first | (with_reducible first | exact HI194.out | apply IsS117.alloc | apply IsS117.drewN | apply IsS117.drew | apply IsS117.set_1 | refine IsS117.far ?_ NB194_188.out _ | refine IsS117.far ?_ NB194_193.out _) | exact HI194.out)⟩, ⟨by repeat (first | (with_reducible first | exact HB.out | apply below_alloc | apply pw_below_drewN | apply below_drew1 | refine below_set ?_ (IsS117.ge HI194.out) | refine below_set ?_ GE188.out | refine below_set ?_ GE193.out) | exact HB.out)⟩⟩
       rw [if_neg c28] at H
       have c28b0 : decide (x64_3 < (Go.bits .or .i64 (wrap64 (rd l0 4)) (wrap64 ((wrap64 (rd l0 5)) * 256)))) = false := decide_eq_false c28
       clear c28
       obtain ⟨ji36, hji36⟩ : ∃ j_ : Int, (wrap64 (7 + (wrap64 (4 * (Go.bits .or .i64 (wrap64 (rd l0 4)) (wrap64 ((wrap64 (rd l0 5)) * 256))))))) = j_ := ⟨_, rfl⟩
       replace H : (if 0 ≤ (ji36) then (if (ji36) ≤ (l0.length : Int) then (impl_DecodePicture.l1 k3 (wrap64 ((Go.bits .or .i64 (wrap64 (rd l0 4)) (wrap64 ((wrap64 (rd l0 5)) * 256))) * (wrap64 (rd l0 6)))) (l0.drop ((ji36) : Int).toNat) (wrap64 (8 * ((l0.drop ((ji36) : Int).toNat).length : Int))) 0 x194000_3 (wrap64 (rd l0 6)) ([] : List Bool)) else (none)) else (none)) = some (r1, r2, r3, r4) := by first | (rw [hji36] at H; exact H) | (simp only [hji36] at H ⊢; exact H)
       obtain ⟨yc1, hyc1⟩ : ∃ y_, y_ = (l0.drop ((ji36) : Int).toNat) := ⟨_, rfl⟩
       rw [← hyc1] at H
       replace hyc1 := AM hyc1
       have hji36w : (IntKind.i64.wrap (7 + (wrap64 (4 * (Go.bits .or .i64 (wrap64 (rd l0 4)) (wrap64 ((wrap64 (rd l0 5)) * 256))))))) = ji36 := (i64_w _).trans hji36
       by_cases c37 : 0 ≤ (ji36)
       rotate_left
       · rw [if_neg c37] at H
         exact absurd H (by simp)
       rw [if_pos c37] at H
       have c37b0 := eq_true c37
       have c37b1 : decide (0 ≤ (ji36)) = true := decide_eq_true c37
       clear c37
       by_cases c38 : (ji36) ≤ (l0.length : Int)
       rotate_left
       · rw [if_neg c38] at H
         exact absurd H (by simp)
       rw [if_pos c38] at H
       have c38b0 := eq_true c38
       have c38b1 : decide ((ji36) ≤ (l0.length : Int)) = true := decide_eq_true c38
       clear c38
       have H' := AM H
       clear H
       obtain ⟨i039, hi039, _, hsz39, _⟩ := info_parts info5
       obtain ⟨A39, hcut39, hA39, hC39⟩ := print_drop_of (P := Try.prog) (Value.int .u8) 0 41 5 .i64 Try.underlying41 hi039 hsz39 (some ad190) c0 l0 (ji36) (of_decide_eq_true (by first | (with_reducible assumption) | assumption)) (of_decide_eq_true (by first | (with_reducible assumption) | assumption)) HC0.out
       try rw [← hyc1.out] at hcut39
       try rw [← hyc1.out] at hA39
       try rw [← hyc1.out] at hC39
       have HR200 := AM (Kd.C_of_reads (h1 := fun _ => rfl) (hA39 _ (Kd.reads_of_C HR0.out))); have HC200 := AM hC39; clear hA39 hC39 hi039 hsz39
       go_wp2
       go_loopg [84] k3 (fun kq v84 w' => ∃ (x84_4 : Int) (x189001_4 : Int) (x194002_4 : List Bool) (u194002 : Value), v84 = .int .i64 x84_4 ∧ Aside0 (impl_DecodePicture.l1 kq (wrap64 ((Go.bits .or .i64 (wrap64 (rd l0 4)) (wrap64 ((wrap64 (rd l0 5)) * 256))) * (wrap64 (rd l0 6)))) yc1 (wrap64 (8 * (yc1.length : Int))) x84_4 x194000_3 (wrap64 (rd l0 6)) x194002_4 = some (r1, r2, r3, r4)) ∧ Aside0 (kq ≤ k3) ∧ Aside0 (Kd.R (Kd.int .i64) 3 w' w.heap.size (fun _ => True) u194000 x194000_3) ∧ Aside0 (Kd.R Kd.bool 4 w' w.heap.size (fun _ => True) u194002 x194002_4) ∧ Aside0 (w'.heap[gb188]? = some (.cells #[(.slice none 0 0), .int .i64 x189001_4, (.slice none 0 0)] 43 (0, 0))) ∧ Aside0 (w'.heap[gb193]? = some (.cells #[u194000, .int .i64 (wrap64 (rd l0 6)), u194002] 43 (0, 0))) ∧ Aside0 (Below w.heap.size w w'))
       case atStart => exact ⟨(0), (0), (([] : List Bool)), (.slice none 0 0), (by first | rfl | (simp; done) | (simp [*]; done)), H', ⟨Nat.le_refl _⟩, ⟨by (with_reducible repeat (first | apply Kd.R_alloc | apply Kd.R_drewN | apply Kd.R_drew)); exact HO_194000.out⟩, ⟨by first | exact Kd.R_nil _ _ _ _ _ | exact Kd.N_nil _ _ _ _ _ | exact Kd.V_nil _ _ _ _ _ | exact Kd.Q_nil _ _ _ _ _ | exact Kd.S_nil _ _ _ _ _⟩, ⟨by refine sB ?_; exact BK188.out⟩, ⟨by refine sB ?_; exact BK193.out⟩, ⟨by repeat (first | (with_reducible first | exact HB.out | apply below_alloc | apply pw_below_drewN | apply below_drew1 | refine below_set ?_ (IsS117.ge HI194.out) | refine below_set ?_ GE188.out | refine below_set ?_ GE193.out) | exact HB.out)⟩⟩
       case round =>
        clear H'
        try clear c1
        try clear p1
        try clear q1
        try clear hx1
        try clear qi1
        try clear c2
        try clear p2
        try clear c3
        try clear p3
        try clear c4
        try clear c4b0
        try clear c4b1
        try clear c5
        try clear c5b0
        try clear c5b1
        try clear p6
        try clear hcv7
        try clear c8
        try clear c10
        try clear c10b0
        try clear c10b1
        try clear c11
        try clear c11b0
        try clear c11b1
        try clear c12
        try clear c12b0
        try clear c12b1
        try clear c16
        try clear c18
        try clear c18b0
        try clear c19
        try clear c19b0
        try clear p19
        try clear q19
        try clear hx19
        try clear qi19
        try clear c20
        try clear c22
        try clear c24
        try clear c25
        try clear c28
        try clear c28b0
        try clear c30
        try clear p32
        try clear c37
        try clear c37b0
        try clear c37b1
        try clear c38
        try clear c38b0
        try clear c38b1
        try clear hcz17_0
        try clear hcz17_1
        try clear hcz17_2
        try clear hcz21_0
        try clear hcz21_1
        try clear hcz21_2
        try clear hcz23_0
        try clear hcz23_1
        try clear hcz23_2
        try clear hcz26_0
        try clear hcz26_1
        try clear hcz26_2
        try clear hcz9_0
        try clear hcz9_1
        try clear hcz9_2
        try clear hfz17_0
        try clear hfz17_1
        try clear hfz17_2
        try clear hfz21_0
        try clear hfz21_1
        try clear hfz21_2
        try clear hfz23_0
        try clear hfz23_1
        try clear hfz23_2
        try clear hfz26_0
        try clear hfz26_1
        try clear hfz26_2
        try clear hfz9_0
        try clear hfz9_1
        try clear hfz9_2
        try clear hx190_0
        try clear hx191_0
        try clear hx192_0
        try clear p1
        try clear p19
        try clear p190
        try clear p191
        try clear p192
        try clear p2
        try clear p6
        try clear q1
        try clear q19
        try clear q190
        try clear q191
        try clear q192
        obtain ⟨x84_4, x189001_4, x194002_4, u194002, rfl, HA, HK4, HO_194000, HO_194002, BK188, BK193, HB⟩ := hrel
        cases gk with
        | zero => exact absurd HA.out (by simp [impl_DecodePicture.l1])
        | succ k4 =>
         have H := HA.out; clear HA
         simp only [impl_DecodePicture.l1] at H
         by_cases c40 : x84_4 < (wrap64 (8 * (yc1.length : Int)))
         rotate_left
         · rw [if_neg c40] at H
           have c40b0 : decide (x84_4 < (wrap64 (8 * (yc1.length : Int)))) = false := decide_eq_false c40
           clear c40
           replace H := Option.bind_eq_some_iff.mp H
           obtain ⟨t201, A570, H⟩ := H
           (try dsimp only at H)
           have A57 := AM A570; clear A570
           by_cases c58 : t201 = true
           · subst c58
             have H1 : (some (x194000_3, (wrap64 (rd l0 6)), x194002_4, 0)) = some (r1, r2, r3, r4) := by rw [if_pos rfl] at H; exact H
             clear H; have H := H1; clear H1
             simp only [Option.some.injEq, Prod.mk.injEq] at H
             obtain ⟨rfl, rfl, rfl, rfl⟩ := H
             have hnb59 := NB193_188.out; have hnc59 := NB188_193.out
             have hcz60_0 : wr.cell? ⟨gb193, 0, none⟩ = some (u194000) := (blk_cell BK193.out 0).trans rfl
             have hcz60_1 : wr.cell? ⟨gb193, 1, none⟩ = some (.int .i64 (wrap64 (rd l0 6))) := (blk_cell BK193.out 1).trans rfl
             have hcz60_2 : wr.cell? ⟨gb193, 2, none⟩ = some (u194002) := (blk_cell BK193.out 2).trans rfl
             have hfz60_0 := blk_frozen BK193.out 0; have hfz60_1 := blk_frozen BK193.out 1; have hfz60_2 := blk_frozen BK193.out 2
             obtain ⟨Ao61, co61, eo61⟩ := Kd.R_slice HO_194000.out
             subst eo61
             obtain ⟨Ao62, co62, eo62⟩ := Kd.R_slice HO_194002.out
             subst eo62
             go_wp2_with (first | ((with_reducible refine gate_callee (f := 70) rfl ?_); refine goesL_ (some 110) rfl rfl Try.func70 (by kernel_rfl) rfl #[.agg #[.slice Ao61 x194000_3.length co61, .int .i64 (wrap64 (rd l0 6)), .slice Ao62 x194002_4.length co62]] rfl (by (try simp only [List.map_toArray, List.map_cons, List.map_nil]); first | done | rfl | (simp only [List.length_drop, List.length_take]; rfl)) ?_; (with_reducible refine (impl_validPicture.calls k4 _ _ x194000_3 (wrap64 (rd l0 6)) _ _ x194002_4 true _ ?side1 ?side2 ?side3 ?side4 A57.out).mono ?_); (case side1 => exact cR HO_194000); (case side2 => exact (Kd.R_reads' HO_194000.out).2.1); (case side3 => exact cR HO_194002); (case side4 => exact (Kd.R_reads' HO_194002.out).2.1); rintro e w63 ⟨rfl, hb⟩; refine ⟨_, rfl, ?_⟩; replace HO_194000 := AM (Kd.R_below (pR HO_194000) hb); replace HO_194002 := AM (Kd.R_below (pR HO_194002) hb); replace BK188 := bB BK188 hb; replace BK193 := bB BK193 hb; replace HB := AM (below_step (pH HB) hb); (try clear hb); (try clear hb2); (try clear hk); (try clear hi); have ⟨hcz64_0, hcz64_1, hcz64_2, hfz64_0, hfz64_1, hfz64_2⟩ := z3 BK193; have ⟨hcz65_0, hcz65_1, hcz65_2, hfz65_0, hfz65_1, hfz65_2⟩ := z3 BK188))
             refine bodyPost_ret (results_ct rfl _ _ gb188 43 #[.slice Ao61 x194000_3.length co61, .int .i64 (wrap64 (rd l0 6)), .slice Ao62 x194002_4.length co62] (0, 0) _ rfl (by refine sB ?_; refine blk_put (cs := #[.slice Ao61 x194000_3.length co61, .int .i64 (wrap64 (rd l0 6)), .slice none 0 0]) ?_ 2 _ rfl; refine sB ?_; refine blk_put (cs := #[.slice Ao61 x194000_3.length co61, .int .i64 x189001_4, .slice none 0 0]) ?_ 1 _ rfl; refine sB ?_; refine blk_put (cs := #[.slice none 0 0, .int .i64 x189001_4, .slice none 0 0]) ?_ 0 _ rfl; refine sB ?_; exact BK188.out) Try.underlying43 rfl (by kernel_rfl)) rfl ?_
             exact ⟨_, _, by first | rfl | (simp [errW_none, errW_some] <;> rfl) | (simp only [← hji36]; first | rfl | (simp [errW_none, errW_some] <;> rfl)) | (simp [*, errW_none, errW_some] <;> rfl), by (with_reducible repeat (first | apply Kd.R_alloc | apply Kd.R_drewN | apply Kd.R_drew)); exact Kd.R_mono (Kd.R_far (p := ⟨gb188, 2, none⟩) (Kd.R_far (p := ⟨gb188, 1, none⟩) (Kd.R_far (p := ⟨gb188, 0, none⟩) (Kd.R_types HO_194000.out BK188.out (by decide)) (fun _ hk => hk.2) (.slice Ao61 x194000_3.length co61)) (fun _ hk => hk.2) (.int .i64 (wrap64 (rd l0 6)))) (fun _ hk => hk.2) (.slice Ao62 x194002_4.length co62)) (fun _ hk => trivial), by (with_reducible repeat (first | apply Kd.R_alloc | apply Kd.R_drewN | apply Kd.R_drew)); exact Kd.R_mono (Kd.R_far (p := ⟨gb188, 2, none⟩) (Kd.R_far (p := ⟨gb188, 1, none⟩) (Kd.R_far (p := ⟨gb188, 0, none⟩) (Kd.R_types HO_194002.out BK188.out (by decide)) (fun _ hk => hk.2) (.slice Ao61 x194000_3.length co61)) (fun _ hk => hk.2) (.int .i64 (wrap64 (rd l0 6)))) (fun _ hk => hk.2) (.slice Ao62 x194002_4.length co62)) (fun _ hk => trivial), pH HB⟩
           replace c58 := Bool.eq_false_iff.mpr c58
           subst c58
           have H1 : (some (([] : List Int), 0, ([] : List Bool), 1)) = some (r1, r2, r3, r4) := by rw [if_neg (show ¬ (false = true) by decide)] at H; exact H
           clear H; have H := H1; clear H1
           simp only [Option.some.injEq, Prod.mk.injEq] at H
           obtain ⟨rfl, rfl, rfl, rfl⟩ := H
           have hnb66 := NB193_188.out; have hnc66 := NB188_193.out
           have hcz67_0 : wr.cell? ⟨gb193, 0, none⟩ = some (u194000) := (blk_cell BK193.out 0).trans rfl
           have hcz67_1 : wr.cell? ⟨gb193, 1, none⟩ = some (.int .i64 (wrap64 (rd l0 6))) := (blk_cell BK193.out 1).trans rfl
           have hcz67_2 : wr.cell? ⟨gb193, 2, none⟩ = some (u194002) := (blk_cell BK193.out 2).trans rfl
           have hfz67_0 := blk_frozen BK193.out 0; have hfz67_1 := blk_frozen BK193.out 1; have hfz67_2 := blk_frozen BK193.out 2
           obtain ⟨Ao68, co68, eo68⟩ := Kd.R_slice HO_194000.out
           subst eo68
           obtain ⟨Ao69, co69, eo69⟩ := Kd.R_slice HO_194002.out
           subst eo69
           go_wp2_with (first | ((with_reducible refine gate_callee (f := 70) rfl ?_); refine goesL_ (some 110) rfl rfl Try.func70 (by kernel_rfl) rfl #[.agg #[.slice Ao68 x194000_3.length co68, .int .i64 (wrap64 (rd l0 6)), .slice Ao69 x194002_4.length co69]] rfl (by (try simp only [List.map_toArray, List.map_cons, List.map_nil]); first | done | rfl | (simp only [List.length_drop, List.length_take]; rfl)) ?_; (with_reducible refine (impl_validPicture.calls k4 _ _ x194000_3 (wrap64 (rd l0 6)) _ _ x194002_4 false _ ?side1 ?side2 ?side3 ?side4 A57.out).mono ?_); (case side1 => exact cR HO_194000); (case side2 => exact (Kd.R_reads' HO_194000.out).2.1); (case side3 => exact cR HO_194002); (case side4 => exact (Kd.R_reads' HO_194002.out).2.1); rintro e w70 ⟨rfl, hb⟩; refine ⟨_, rfl, ?_⟩; replace HO_194000 := AM (Kd.R_below (pR HO_194000) hb); replace HO_194002 := AM (Kd.R_below (pR HO_194002) hb); replace BK188 := bB BK188 hb; replace BK193 := bB BK193 hb; replace HB := AM (below_step (pH HB) hb); (try clear hb); (try clear hb2); (try clear hk); (try clear hi); have ⟨hcz71_0, hcz71_1, hcz71_2, hfz71_0, hfz71_1, hfz71_2⟩ := z3 BK188))
           refine bodyPost_ret (results_ct rfl _ _ gb188 43 #[.slice none 0 0, .int .i64 0, .slice none 0 0] (0, 0) _ rfl (by refine sB ?_; refine blk_put (cs := #[.slice none 0 0, .int .i64 0, .slice none 0 0]) ?_ 2 _ rfl; refine sB ?_; refine blk_put (cs := #[.slice none 0 0, .int .i64 x189001_4, .slice none 0 0]) ?_ 1 _ rfl; refine sB ?_; refine blk_put (cs := #[.slice none 0 0, .int .i64 x189001_4, .slice none 0 0]) ?_ 0 _ rfl; refine sB ?_; exact BK188.out) Try.underlying43 rfl (by kernel_rfl)) rfl ?_
           exact ⟨_, _, by first | rfl | (simp [errW_none, errW_some] <;> rfl) | (simp only [← hji36]; first | rfl | (simp [errW_none, errW_some] <;> rfl)) | (simp [*, errW_none, errW_some] <;> rfl), by first | exact Kd.R_nil _ _ _ _ _ | exact Kd.N_nil _ _ _ _ _ | exact Kd.V_nil _ _ _ _ _ | exact Kd.Q_nil _ _ _ _ _ | exact Kd.S_nil _ _ _ _ _, by first | exact Kd.R_nil _ _ _ _ _ | exact Kd.N_nil _ _ _ _ _ | exact Kd.V_nil _ _ _ _ _ | exact Kd.Q_nil _ _ _ _ _ | exact Kd.S_nil _ _ _ _ _, pH HB⟩
         rw [if_pos c40] at H
         have c40b0 : decide (x84_4 < (wrap64 (8 * (yc1.length : Int)))) = true := decide_eq_true c40
         clear c40
         obtain ⟨ji41, hji41⟩ : ∃ j_ : Int, (wrap64 (Int.tdiv x84_4 8)) = j_ := ⟨_, rfl⟩
         replace H : (if 0 ≤ (ji41) then (if (ji41) < (yc1.length : Int) then (if 0 ≤ (Int.tmod x84_4 8) then (if x84_4 < (wrap64 ((Go.bits .or .i64 (wrap64 (rd l0 4)) (wrap64 ((wrap64 (rd l0 5)) * 256))) * (wrap64 (rd l0 6)))) then (if x194002_4.length < 140737488355328 then (impl_DecodePicture.l1 k4 (wrap64 ((Go.bits .or .i64 (wrap64 (rd l0 4)) (wrap64 ((wrap64 (rd l0 5)) * 256))) * (wrap64 (rd l0 6)))) yc1 (wrap64 (8 * (yc1.length : Int))) (wrap64 (x84_4 + 1)) x194000_3 (wrap64 (rd l0 6)) (x194002_4 ++ [((Go.bits .and .u8 (shr .u8 (rd yc1 (ji41)) (Int.tmod x84_4 8)) 1) == 1)])) else (none)) else (if (Go.bits .and .u8 (shr .u8 (rd yc1 (ji41)) (Int.tmod x84_4 8)) 1) = 1 then (some (([] : List Int), 0, ([] : List Bool), 1)) else (impl_DecodePicture.l1 k4 (wrap64 ((Go.bits .or .i64 (wrap64 (rd l0 4)) (wrap64 ((wrap64 (rd l0 5)) * 256))) * (wrap64 (rd l0 6)))) yc1 (wrap64 (8 * (yc1.length : Int))) (wrap64 (x84_4 + 1)) x194000_3 (wrap64 (rd l0 6)) x194002_4))) else (none)) else (none)) else (none)) = some (r1, r2, r3, r4) := by first | (rw [hji41] at H; exact H) | (simp only [hji41] at H ⊢; exact H)
         have hji41w : (IntKind.i64.wrap (Int.tdiv x84_4 8)) = ji41 := (i64_w _).trans hji41
         by_cases c42 : 0 ≤ (ji41)
         rotate_left
         · rw [if_neg c42] at H
           exact absurd H (by simp)
         rw [if_pos c42] at H
         have c42b0 : decide (0 ≤ (ji41)) = true := decide_eq_true c42
         clear c42
         by_cases c43 : (ji41) < (yc1.length : Int)
         rotate_left
         · rw [if_neg c43] at H
           exact absurd H (by simp)
         rw [if_pos c43] at H
         have c43b0 : decide ((ji41) < (yc1.length : Int)) = true := decide_eq_true c43
         clear c43
         obtain ⟨ji44, hji44⟩ : ∃ j_ : Int, (Int.tmod x84_4 8) = j_ := ⟨_, rfl⟩
         replace H : (if 0 ≤ (ji44) then (if x84_4 < (wrap64 ((Go.bits .or .i64 (wrap64 (rd l0 4)) (wrap64 ((wrap64 (rd l0 5)) * 256))) * (wrap64 (rd l0 6)))) then (if x194002_4.length < 140737488355328 then (impl_DecodePicture.l1 k4 (wrap64 ((Go.bits .or .i64 (wrap64 (rd l0 4)) (wrap64 ((wrap64 (rd l0 5)) * 256))) * (wrap64 (rd l0 6)))) yc1 (wrap64 (8 * (yc1.length : Int))) (wrap64 (x84_4 + 1)) x194000_3 (wrap64 (rd l0 6)) (x194002_4 ++ [((Go.bits .and .u8 (shr .u8 (rd yc1 (ji41)) (ji44)) 1) == 1)])) else (none)) else (if (Go.bits .and .u8 (shr .u8 (rd yc1 (ji41)) (ji44)) 1) = 1 then (some (([] : List Int), 0, ([] : List Bool), 1)) else (impl_DecodePicture.l1 k4 (wrap64 ((Go.bits .or .i64 (wrap64 (rd l0 4)) (wrap64 ((wrap64 (rd l0 5)) * 256))) * (wrap64 (rd l0 6)))) yc1 (wrap64 (8 * (yc1.length : Int))) (wrap64 (x84_4 + 1)) x194000_3 (wrap64 (rd l0 6)) x194002_4))) else (none)) = some (r1, r2, r3, r4) := by first | (rw [hji44] at H; exact H) | (simp only [hji44] at H ⊢; exact H)
         by_cases c45 : 0 ≤ (ji44)
         rotate_left
         · rw [if_neg c45] at H
           exact absurd H (by simp)
         rw [if_pos c45] at H
         have c45b0 := eq_true c45
         have c45b1 : decide (0 ≤ (ji44)) = true := decide_eq_true c45
         clear c45
         obtain ⟨ji46, hji46⟩ : ∃ j_ : Int, (shr .u8 (rd yc1 (ji41)) (ji44)) = j_ := ⟨_, rfl⟩
         replace H : (if x84_4 < (wrap64 ((Go.bits .or .i64 (wrap64 (rd l0 4)) (wrap64 ((wrap64 (rd l0 5)) * 256))) * (wrap64 (rd l0 6)))) then (if x194002_4.length < 140737488355328 then (impl_DecodePicture.l1 k4 (wrap64 ((Go.bits .or .i64 (wrap64 (rd l0 4)) (wrap64 ((wrap64 (rd l0 5)) * 256))) * (wrap64 (rd l0 6)))) yc1 (wrap64 (8 * (yc1.length : Int))) (wrap64 (x84_4 + 1)) x194000_3 (wrap64 (rd l0 6)) (x194002_4 ++ [((Go.bits .and .u8 (ji46) 1) == 1)])) else (none)) else (if (Go.bits .and .u8 (ji46) 1) = 1 then (some (([] : List Int), 0, ([] : List Bool), 1)) else (impl_DecodePicture.l1 k4 (wrap64 ((Go.bits .or .i64 (wrap64 (rd l0 4)) (wrap64 ((wrap64 (rd l0 5)) * 256))) * (wrap64 (rd l0 6)))) yc1 (wrap64 (8 * (yc1.length : Int))) (wrap64 (x84_4 + 1)) x194000_3 (wrap64 (rd l0 6)) x194002_4))) = some (r1, r2, r3, r4) := by first | (rw [hji46] at H; exact H) | (simp only [hji46] at H ⊢; exact H)
         have hji46_ : ((rd yc1 (ji41)) / 2 ^ min (ji44).toNat 8) = ji46 := hji46
         have hji46z : (ji44) ≤ 8 → ((rd yc1 (ji41)) / 2 ^ (ji44).toNat) = ji46 := shr_small hji46
         by_cases c47 : x84_4 < (wrap64 ((Go.bits .or .i64 (wrap64 (rd l0 4)) (wrap64 ((wrap64 (rd l0 5)) * 256))) * (wrap64 (rd l0 6))))
         · rw [if_pos c47] at H
           have c47b0 : decide (x84_4 < (wrap64 ((Go.bits .or .i64 (wrap64 (rd l0 4)) (wrap64 ((wrap64 (rd l0 5)) * 256))) * (wrap64 (rd l0 6))))) = true := decide_eq_true c47
           clear c47
           by_cases c48 : x194002_4.length < 140737488355328
           rotate_left
           · rw [if_neg c48] at H
             exact absurd H (by simp)
           rw [if_pos c48] at H
           have LMc48 := AM c48; clear c48
           obtain ⟨y203, hy203⟩ : ∃ y_ : List Bool, y_ = (x194002_4 ++ [((Go.bits .and .u8 (ji46) 1) == 1)]) := ⟨_, rfl⟩
           replace H : (impl_DecodePicture.l1 k4 (wrap64 ((Go.bits .or .i64 (wrap64 (rd l0 4)) (wrap64 ((wrap64 (rd l0 5)) * 256))) * (wrap64 (rd l0 6)))) yc1 (wrap64 (8 * (yc1.length : Int))) (wrap64 (x84_4 + 1)) x194000_3 (wrap64 (rd l0 6)) y203) = some (r1, r2, r3, r4) := by first | (rw [hy203]; with_reducible exact H) | (have H2_ := (Option.bind_some _ _).symm.trans H; rw [hy203]; with_reducible exact H2_) | (have H2_ := (Option.bind_some _ _).symm.trans H; with_reducible exact H2_) | with_reducible exact H | (rw [hy203]; exact H) | exact H
           have Ny203 := AM hy203; clear hy203
           have H' := AM H
           clear H
           have p202 : 0 ≤ ((ji41) : Int) := of_decide_eq_true (by first | (with_reducible assumption) | assumption)
           have q202 : (ji41) < (yc1.length : Int) := of_decide_eq_true (by first | (with_reducible assumption) | assumption)
           obtain ⟨ad202, e202, hx202_0⟩ := Kd.at_int HR200.out (ji41) p202 q202
           cases e202
           replace hx202_0 := (HB.out.cell (World.block_lt_of_cell? w _ hx202_0)).trans hx202_0; replace p202 := eq_true p202; replace q202 := eq_true q202; have hnb49 := NB193_188.out; have hnc49 := NB188_193.out
           have hcz50_0 : wr.cell? ⟨gb193, 0, none⟩ = some (u194000) := (blk_cell BK193.out 0).trans rfl
           have hcz50_1 : wr.cell? ⟨gb193, 1, none⟩ = some (.int .i64 (wrap64 (rd l0 6))) := (blk_cell BK193.out 1).trans rfl
           have hcz50_2 : wr.cell? ⟨gb193, 2, none⟩ = some (u194002) := (blk_cell BK193.out 2).trans rfl
           have hfz50_0 := blk_frozen BK193.out 0; have hfz50_1 := blk_frozen BK193.out 1; have hfz50_2 := blk_frozen BK193.out 2
           go_wp2_with (first | ((with_reducible refine gate_builtin (b := .append) (xs := #[.tmp 101, .tmp 103]) rfl ?_); (try (refine gate_guard (by rfl) ?_; dsimp only)); at_builtin; refine Kd.R_append Kd.bool (w0 := w) w.heap.size rfl (.tmp 101) (.tmp 103) 37 4 (.bool false) 1 rfl Try.underlying37 info4 rfl (by decide) (by omega) u194002 x194002_4 ((Go.bits .and .u8 (ji46) 1) == 1) [.bool ((Go.bits .and .u8 (ji46) 1) == 1)] (fun _ => True) (fun _ => False) rfl rfl ?aP (fun _ hk => hk.elim) ?aF ?aO ?aB ?aS ?aL ?_; (case aP => exact rfl); (case aB => exact (pH HB)); (case aF => exact (fun _ _ => trivial)); (case aO => exact (pR HO_194002)); (case aS => exact (below_size (pH HB))); (case aL => have := LMc48.out; omega); intro v204 w51 ho hb hg hat; rw [← Ny203.out] at ho; replace HO_194000 := AM (Kd.R_over' (pR HO_194000) (Kd.R_typed (pR HO_194002)) (by decide) hg); replace BK188 := AM (blk_grown (g := gb188) (o := .cells #[.slice none 0 0, .int .i64 x189001_4, .slice none 0 0] 43 (0, 0)) (pB BK188) hg (Kd.R_ne HO_194002.out BK188.out (by decide))); replace BK193 := AM (blk_grown (g := gb193) (o := .cells #[u194000, .int .i64 (wrap64 (rd l0 6)), u194002] 43 (0, 0)) (pB BK193) hg (Kd.R_ne HO_194002.out BK193.out (by decide))); replace HB := AM (hb); have HO205 := AM (ho); clear HO_194002; clear ho hb hg hat; obtain ⟨Ao52, co52, eo52⟩ := Kd.R_slice HO205.out; subst eo52; have ⟨hcz53_0, hcz53_1, hcz53_2, hfz53_0, hfz53_1, hfz53_2⟩ := z3 BK193))
           go_roundg k4
           case measure => have := HJ1.out; have := HJ12.out; have := HK3.out; have := HK4.out; omega
           case rel => exact ⟨(wrap64 (x84_4 + 1)), (x189001_4), (y203), (.slice Ao52 y203.length co52), (by first | rfl | (simp; done) | (simp [*]; done)), H', ⟨by have := HJ1.out; have := HJ12.out; have := HK3.out; have := HK4.out; omega⟩, ⟨by (with_reducible repeat (first | apply Kd.R_alloc | apply Kd.R_drewN | apply Kd.R_drew)); exact Kd.R_mono (Kd.R_far (p := ⟨gb193, 2, none⟩) (Kd.R_types HO_194000.out BK193.out (by decide)) (fun _ hk => hk.2) (.slice Ao52 y203.length co52)) (fun _ hk => trivial)⟩, ⟨by (with_reducible repeat (first | apply Kd.R_alloc | apply Kd.R_drewN | apply Kd.R_drew)); exact Kd.R_mono (Kd.R_far (p := ⟨gb193, 2, none⟩) (Kd.R_types HO205.out BK193.out (by decide)) (fun _ hk => hk.2) (.slice Ao52 y203.length co52)) (fun _ hk => trivial)⟩, ⟨by refine sB ?_; refine blk_far ?_ NB188_193.out _; refine sB ?_; exact BK188.out⟩, ⟨by refine sB ?_; refine blk_put (cs := #[u194000, .int .i64 (wrap64 (rd l0 6)), u194002]) ?_ 2 _ rfl; refine sB ?_; exact BK193.out⟩, ⟨pH HB⟩⟩
         rw [if_neg c47] at H
         have c47b0 : decide (x84_4 < (wrap64 ((Go.bits .or .i64 (wrap64 (rd l0 4)) (wrap64 ((wrap64 (rd l0 5)) * 256))) * (wrap64 (rd l0 6))))) = false := decide_eq_false c47
         clear c47
         by_cases c54 : (Go.bits .and .u8 (ji46) 1) = 1
         rotate_left
         · rw [if_neg c54] at H
           have c54b0 : ((Go.bits .and .u8 (ji46) 1) == 1) = false := beq_eq_false_iff_ne.mpr c54
           have c54b1 : ((Go.bits .and .u8 (ji46) 1) != 1) = true := bne_iff_ne.mpr c54
           have H' := AM H
           clear H
           have p202 : 0 ≤ ((ji41) : Int) := of_decide_eq_true (by first | (with_reducible assumption) | assumption)
           have q202 : (ji41) < (yc1.length : Int) := of_decide_eq_true (by first | (with_reducible assumption) | assumption)
           obtain ⟨ad202, e202, hx202_0⟩ := Kd.at_int HR200.out (ji41) p202 q202
           cases e202
           replace hx202_0 := (HB.out.cell (World.block_lt_of_cell? w _ hx202_0)).trans hx202_0; replace p202 := eq_true p202; replace q202 := eq_true q202
           go_wp2
           go_roundg k4
           case measure => have := HJ1.out; have := HJ12.out; have := HK3.out; have := HK4.out; omega
           case rel => exact ⟨(wrap64 (x84_4 + 1)), (x189001_4), (x194002_4), (u194002), (by first | rfl | (simp; done) | (simp [*]; done)), H', ⟨by have := HJ1.out; have := HJ12.out; have := HK3.out; have := HK4.out; omega⟩, ⟨by (with_reducible repeat (first | apply Kd.R_alloc | apply Kd.R_drewN | apply Kd.R_drew)); exact HO_194000.out⟩, ⟨by (with_reducible repeat (first | apply Kd.R_alloc | apply Kd.R_drewN | apply Kd.R_drew)); exact HO_194002.out⟩, ⟨by refine sB ?_; exact BK188.out⟩, ⟨by refine sB ?_; exact BK193.out⟩, ⟨pH HB⟩⟩
         rw [if_pos c54] at H
         have c54b0 : ((Go.bits .and .u8 (ji46) 1) == 1) = true := beq_iff_eq.mpr c54
         have c54b1 : ((Go.bits .and .u8 (ji46) 1) != 1) = false := bne_eq_false_iff_eq.mpr c54
         clear c54
         simp only [Option.some.injEq, Prod.mk.injEq] at H
         obtain ⟨rfl, rfl, rfl, rfl⟩ := H
         have p202 : 0 ≤ ((ji41) : Int) := of_decide_eq_true (by first | (with_reducible assumption) | assumption)
         have q202 : (ji41) < (yc1.length : Int) := of_decide_eq_true (by first | (with_reducible assumption) | assumption)
         obtain ⟨ad202, e202, hx202_0⟩ := Kd.at_int HR200.out (ji41) p202 q202
         cases e202
         replace hx202_0 := (HB.out.cell (World.block_lt_of_cell? w _ hx202_0)).trans hx202_0; replace p202 := eq_true p202; replace q202 := eq_true q202; have hnb55 := NB188_193.out; have hnc55 := NB193_188.out
         have hcz56_0 : wr.cell? ⟨gb188, 0, none⟩ = some (.slice none 0 0) := (blk_cell BK188.out 0).trans rfl
         have hcz56_1 : wr.cell? ⟨gb188, 1, none⟩ = some (.int .i64 x189001_4) := (blk_cell BK188.out 1).trans rfl
         have hcz56_2 : wr.cell? ⟨gb188, 2, none⟩ = some (.slice none 0 0) := (blk_cell BK188.out 2).trans rfl
         have hfz56_0 := blk_frozen BK188.out 0; have hfz56_1 := blk_frozen BK188.out 1; have hfz56_2 := blk_frozen BK188.out 2
         go_wp2
         refine bodyPost_ret (results_ct rfl _ _ gb188 43 #[.slice none 0 0, .int .i64 0, .slice none 0 0] (0, 0) _ rfl (by refine sB ?_; refine blk_put (cs := #[.slice none 0 0, .int .i64 0, .slice none 0 0]) ?_ 2 _ rfl; refine sB ?_; refine blk_put (cs := #[.slice none 0 0, .int .i64 x189001_4, .slice none 0 0]) ?_ 1 _ rfl; refine sB ?_; refine blk_put (cs := #[.slice none 0 0, .int .i64 x189001_4, .slice none 0 0]) ?_ 0 _ rfl; refine sB ?_; exact BK188.out) Try.underlying43 rfl (by kernel_rfl)) rfl ?_
         exact ⟨_, _, by first | rfl | (simp [errW_none, errW_some] <;> rfl) | (simp only [← hji36, ← hji41, ← hji44, ← hji46]; first | rfl | (simp [errW_none, errW_some] <;> rfl)) | (simp [*, errW_none, errW_some] <;> rfl), by first | exact Kd.R_nil _ _ _ _ _ | exact Kd.N_nil _ _ _ _ _ | exact Kd.V_nil _ _ _ _ _ | exact Kd.Q_nil _ _ _ _ _ | exact Kd.S_nil _ _ _ _ _, by first | exact Kd.R_nil _ _ _ _ _ | exact Kd.N_nil _ _ _ _ _ | exact Kd.V_nil _ _ _ _ _ | exact Kd.Q_nil _ _ _ _ _ | exact Kd.S_nil _ _ _ _ _, pH HB⟩
end Go.Proofs.Ytcpdeenhjodmfaa.QDecodePicture
