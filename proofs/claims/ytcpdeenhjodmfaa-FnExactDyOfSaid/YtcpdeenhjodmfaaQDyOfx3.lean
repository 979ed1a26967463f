-- Written by wip/tools/mkprint.py (my program) out of the translation, for this claim. Not trusted: Lean checks it.
import Derived.Test.YtcpdeenhjodmfaaQDyOfx0
import Derived.Test.YtcpdeenhjodmfaaQDyOfx1
import Derived.Test.YtcpdeenhjodmfaaQDyOfx2
namespace Go.Proofs.Ytcpdeenhjodmfaa.QDyOf
open Go.RowKit Go.Proofs.YtcpdeenhjodmfaaW.PrintWords Go.Proofs.YtcpdeenhjodmfaaW.PrintLast Go.Proofs.YtcpdeenhjodmfaaW.PrintMore
attribute [local go_sem] max2_int min2_int max_two min_two max_three min_three max_four min_four   -- for this text's walks alone
set_option linter.unusedVariables false
set_option linter.unusedSimpArgs false

/-! ### spec_l2float: function 108 -/
def spec_l2float.j0 : Nat → Int → Int → Int → Option (Bool × List Int × Int)
 | 0, _, _, _ => none
 | k + 1, x0, x3, x4 => if x0 ≥ 2147483648 then ((spec_l1small.f k (wrap64 (-x4))).bind fun bt193 => ((spec_l2norm.f k bt193.1 bt193.2 (wrap64 (x3 - 150))).bind fun bt197 => (some (bt197.1, bt197.2.1, bt197.2.2)))) else ((spec_l1small.f k x4).bind fun bt202 => ((spec_l2norm.f k bt202.1 bt202.2 (wrap64 (x3 - 150))).bind fun bt206 => (some (bt206.1, bt206.2.1, bt206.2.2))))
def spec_l2float.f (k : Nat) (a0 : Int) : Option (Bool × List Int × Int) := if ((Int.tdiv a0 8388608) % 256) > 0 then (spec_l2float.j0 k a0 ((Int.tdiv a0 8388608) % 256) (wrap64 ((wrap64 (Int.tmod a0 8388608)) + 8388608))) else (spec_l2float.j0 k a0 1 (wrap64 (Int.tmod a0 8388608)))
theorem spec_l2float.mono_l : ∀ k, (∀ y0 y1 y2, LeO (spec_l2float.j0 k y0 y1 y2) (spec_l2float.j0 (k + 1) y0 y1 y2))
 | 0 => fun _ _ _ r h => by simp [spec_l2float.j0] at h
 | k + 1 => by
  have ih0 := spec_l2float.mono_l k
  · intro y0 y1 y2
    unfold spec_l2float.j0
    repeat' with_reducible first | exact ih0 _ _ _ | exact spec_l1small.mono _ _ | exact spec_l2norm.mono _ _ _ _ | exact LeO.refl _ | exact LeO.none _ | refine LeO.ite ?_ ?_ | refine LeO.bind ?_ (fun _ => ?_)
theorem spec_l2float.mono : ∀ a0 k, LeO (spec_l2float.f k a0) (spec_l2float.f (k + 1) a0) := by
 intro a0 k
 have ih0 := spec_l2float.mono_l k
 unfold spec_l2float.f
 repeat' with_reducible first | exact ih0 _ _ _ | exact spec_l1small.mono _ _ | exact spec_l2norm.mono _ _ _ _ | exact LeO.refl _ | exact LeO.none _ | refine LeO.ite ?_ ?_ | refine LeO.bind ?_ (fun _ => ?_)
set_option maxHeartbeats 8000000 in
set_option maxRecDepth 100000 in
theorem spec_l2float.calls (k : Nat) (a0 : Int) (r1 : Bool) (r2 : List Int) (r3 : Int) (w : World) (h : spec_l2float.f k a0 = some (r1, r2, r3)) :
 Calls Try.prog 108 #[.int .u32 a0] w fun e w' => ∃ v1_ : Value, e = .returned (.agg #[.bool r1, v1_, .int .i64 r3]) ∧ Kd.R (Kd.int .i64) 3 w' w.heap.size (fun _ => True) v1_ r2 ∧ Below w.heap.size w w' := by
 have hu139 := Try.underlying139; have HB := AM (Below.refl w.heap.size w)
 have H : (if ((Int.tdiv a0 8388608) % 256) > 0 then (spec_l2float.j0 k a0 ((Int.tdiv a0 8388608) % 256) (wrap64 ((wrap64 (Int.tmod a0 8388608)) + 8388608))) else (spec_l2float.j0 k a0 1 (wrap64 (Int.tmod a0 8388608)))) = some (r1, r2, r3) := h
 clear h; have HC2 := AM H; clear H
 go_enter Try.func108, Try.ntmps108
 go_upto_if 13 with (first | ((with_reducible refine gate_dst (N := 2) rfl ?_); refine box_event ?hg (N := 2) ?hd (cs := #[.bool false, .slice none 0 0, .int .i64 0]) (t := 139) ?hr ?_; (case hd => rfl); (case hg => rfl); (case hr => first | (go_simp; done) | (go_simp; rfl)); intro gb192 hg w3 hbox hb; have BK192 := AM (hbox); have GW192 := gH HB hg; have GE192 := gH HB hg; replace HB := AM (below_step (pH HB) hb); clear hb hbox hg))
 (try simp only [Act.put, List.setIfInBounds_toArray, List.set_cons_zero, List.set_cons_succ])
 go_cut [3, 4] (fun v3 v4 wc => ∃ (kq : Nat) (x3_1 : Int) (x4_1 : Int), v3 = .int .i64 x3_1 ∧ v4 = .int .i64 x4_1 ∧ Aside0 (spec_l2float.j0 kq a0 x3_1 x4_1 = some (r1, r2, r3)) ∧ Aside0 (kq ≤ k) ∧ Aside0 (wc.heap[gb192]? = some (.cells #[.bool false, (.slice none 0 0), .int .i64 0] 139 (0, 0))) ∧ Aside0 (Below w.heap.size w wc))
 case first =>
  have H := HC2.out; clear HC2
  by_cases c4 : ((Int.tdiv a0 8388608) % 256) > 0
  · rw [if_pos c4] at H
    have c4b0 : decide (0 < ((Int.tdiv a0 8388608) % 256)) = true := decide_eq_true c4
    clear c4
    (first | rw [c4b0] | (simp only [i64_w, i32_w]; rw [c4b0]) | skip)
    have H' := AM H
    clear H
    go_wp2
    go_meet
    case rel => exact ⟨_, ((Int.tdiv a0 8388608) % 256), (wrap64 ((wrap64 (Int.tmod a0 8388608)) + 8388608)), (by first | rfl | (simp; done) | (simp [*]; done)), (by first | rfl | (simp; done) | (simp [*]; done)), H', ⟨by first | omega | exact Nat.le_refl _⟩, ⟨by refine sB ?_; exact BK192.out⟩, ⟨pH HB⟩⟩
  rw [if_neg c4] at H
  have c4b0 : decide (0 < ((Int.tdiv a0 8388608) % 256)) = false := decide_eq_false c4
  clear c4
  (first | rw [c4b0] | (simp only [i64_w, i32_w]; rw [c4b0]) | skip)
  have H' := AM H
  clear H
  go_wp2
  go_meet
  case rel => exact ⟨_, (1), (wrap64 (Int.tmod a0 8388608)), (by first | rfl | (simp; done) | (simp [*]; done)), (by first | rfl | (simp; done) | (simp [*]; done)), H', ⟨by first | omega | exact Nat.le_refl _⟩, ⟨by refine sB ?_; exact BK192.out⟩, ⟨pH HB⟩⟩
 case rest =>
  clear HC2
  try clear c1
  try clear p2
  try clear c4
  try clear c4b0
  obtain ⟨kq, x3_1, x4_1, rfl, rfl, HA, HJ1, BK192, HB⟩ := hcut
  cases kq with
  | zero => exact absurd HA.out (by simp [spec_l2float.j0])
  | succ kj1 =>
   have H := HA.out; clear HA
   simp only [spec_l2float.j0] at H
   by_cases c5 : a0 ≥ 2147483648
   · rw [if_pos c5] at H
     have c5b0 : decide (2147483648 ≤ a0) = true := decide_eq_true c5
     clear c5
     replace H := Option.bind_eq_some_iff.mp H
     obtain ⟨⟨t193, t194⟩, A60, H⟩ := H
     (try dsimp only at H)
     have A6 := AM A60; clear A60
     replace H := Option.bind_eq_some_iff.mp H
     obtain ⟨⟨t197, t198, t201⟩, A70, H⟩ := H
     (try dsimp only at H)
     have A7 := AM A70; clear A70
     simp only [Option.some.injEq, Prod.mk.injEq] at H
     obtain ⟨rfl, rfl, rfl⟩ := H
     go_wp2_with (first | ((with_reducible refine gate_callee (f := 141) rfl ?_); refine goesL_ (some 21) rfl rfl Try.func141 (by kernel_rfl) rfl #[.int .i64 (wrap64 (-x4_1))] rfl (by (try simp only [List.map_toArray, List.map_cons, List.map_nil]); first | done | rfl | (simp only [List.length_drop, List.length_take]; rfl)) ?_; (with_reducible refine (spec_l1small.calls kj1 (wrap64 (-x4_1)) t193 t194 _ A6.out).mono ?_); rintro e w8 ⟨v195, rfl, ho0, hb⟩; refine ⟨_, rfl, ?_⟩; have HO196 := AM (Kd.R_lower ho0 (below_size (pH HB))); replace BK192 := bB BK192 hb; replace HB := AM (below_step (pH HB) hb); (try clear hb); (try clear hb2); (try clear hk); (try clear hi); (try clear ho0); obtain ⟨Ao9, co9, eo9⟩ := Kd.R_slice HO196.out; subst eo9) | ((with_reducible refine gate_callee (f := 139) rfl ?_); refine goesL_ (some 25) rfl rfl Try.func139 (by kernel_rfl) rfl #[.agg #[.bool t193, .slice Ao9 t194.length co9, .int .i64 (wrap64 (x3_1 - 150))]] rfl (by (try simp only [List.map_toArray, List.map_cons, List.map_nil]); first | done | rfl | (simp only [List.length_drop, List.length_take]; rfl)) ?_; (with_reducible refine (spec_l2norm.calls kj1 t193 _ _ t194 (wrap64 (x3_1 - 150)) t197 t198 t201 _ ?side1 ?side2 A7.out).mono ?_); (case side1 => exact cR HO196); (case side2 => exact (Kd.R_reads' HO196.out).2.1); rintro e w10 ⟨v199, rfl, ho0, hb⟩; refine ⟨_, rfl, ?_⟩; have HO200 := AM (Kd.R_lower (Kd.R_new' ho0 (Kd.R_lt (pR HO196))) (below_size (pH HB))); replace HO196 := AM (Kd.R_elder' (pR HO196) (Kd.R_base ho0) hb); replace BK192 := bB BK192 hb; replace HB := AM (below_step (pH HB) hb); (try clear hb); (try clear hb2); (try clear hk); (try clear hi); (try clear ho0); have ⟨hcz11_0, hcz11_1, hcz11_2, hfz11_0, hfz11_1, hfz11_2⟩ := z3 BK192; obtain ⟨Ao12, co12, eo12⟩ := Kd.R_slice HO200.out; subst eo12))
     refine bodyPost_ret (results_cell_row rfl _ _ gb192 139 #[.bool t197, .slice Ao12 t198.length co12, .int .i64 t201] (0, 0) _ rfl (by refine sB ?_; refine blk_put (cs := #[.bool t197, .slice Ao12 t198.length co12, .int .i64 0]) ?_ 2 _ rfl; refine sB ?_; refine blk_put (cs := #[.bool t197, .slice none 0 0, .int .i64 0]) ?_ 1 _ rfl; refine sB ?_; refine blk_put (cs := #[.bool false, .slice none 0 0, .int .i64 0]) ?_ 0 _ rfl; refine sB ?_; exact BK192.out) Try.underlying139 rfl (by kernel_rfl)) rfl ?_
     exact ⟨_, by first | rfl | (simp [errW_none, errW_some] <;> rfl) | (simp [*, errW_none, errW_some] <;> rfl), by (with_reducible repeat (first | apply Kd.R_alloc | apply Kd.R_drewN | apply Kd.R_drew)); exact Kd.R_mono (Kd.R_far (p := ⟨gb192, 2, none⟩) (Kd.R_far (p := ⟨gb192, 1, none⟩) (Kd.R_far (p := ⟨gb192, 0, none⟩) (Kd.R_types HO200.out BK192.out (by decide)) (fun _ hk => hk.2) (.bool t197)) (fun _ hk => hk.2) (.slice Ao12 t198.length co12)) (fun _ hk => hk.2) (.int .i64 t201)) (fun _ hk => trivial), pH HB⟩
   rw [if_neg c5] at H
   have c5b0 : decide (2147483648 ≤ a0) = false := decide_eq_false c5
   clear c5
   replace H := Option.bind_eq_some_iff.mp H
   obtain ⟨⟨t202, t203⟩, A130, H⟩ := H
   (try dsimp only at H)
   have A13 := AM A130; clear A130
   replace H := Option.bind_eq_some_iff.mp H
   obtain ⟨⟨t206, t207, t210⟩, A140, H⟩ := H
   (try dsimp only at H)
   have A14 := AM A140; clear A140
   simp only [Option.some.injEq, Prod.mk.injEq] at H
   obtain ⟨rfl, rfl, rfl⟩ := H
   go_wp2_with (first | ((with_reducible refine gate_callee (f := 141) rfl ?_); refine goesL_ (some 21) rfl rfl Try.func141 (by kernel_rfl) rfl #[.int .i64 x4_1] rfl (by (try simp only [List.map_toArray, List.map_cons, List.map_nil]); first | done | rfl | (simp only [List.length_drop, List.length_take]; rfl)) ?_; (with_reducible refine (spec_l1small.calls kj1 x4_1 t202 t203 _ A13.out).mono ?_); rintro e w15 ⟨v204, rfl, ho0, hb⟩; refine ⟨_, rfl, ?_⟩; have HO205 := AM (Kd.R_lower ho0 (below_size (pH HB))); replace BK192 := bB BK192 hb; replace HB := AM (below_step (pH HB) hb); (try clear hb); (try clear hb2); (try clear hk); (try clear hi); (try clear ho0); obtain ⟨Ao16, co16, eo16⟩ := Kd.R_slice HO205.out; subst eo16) | ((with_reducible refine gate_callee (f := 139) rfl ?_); refine goesL_ (some 25) rfl rfl Try.func139 (by kernel_rfl) rfl #[.agg #[.bool t202, .slice Ao16 t203.length co16, .int .i64 (wrap64 (x3_1 - 150))]] rfl (by (try simp only [List.map_toArray, List.map_cons, List.map_nil]); first | done | rfl | (simp only [List.length_drop, List.length_take]; rfl)) ?_; (with_reducible refine (spec_l2norm.calls kj1 t202 _ _ t203 (wrap64 (x3_1 - 150)) t206 t207 t210 _ ?side1 ?side2 A14.out).mono ?_); (case side1 => exact cR HO205); (case side2 => exact (Kd.R_reads' HO205.out).2.1); rintro e w17 ⟨v208, rfl, ho0, hb⟩; refine ⟨_, rfl, ?_⟩; have HO209 := AM (Kd.R_lower (Kd.R_new' ho0 (Kd.R_lt (pR HO205))) (below_size (pH HB))); replace HO205 := AM (Kd.R_elder' (pR HO205) (Kd.R_base ho0) hb); replace BK192 := bB BK192 hb; replace HB := AM (below_step (pH HB) hb); (try clear hb); (try clear hb2); (try clear hk); (try clear hi); (try clear ho0); have ⟨hcz18_0, hcz18_1, hcz18_2, hfz18_0, hfz18_1, hfz18_2⟩ := z3 BK192; obtain ⟨Ao19, co19, eo19⟩ := Kd.R_slice HO209.out; subst eo19))
   refine bodyPost_ret (results_cell_row rfl _ _ gb192 139 #[.bool t206, .slice Ao19 t207.length co19, .int .i64 t210] (0, 0) _ rfl (by refine sB ?_; refine blk_put (cs := #[.bool t206, .slice Ao19 t207.length co19, .int .i64 0]) ?_ 2 _ rfl; refine sB ?_; refine blk_put (cs := #[.bool t206, .slice none 0 0, .int .i64 0]) ?_ 1 _ rfl; refine sB ?_; refine blk_put (cs := #[.bool false, .slice none 0 0, .int .i64 0]) ?_ 0 _ rfl; refine sB ?_; exact BK192.out) Try.underlying139 rfl (by kernel_rfl)) rfl ?_
   exact ⟨_, by first | rfl | (simp [errW_none, errW_some] <;> rfl) | (simp [*, errW_none, errW_some] <;> rfl), by (with_reducible repeat (first | apply Kd.R_alloc | apply Kd.R_drewN | apply Kd.R_drew)); exact Kd.R_mono (Kd.R_far (p := ⟨gb192, 2, none⟩) (Kd.R_far (p := ⟨gb192, 1, none⟩) (Kd.R_far (p := ⟨gb192, 0, none⟩) (Kd.R_types HO209.out BK192.out (by decide)) (fun _ hk => hk.2) (.bool t206)) (fun _ hk => hk.2) (.slice Ao19 t207.length co19)) (fun _ hk => hk.2) (.int .i64 t210)) (fun _ hk => trivial), pH HB⟩

/-! ### spec_DyOf: function 49 -/
def spec_DyOf.f (k : Nat) (a0 : Int) : Option (Bool × List Int × Int × Int) := (spec_l2finite.f a0).bind fun t212 => (if t212 = true then ((spec_l2float.f k a0).bind fun bt213 => ((spec_l2out.f k bt213.1 bt213.2.1 bt213.2.2).bind fun bt218 => (some (bt218.1, bt218.2.1, bt218.2.2.1, bt218.2.2.2)))) else (some (false, ([] : List Int), 0, 1)))
theorem spec_DyOf.mono : ∀ a0 k, LeO (spec_DyOf.f k a0) (spec_DyOf.f (k + 1) a0) := by
 intro a0 k
 unfold spec_DyOf.f
 repeat' with_reducible first | exact spec_l2float.mono _ _ | exact spec_l2out.mono _ _ _ _ | exact LeO.refl _ | exact LeO.none _ | refine LeO.ite ?_ ?_ | refine LeO.bind ?_ (fun _ => ?_)
set_option maxHeartbeats 8000000 in
set_option maxRecDepth 100000 in
theorem spec_DyOf.calls (k : Nat) (a0 : Int) (r1 : Bool) (r2 : List Int) (r3 : Int) (r4 : Int) (w : World) (h : spec_DyOf.f k a0 = some (r1, r2, r3, r4)) :
 Calls Try.prog 49 #[.int .u32 a0] w fun e w' => ∃ v1_ : Value, e = .returned (.tuple #[.agg #[.bool r1, v1_, .int .i64 r3], .int .i64 r4]) ∧ Kd.R (Kd.int .u32) 50 w' w.heap.size (fun _ => True) v1_ r2 ∧ Below w.heap.size w w' := by
 have hu77 := Try.underlying77; have HB := AM (Below.refl w.heap.size w)
 have H : ((spec_l2finite.f a0).bind fun t212 => (if t212 = true then ((spec_l2float.f k a0).bind fun bt213 => ((spec_l2out.f k bt213.1 bt213.2.1 bt213.2.2).bind fun bt218 => (some (bt218.1, bt218.2.1, bt218.2.2.1, bt218.2.2.2)))) else (some (false, ([] : List Int), 0, 1)))) = some (r1, r2, r3, r4) := h
 clear h
 replace H := Option.bind_eq_some_iff.mp H
 obtain ⟨t212, A20, H⟩ := H
 (try dsimp only at H)
 have A2 := AM A20; clear A20
 by_cases c3 : t212 = true
 rotate_left
 · replace c3 := Bool.eq_false_iff.mpr c3
   subst c3
   have H1 : (some (false, ([] : List Int), 0, 1)) = some (r1, r2, r3, r4) := by rw [if_neg (show ¬ (false = true) by decide)] at H; exact H
   clear H; have H := H1; clear H1
   simp only [Option.some.injEq, Prod.mk.injEq] at H
   obtain ⟨rfl, rfl, rfl, rfl⟩ := H
   go_enter Try.func49, Try.ntmps49
   go_wp2_with (first | ((with_reducible refine gate_dst (N := 2) rfl ?_); refine box_event ?hg (N := 2) ?hd (cs := #[.bool false, .slice none 0 0, .int .i64 0]) (t := 77) ?hr ?_; (case hd => rfl); (case hg => rfl); (case hr => first | (go_simp; done) | (go_simp; rfl)); intro gb211 hg w12 hbox hb; have BK211 := AM (hbox); have GW211 := gH HB hg; have GE211 := gH HB hg; replace HB := AM (below_step (pH HB) hb); clear hb hbox hg) | ((with_reducible refine gate_callee (f := 77) rfl ?_); refine goesL_ (some 5) rfl rfl Try.func77 (by kernel_rfl) rfl #[.int .u32 a0] rfl (by (try simp only [List.map_toArray, List.map_cons, List.map_nil]); first | done | rfl | (simp only [List.length_drop, List.length_take]; rfl)) ?_; (with_reducible refine (spec_l2finite.calls a0 false _ A2.out).mono ?_); rintro e w' ⟨rfl, ⟨nd, rfl⟩⟩; refine ⟨_, rfl, ?_⟩; (try (rw [drewN_self w12]; generalize hq_ : World.drewN w12 _ = w12; have n0_ : Aside0 (w12.heap[gb211]? = some (.cells #[.bool false, .slice none 0 0, .int .i64 0] 77 (0, 0))) := ⟨by rw [← hq_]; exact (pB BK211)⟩; have n1_ : Aside0 (Below w.heap.size w w12) := ⟨by rw [← hq_]; exact (pH HB)⟩; clear BK211 HB hq_; have BK211 := n0_; have HB := n1_; clear n0_ n1_)); have ⟨hcz13_0, hcz13_1, hcz13_2, hfz13_0, hfz13_1, hfz13_2⟩ := z3 BK211))
   refine bodyPost_ret (results_ct rfl _ _ gb211 77 #[.bool false, .slice none 0 0, .int .i64 0] (0, 0) _ rfl (by refine sB ?_; refine blk_put (cs := #[.bool false, .slice none 0 0, .int .i64 0]) ?_ 2 _ rfl; refine sB ?_; refine blk_put (cs := #[.bool false, .slice none 0 0, .int .i64 0]) ?_ 1 _ rfl; refine sB ?_; refine blk_put (cs := #[.bool false, .slice none 0 0, .int .i64 0]) ?_ 0 _ rfl; refine sB ?_; exact BK211.out) Try.underlying77 rfl (by kernel_rfl)) rfl ?_
   exact ⟨_, by first | rfl | (simp [errW_none, errW_some] <;> rfl) | (simp [*, errW_none, errW_some] <;> rfl), by first | exact Kd.R_nil _ _ _ _ _ | exact Kd.N_nil _ _ _ _ _ | exact Kd.V_nil _ _ _ _ _ | exact Kd.Q_nil _ _ _ _ _ | exact Kd.S_nil _ _ _ _ _, pH HB⟩

 subst c3
 have H1 : ((spec_l2float.f k a0).bind fun bt213 => ((spec_l2out.f k bt213.1 bt213.2.1 bt213.2.2).bind fun bt218 => (some (bt218.1, bt218.2.1, bt218.2.2.1, bt218.2.2.2)))) = some (r1, r2, r3, r4) := by rw [if_pos rfl] at H; exact H
 clear H; have H := H1; clear H1
 replace H := Option.bind_eq_some_iff.mp H
 obtain ⟨⟨t213, t214, t217⟩, A40, H⟩ := H
 (try dsimp only at H)
 have A4 := AM A40; clear A40
 replace H := Option.bind_eq_some_iff.mp H
 obtain ⟨⟨t218, t219, t222, t223⟩, A50, H⟩ := H
 (try dsimp only at H)
 have A5 := AM A50; clear A50
 simp only [Option.some.injEq, Prod.mk.injEq] at H
 obtain ⟨rfl, rfl, rfl, rfl⟩ := H
 go_enter Try.func49, Try.ntmps49
 go_wp2_with (first | ((with_reducible refine gate_dst (N := 2) rfl ?_); refine box_event ?hg (N := 2) ?hd (cs := #[.bool false, .slice none 0 0, .int .i64 0]) (t := 77) ?hr ?_; (case hd => rfl); (case hg => rfl); (case hr => first | (go_simp; done) | (go_simp; rfl)); intro gb211 hg w6 hbox hb; have BK211 := AM (hbox); have GW211 := gH HB hg; have GE211 := gH HB hg; replace HB := AM (below_step (pH HB) hb); clear hb hbox hg) | ((with_reducible refine gate_callee (f := 77) rfl ?_); refine goesL_ (some 5) rfl rfl Try.func77 (by kernel_rfl) rfl #[.int .u32 a0] rfl (by (try simp only [List.map_toArray, List.map_cons, List.map_nil]); first | done | rfl | (simp only [List.length_drop, List.length_take]; rfl)) ?_; (with_reducible refine (spec_l2finite.calls a0 true _ A2.out).mono ?_); rintro e w' ⟨rfl, ⟨nd, rfl⟩⟩; refine ⟨_, rfl, ?_⟩; (try (rw [drewN_self w6]; generalize hq_ : World.drewN w6 _ = w6; have n0_ : Aside0 (w6.heap[gb211]? = some (.cells #[.bool false, .slice none 0 0, .int .i64 0] 77 (0, 0))) := ⟨by rw [← hq_]; exact (pB BK211)⟩; have n1_ : Aside0 (Below w.heap.size w w6) := ⟨by rw [← hq_]; exact (pH HB)⟩; clear BK211 HB hq_; have BK211 := n0_; have HB := n1_; clear n0_ n1_))) | ((with_reducible refine gate_callee (f := 108) rfl ?_); refine goesL_ (some 9) rfl rfl Try.func108 (by kernel_rfl) rfl #[.int .u32 a0] rfl (by (try simp only [List.map_toArray, List.map_cons, List.map_nil]); first | done | rfl | (simp only [List.length_drop, List.length_take]; rfl)) ?_; (with_reducible refine (spec_l2float.calls k a0 t213 t214 t217 _ A4.out).mono ?_); rintro e w7 ⟨v215, rfl, ho0, hb⟩; refine ⟨_, rfl, ?_⟩; have HO216 := AM (Kd.R_lower ho0 (below_size (pH HB))); replace BK211 := bB BK211 hb; replace HB := AM (below_step (pH HB) hb); (try clear hb); (try clear hb2); (try clear hk); (try clear hi); (try clear ho0); obtain ⟨Ao8, co8, eo8⟩ := Kd.R_slice HO216.out; subst eo8) | ((with_reducible refine gate_callee (f := 101) rfl ?_); refine goesL_ (some 10) rfl rfl Try.func101 (by kernel_rfl) rfl #[.agg #[.bool t213, .slice Ao8 t214.length co8, .int .i64 t217]] rfl (by (try simp only [List.map_toArray, List.map_cons, List.map_nil]); first | done | rfl | (simp only [List.length_drop, List.length_take]; rfl)) ?_; (with_reducible refine (spec_l2out.calls k t213 _ _ t214 t217 t218 t219 t222 t223 _ ?side1 ?side2 A5.out).mono ?_); (case side1 => exact cR HO216); (case side2 => exact (Kd.R_reads' HO216.out).2.1); rintro e w9 ⟨v220, rfl, ho0, hb⟩; refine ⟨_, rfl, ?_⟩; replace HO216 := AM (Kd.R_below (pR HO216) hb); have HO221 := AM (Kd.R_lower ho0 (below_size (pH HB))); replace BK211 := bB BK211 hb; replace HB := AM (below_step (pH HB) hb); (try clear hb); (try clear hb2); (try clear hk); (try clear hi); (try clear ho0); have ⟨hcz10_0, hcz10_1, hcz10_2, hfz10_0, hfz10_1, hfz10_2⟩ := z3 BK211; obtain ⟨Ao11, co11, eo11⟩ := Kd.R_slice HO221.out; subst eo11))
 refine bodyPost_ret (results_ct rfl _ _ gb211 77 #[.bool t218, .slice Ao11 t219.length co11, .int .i64 t222] (0, 0) _ rfl (by refine sB ?_; refine blk_put (cs := #[.bool t218, .slice Ao11 t219.length co11, .int .i64 0]) ?_ 2 _ rfl; refine sB ?_; refine blk_put (cs := #[.bool t218, .slice none 0 0, .int .i64 0]) ?_ 1 _ rfl; refine sB ?_; refine blk_put (cs := #[.bool false, .slice none 0 0, .int .i64 0]) ?_ 0 _ rfl; refine sB ?_; exact BK211.out) Try.underlying77 rfl (by kernel_rfl)) rfl ?_
 exact ⟨_, by first | rfl | (simp [errW_none, errW_some] <;> rfl) | (simp [*, errW_none, errW_some] <;> rfl), by (with_reducible repeat (first | apply Kd.R_alloc | apply Kd.R_drewN | apply Kd.R_drew)); exact Kd.R_mono (Kd.R_far (p := ⟨gb211, 2, none⟩) (Kd.R_far (p := ⟨gb211, 1, none⟩) (Kd.R_far (p := ⟨gb211, 0, none⟩) (Kd.R_types HO221.out BK211.out (by decide)) (fun _ hk => hk.2) (.bool t218)) (fun _ hk => hk.2) (.slice Ao11 t219.length co11)) (fun _ hk => hk.2) (.int .i64 t222)) (fun _ hk => trivial), pH HB⟩
/-! ### impl_finite: function 79 -/
set_option maxRecDepth 100000 in
theorem run_f32 (x : Int) (w : World) : (callFunc 124 #[.int .u32 x]).run Try.prog w = .ok (.value (.float .f32 x.toNat)) w := by
  rw [run_callFunc_extern (e := Extern.MathFloatBits.float32frombits) Try.func124 (by kernel_rfl) (by kernel_rfl) (by kernel_rfl) (by kernel_rfl)]
  rfl
set_option maxRecDepth 100000 in
theorem run_b64 (b : Nat) (w : World) : (callFunc 166 #[.float .f64 b]).run Try.prog w = .ok (.value (.int .u64 b)) w := by
  rw [run_callFunc_extern (e := Extern.MathFloatBits.float64bits) Try.func166 (by kernel_rfl) (by kernel_rfl) (by kernel_rfl) (by kernel_rfl)]
  rfl
set_option maxRecDepth 100000 in
theorem run_f64 (x : Int) (w : World) : (callFunc 165 #[.int .u64 x]).run Try.prog w = .ok (.value (.float .f64 x.toNat)) w := by
  rw [run_callFunc_extern (e := Extern.MathFloatBits.float64frombits) Try.func165 (by kernel_rfl) (by kernel_rfl) (by kernel_rfl) (by kernel_rfl)]
  rfl
set_option maxRecDepth 100000 in
theorem finite_calls (x : Int) (b : Nat) (r : Bool) (w w1 : World) (hc : (convert 166 165 (.float .f32 x.toNat)).run Try.prog w = .ok (.float .f64 b) w1) (hw : Drawn0 w w1)
    (hr : r = ((!(FloatKind.f64.format.order (bits .andNot .u64 b 9223372036854775808).toNat 9218868437227405311 == some .gt)) && (!(FloatKind.f64.format.order b b != some .eq)))) :
    Calls Try.prog 79 #[.int .u32 x] w fun e w' => e = .returned (.bool r) ∧ Drawn0 w w' := by
  obtain ⟨n1, rfl⟩ := hw
  have h1 := run_f32 x
  have h2 := run_b64 b
  have h3 := run_f64 (bits .andNot .u64 b 9223372036854775808)
  cases h4 : (FloatKind.f64.format.order (bits .andNot .u64 b 9223372036854775808).toNat 9218868437227405311 == some .gt) with
  | true =>
    rw [h4] at hr
    subst hr
    go_enter Try.func79, Try.ntmps79
    go_wp2
    go_ret
    exact ⟨rfl, by repeat (first | exact Drawn0.refl _ | apply Drawn0.step)⟩
  | false =>
    rw [h4] at hr
    subst hr
    go_enter Try.func79, Try.ntmps79
    go_wp2
    go_ret
    exact ⟨rfl, by repeat (first | exact Drawn0.refl _ | apply Drawn0.step)⟩
theorem fl_and (b : Nat) (hb : b < 18446744073709551616) : (bits .andNot .u64 (b : Int) 9223372036854775808).toNat = b % 9223372036854775808 := by
  show (IntKind.u64.wrap (((BitVec.ofInt 64 ((b : Nat) : Int) &&& ~~~ (BitVec.ofInt 64 ((9223372036854775808 : Nat) : Int))).toNat : Nat) : Int)).toNat = _
  have e : (~~~ (BitVec.ofInt 64 ((9223372036854775808 : Nat) : Int))).toNat = 2 ^ 63 - 1 := by decide
  rw [BitVec.toNat_and, e, Nat.and_two_pow_sub_one_eq_mod, BitVec.ofInt_natCast, BitVec.toNat_ofNat, Nat.mod_eq_of_lt (a := b) (by omega)]
  have h : ∀ z : Int, IntKind.u64.wrap z = z % 18446744073709551616 := fun z => by simp [IntKind.wrap, IntKind.bits, IntKind.signed]
  rw [h]
  omega
theorem fl_nearest (neg : Bool) (mag : Nat) (place : Int) (hm : mag < 16777216) (h0 : -149 ≤ place) (h1 : place ≤ 104) : ∃ rung, rung ≤ 9218868437227405311 ∧ Ieee.double.nearest neg mag place = Ieee.double.word neg rung := by
  unfold Ieee.Format.nearest
  by_cases hz : mag = 0
  · rw [if_pos hz]
    exact ⟨0, by omega, rfl⟩
  · rw [if_neg hz]
    have hlog : mag.log2 < 24 := (Nat.log2_lt hz).2 (by omega)
    have hup : mag < 2 ^ (mag.log2 + 1) := Nat.lt_log2_self
    have e1 : Ieee.double.leastPlace = -1074 := by decide
    have e2 : (Ieee.double.fractionBits : Int) = 52 := by decide
    have e3 : Ieee.double.binade = 4503599627370496 := by decide
    have e4 : Ieee.double.infRung = 9218868437227405312 := by decide
    dsimp only
    rw [e1, e2, e3, e4, Int.max_eq_left (by omega)]
    have e5 : (place - (place + (mag.log2 : Int) - 52)).toNat = 52 - mag.log2 := by omega
    have e6 : (place + (mag.log2 : Int) - 52 - place).toNat = 0 := by omega
    rw [e5, e6]
    have hk : mag <<< (52 - mag.log2) < 2 ^ 53 := by
      rw [Nat.shiftLeft_eq]
      have : 2 ^ (mag.log2 + 1) * 2 ^ (52 - mag.log2) = 2 ^ 53 := by rw [← Nat.pow_add]; congr 1; omega
      rw [← this]
      exact Nat.mul_lt_mul_of_pos_right hup (Nat.two_pow_pos _)
    have hc : Ieee.Toward.even.cut neg (mag <<< (52 - mag.log2)) 0 = mag <<< (52 - mag.log2) := by
      generalize mag <<< (52 - mag.log2) = n
      simp [Ieee.Toward.cut, Nat.mod_one]
    rw [hc]
    have hk2 : mag <<< (52 - mag.log2) ≤ 9007199254740991 := by
      rw [show (2 : Nat) ^ 53 = 9007199254740992 from by kernel_rfl] at hk
      generalize mag <<< (52 - mag.log2) = n at hk ⊢
      clear hup hlog hz e1 e2 e3 e4 e5 e6 hc
      omega
    clear hk hc
    generalize mag <<< (52 - mag.log2) = n at hk2 ⊢
    have hq : (place + (mag.log2 : Int) - 52 - -1074).toNat ≤ 1149 := by omega
    generalize (place + (mag.log2 : Int) - 52 - -1074).toNat = q at hq ⊢
    clear hup hlog hz e1 e2 e3 e4 e5 e6
    refine ⟨_, Nat.le_trans (Nat.min_le_left _ _) ?_, rfl⟩
    omega
theorem fl_word (neg : Bool) (rung : Nat) : Ieee.double.word neg rung = if neg then 9223372036854775808 + rung else rung := by
  have : Ieee.double.signWeight = 9223372036854775808 := by decide
  unfold Ieee.Format.word
  rw [this]
theorem fl_read (w : Nat) : Ieee.double.read w = (if w % 9223372036854775808 < 4503599627370496 then .number (w / 9223372036854775808 % 2 == 1) (w % 9223372036854775808) (-1074)
    else if w % 9223372036854775808 < 9218868437227405312 then .number (w / 9223372036854775808 % 2 == 1) (4503599627370496 + w % 9223372036854775808 % 4503599627370496) (-1074 + ((w % 9223372036854775808 / 4503599627370496 - 1 : Nat) : Int))
    else if w % 9223372036854775808 = 9218868437227405312 then .infinity (w / 9223372036854775808 % 2 == 1) else .nan (w / 9223372036854775808 % 2 == 1) (w % 9223372036854775808 - 9218868437227405312)) := by
  have e0 : Ieee.double.signWeight = 9223372036854775808 := by decide
  have e1 : Ieee.double.leastPlace = -1074 := by decide
  have e3 : Ieee.double.binade = 4503599627370496 := by decide
  have e4 : Ieee.double.infRung = 9218868437227405312 := by decide
  unfold Ieee.Format.read
  rw [e0, e1, e3, e4]
theorem fl_max : Ieee.double.read 9218868437227405311 = .number false 9007199254740991 971 := by rw [fl_read]; decide
theorem fl_small (rung : Nat) (h : rung ≤ 9218868437227405311) : ∃ m i, Ieee.double.read rung = .number false m i ∧ m ≤ 9007199254740991 ∧ i ≤ 971 := by
  rw [fl_read, Nat.mod_eq_of_lt (by omega), Nat.div_eq_of_lt (by omega)]
  split
  · exact ⟨_, _, rfl, by omega, by omega⟩
  · rw [if_pos (by omega)]
    exact ⟨_, _, rfl, by omega, by omega⟩
theorem fl_gt (rung : Nat) (h : rung ≤ 9218868437227405311) : (Ieee.double.order rung 9218868437227405311 == some .gt) = false := by
  obtain ⟨m, i, h1, h2, h3⟩ := fl_small rung h
  unfold Ieee.Format.order
  rw [h1, fl_max]
  simp only [Ieee.Datum.order]
  rw [Int.min_eq_left h3]
  have : Ieee.signed false m (i - i).toNat ≤ Ieee.signed false 9007199254740991 (971 - i).toNat := by
    simp only [Ieee.signed, Int.sub_self, Int.toNat_zero, Nat.shiftLeft_zero, Bool.false_eq_true, if_false]
    rw [Nat.shiftLeft_eq]
    have := Nat.two_pow_pos (971 - i).toNat
    have : 9007199254740991 * 1 ≤ 9007199254740991 * 2 ^ (971 - i).toNat := Nat.mul_le_mul_left _ this
    omega
  generalize Ieee.signed false m (i - i).toNat = a at this
  generalize Ieee.signed false 9007199254740991 (971 - i).toNat = c at this
  have : compare a c ≠ .gt := by
    rw [Ne, Int.compare_eq_gt]
    omega
  generalize compare a c = o at this ⊢
  cases o <;> simp_all
theorem fl_fin (b : Nat) (neg : Bool) (rung : Nat) (h : rung ≤ 9218868437227405311) (hb : b = Ieee.double.word neg rung) :
    b < 18446744073709551616 ∧ b % 9223372036854775808 = rung ∧ (∃ s m i, Ieee.double.read b = .number s m i) := by
  rw [fl_word] at hb
  have h1 : b < 18446744073709551616 ∧ b % 9223372036854775808 = rung := by
    cases neg <;> simp at hb <;> omega
  refine ⟨h1.1, h1.2, ?_⟩
  rw [fl_read, h1.2]
  split
  · exact ⟨_, _, _, rfl⟩
  · rw [if_pos (by omega)]
    exact ⟨_, _, _, rfl⟩
theorem fl_self (b : Nat) (s : Bool) (m : Nat) (i : Int) (h : Ieee.double.read b = .number s m i) : (Ieee.double.order b b != some .eq) = false := by
  unfold Ieee.Format.order
  rw [h]
  simp only [Ieee.Datum.order]
  rw [show compare (Ieee.signed s m (i - min i i).toNat) (Ieee.signed s m (i - min i i).toNat) = .eq from by rw [Int.compare_eq_eq]]
  rfl
theorem fl_single (x : Nat) (hx : x < 4294967296) : Ieee.single.read x = (if x % 2147483648 < 8388608 then .number (x / 2147483648 % 2 == 1) (x % 2147483648) (-149)
    else if x % 2147483648 < 2139095040 then .number (x / 2147483648 % 2 == 1) (8388608 + x % 2147483648 % 8388608) (-149 + ((x % 2147483648 / 8388608 - 1 : Nat) : Int))
    else if x % 2147483648 = 2139095040 then .infinity (x / 2147483648 % 2 == 1) else .nan (x / 2147483648 % 2 == 1) (x % 2147483648 - 2139095040)) := by
  have e0 : Ieee.single.signWeight = 2147483648 := by decide
  have e1 : Ieee.single.leastPlace = -149 := by decide
  have e3 : Ieee.single.binade = 8388608 := by decide
  have e4 : Ieee.single.infRung = 2139095040 := by decide
  unfold Ieee.Format.read
  rw [e0, e1, e3, e4]
theorem fl_single_num (x : Nat) (hx : x < 4294967296) (h : x / 8388608 % 256 ≠ 255) : ∃ s m i, Ieee.single.read x = .number s m i ∧ m < 16777216 ∧ -149 ≤ i ∧ i ≤ 104 := by
  rw [fl_single x hx]
  split
  · exact ⟨_, _, _, rfl, by omega, by omega, by omega⟩
  · rw [if_pos (by omega)]
    exact ⟨_, _, _, rfl, by omega, by omega, by omega⟩
theorem fl_inf_gt : (Ieee.double.order 9218868437227405312 9218868437227405311 == some .gt) = true := by
  unfold Ieee.Format.order
  rw [fl_max, fl_read]
  decide
theorem fl_convert (x : Nat) (hx : x < 4294967296) (w : World) : ∃ (b : Nat) (w1 : World), (convert 166 165 (.float .f32 x)).run Try.prog w = .ok (.float .f64 b) w1 ∧ Drawn0 w w1 ∧
    ((!(FloatKind.f64.format.order (bits .andNot .u64 b 9223372036854775808).toNat 9218868437227405311 == some .gt)) && (!(FloatKind.f64.format.order b b != some .eq))) = (x / 8388608 % 256 != 255) := by
  have ha : (Try.prog.underlying 166).isSome = true := by kernel_rfl
  have hb : Try.prog.underlying 165 = some (.float .f64) := by kernel_rfl
  show ∃ (b : Nat) (w1 : World), _ ∧ _ ∧ ((!(Ieee.double.order (bits .andNot .u64 b 9223372036854775808).toNat 9218868437227405311 == some .gt)) && (!(Ieee.double.order b b != some .eq))) = _
  by_cases h : x / 8388608 % 256 = 255
  · have hr : (x / 8388608 % 256 != 255) = false := by simp [h]
    rw [hr]
    by_cases h1 : x % 2147483648 = 2139095040
    · have hd : FloatKind.f32.decode x = .infinity (x / 2147483648 % 2 == 1) := by
        show Ieee.single.read x = _
        rw [fl_single x hx, if_neg (by omega), if_neg (by omega), if_pos h1]
      refine ⟨_, w, run_convert_float_float w 166 165 .f32 .f64 x (FloatKind.f64.encode (.infinity (x / 2147483648 % 2 == 1))) ha hb (by unfold floatToFloatBits; rw [if_neg (by decide), hd]), Drawn0.refl w, ?_⟩
      have e : FloatKind.f64.encode (.infinity (x / 2147483648 % 2 == 1)) = Ieee.double.word (x / 2147483648 % 2 == 1) 9218868437227405312 := by
        show Ieee.double.word _ Ieee.double.infRung = _
        rw [show Ieee.double.infRung = 9218868437227405312 from by decide]
      rw [e, fl_word]
      have h2 : ∀ s : Bool, (bits .andNot .u64 (((if s then 9223372036854775808 + 9218868437227405312 else 9218868437227405312 : Nat)) : Int) 9223372036854775808).toNat = 9218868437227405312 := by decide
      rw [h2, fl_inf_gt]
      rfl
    · have hd : ∃ s f, FloatKind.f32.decode x = .nan s f := by
        refine ⟨x / 2147483648 % 2 == 1, x % 2147483648 - 2139095040, ?_⟩
        show Ieee.single.read x = _
        rw [fl_single x hx, if_neg (by omega), if_neg (by omega), if_neg h1]
      obtain ⟨s, f, hd⟩ := hd
      obtain ⟨u, hs'⟩ := Option.isSome_iff_exists.1 ha
      refine ⟨(Question.nanConv .f64 x).cut (w.tape w.drawn (.nanConv .f64 x)), w.drew, ?_, ⟨1, rfl⟩, ?_⟩
      · cases u <;> simp [convert, run_underlying hs', run_underlying hb, Conv.floatToFloat, hd, Question.forced]
      · generalize w.tape w.drawn (.nanConv .f64 x) = t
        have hb2 : (Question.nanConv .f64 x).cut t = t % 2 * 9223372036854775808 + 9218868437227405312 + 1 + t / 2 % 4503599627370495 := rfl
        rw [hb2]
        have hz : t / 2 % 4503599627370495 < 4503599627370495 := Nat.mod_lt _ (by omega)
        have ht : t % 2 < 2 := Nat.mod_lt _ (by omega)
        generalize t / 2 % 4503599627370495 = z at hz ⊢
        generalize t % 2 = s2 at ht ⊢
        have hr1 : ∀ q : Nat, q % 9223372036854775808 = 9218868437227405313 + z → ∃ s f, Ieee.double.read q = .nan s f := by
          intro q hq
          rw [fl_read, hq, if_neg (by omega), if_neg (by omega), if_neg (by omega)]
          exact ⟨_, _, rfl⟩
        obtain ⟨s3, f3, h3⟩ := hr1 (s2 * 9223372036854775808 + 9218868437227405312 + 1 + z) (by omega)
        rw [fl_and _ (by omega)]
        obtain ⟨s4, f4, h4⟩ := hr1 ((s2 * 9223372036854775808 + 9218868437227405312 + 1 + z) % 9223372036854775808) (by omega)
        unfold Ieee.Format.order
        rw [h3, h4]
        rfl
  · have hr : (x / 8388608 % 256 != 255) = true := by simp [h]
    rw [hr]
    obtain ⟨s, m, i, hd, hm, hi0, hi1⟩ := fl_single_num x hx h
    obtain ⟨rung, hrg, hw⟩ := fl_nearest s m i hm hi0 hi1
    obtain ⟨f1, f2, s5, m5, i5, f3⟩ := fl_fin (Ieee.double.nearest s m i) s rung hrg hw
    refine ⟨Ieee.double.nearest s m i, w, run_convert_float_float w 166 165 .f32 .f64 x _ ha hb ?_, Drawn0.refl w, ?_⟩
    · have hd' : FloatKind.f32.decode x = .number s m i := hd
      unfold floatToFloatBits
      rw [if_neg (by decide), hd']
      have he : FloatKind.f64.encode (.number s m i) = Ieee.double.nearest s m i := rfl
      have hf : (FloatKind.f64.decode (Ieee.double.nearest s m i)).isInfinity = false := by
        have : FloatKind.f64.decode (Ieee.double.nearest s m i) = .number s5 m5 i5 := f3
        rw [this]
        rfl
      dsimp only
      rw [he, hf]
      rfl
    · rw [fl_and _ f1, f2, fl_gt rung hrg, fl_self _ _ _ _ f3]
      rfl
def impl_finite.f (a0 : Int) : Option Bool := if 0 ≤ a0 ∧ a0 < 4294967296 then some (a0 / 8388608 % 256 != 255) else none
theorem impl_finite.calls (a0 : Int) (r : Bool) (w : World) (h : impl_finite.f a0 = some r) :
    Calls Try.prog 79 #[.int .u32 a0] w fun e w' => e = .returned (.bool r) ∧ Drawn0 w w' := by
  unfold impl_finite.f at h
  by_cases hr : 0 ≤ a0 ∧ a0 < 4294967296
  · rw [if_pos hr] at h
    obtain rfl := Option.some.inj h
    obtain ⟨n, rfl⟩ := Int.eq_ofNat_of_zero_le hr.1
    obtain ⟨b, w1, h1, h2, h3⟩ := fl_convert n (by omega) w
    refine finite_calls (n : Int) b _ w w1 (by simpa using h1) h2 ?_
    rw [h3]
    have e : (((n : Nat) : Int) / 8388608 % 256 != 255) = (n / 8388608 % 256 != 255) := by
      by_cases hn : n / 8388608 % 256 = 255
      · rw [bne_eq_false_iff_eq.2 hn, bne_eq_false_iff_eq.2 (by omega)]
      · rw [bne_iff_ne.2 hn, bne_iff_ne.2 (by omega)]
    exact e
  · rw [if_neg hr] at h
    cases h

/-! ### slices_Clone_uint32_uint32: function 147 -/
def slices_Clone_uint32_uint32.f (l0 : List Int) : Option (List Int) := if l0.length ≤ 35184372088832 then some l0 else none
set_option maxHeartbeats 400000 in
theorem slices_Clone_uint32_uint32.calls (A0 : Option Addr) (c0 : Nat) (l0 : List Int) (r : List Int) (w : World) (hr0 : Kd.C (Kd.int .u32) w A0 l0.length l0) (hc0 : l0.length ≤ c0) (h : slices_Clone_uint32_uint32.f l0 = some r) :
    Calls Try.prog 147 #[.slice A0 l0.length c0] w fun e w' => ∃ v0_ : Value, e = .returned (v0_) ∧ Kd.R (Kd.int .u32) 50 w' w.heap.size (fun _ => True) v0_ r ∧ Below w.heap.size w w' := by
  unfold slices_Clone_uint32_uint32.f at h
  split at h
  · rename_i hl
    obtain rfl := Option.some.inj h
    clear h
    have keq := fun (w : World) (n c : Nat) => Go.Lib.run_eql_slice_nil (P := Try.prog) w 23 50 A0 n c 0 0 Try.underlying23
    cases A0 with
    | none =>
      obtain rfl : l0 = [] := by
        rcases l0 with _ | ⟨x, l0⟩
        · rfl
        · obtain ⟨ad, e, _⟩ := hr0.2.2 (by simp)
          cases e
      simp only [Option.isNone_none] at keq
      go_enter Try.func147, Try.ntmps147
      go_wp2
      go_ret
      exact ⟨_, rfl, Kd.R_nil _ _ _ _ _, Below.refl _ _⟩
    | some ad =>
      simp only [Option.isNone_some] at keq
      have HC := Aside0.mk hr0
      have HB := Aside0.mk (below_alloc (Below.refl w.heap.size w) (.cells #[] 50))
      have HO : Aside0 (Kd.R (Kd.int .u32) 50 (w.alloc (.cells #[] 50)) w.heap.size (fun _ => True) (.slice (some ⟨w.heap.size, 0, none⟩) 0 0) []) :=
        ⟨⟨fun _ _ => trivial, [], World.ownsRow_made (base := w.heap.size) (e := 50) (size := 1) w #[] 0 (Nat.le_refl _) (by simp [maxLen]) rfl, Reps.none _ _⟩⟩
      have HR := Aside0.mk (Kd.C_below hr0 HB.out)
      clear hr0
      go_enter Try.func147, Try.ntmps147
      go_wp2_with (at_builtin; refine Kd.R_append_row (Value.int .u32) (0 : Int) (h1 := fun _ => rfl) (w0 := w) w.heap.size rfl (.tmp 5) (.tmp 6) 23 50 (.int .u32 0) 4 rfl Try.underlying23 info50 rfl (by decide) _ [] l0 (some ad) l0.length c0 (fun _ => True) rfl rfl (fun _ _ => trivial) HO.out HR.out HB.out (by simp) (by simp; omega) ?_; intro v1 w1 hv hb _ _)
      go_ret
      exact ⟨_, rfl, hv, hb⟩
  · cases h

/-! ### impl_number_big: function 117 -/
def impl_number_big.f (a0_0 : Bool) (l0_1 : List Int) : Option (Bool × List Int × Int) := if (l0_1.length : Int) > 512 then (some (false, ([] : List Int), 2)) else ((slices_Clone_uint32_uint32.f l0_1).bind fun t226 => (some (a0_0, t226, 0)))
def impl_number_big.T3 : Bool × List (List Nat × List Nat) := (true, [([], []), ([0], [0]), ([], []), ([2], [2]), ([3], [3]), ([1, 4], [1, 4]), ([5, 4, 0, 1, 2, 3, 4, 5], [5]), ([6, 0, 1, 2, 3, 4, 5, 6], [])])
def impl_number_big.B3 : List Nat := [0, 1, 0, 4, 12, 31, 63, 127]
theorem impl_number_big.tab3 : rtab .any (opsOf Try.f117 3) = impl_number_big.T3 := by kernel_rfl
theorem impl_number_big.bits3 : waitsOk impl_number_big.T3.2 impl_number_big.B3 = true := by kernel_rfl
set_option maxHeartbeats 8000000 in
set_option maxRecDepth 100000 in
theorem impl_number_big.calls (a0_0 : Bool) (A0_1 : Option Addr) (c0_1 : Nat) (l0_1 : List Int) (r1 : Bool) (r2 : List Int) (r3 : Int) (w : World) (hr0_1 : Kd.C (Kd.int .u32) w A0_1 l0_1.length l0_1) (hc0_1 : l0_1.length ≤ c0_1) (h : impl_number_big.f a0_0 l0_1 = some (r1, r2, r3)) :
 Calls Try.prog 117 #[.agg #[.bool a0_0, .slice A0_1 l0_1.length c0_1]] w fun e w' => ∃ v1_ : Value, e = .returned (.tuple #[.agg #[.bool r1, v1_], .int .i64 r3]) ∧ Kd.R (Kd.int .u32) 50 w' w.heap.size (fun _ => True) v1_ r2 ∧ Below w.heap.size w w' := by
 have hu101 := Try.underlying101; have hu28 := Try.underlying28; have HR0_1 := AM hr0_1; have HC0_1 := AM hc0_1; clear hr0_1 hc0_1; have HB := AM (Below.refl w.heap.size w)
 have H : (if (l0_1.length : Int) > 512 then (some (false, ([] : List Int), 2)) else ((slices_Clone_uint32_uint32.f l0_1).bind fun t226 => (some (a0_0, t226, 0)))) = some (r1, r2, r3) := h
 clear h
 by_cases c2 : (l0_1.length : Int) > 512
 · rw [if_pos c2] at H
   have c2b0 : decide (512 < (l0_1.length : Int)) = true := decide_eq_true c2
   have c2b1 : decide (512 < l0_1.length) = true := decide_eq_true (by omega)
   clear c2
   simp only [Option.some.injEq, Prod.mk.injEq] at H
   obtain ⟨rfl, rfl, rfl⟩ := H
   go_enter Try.func117, Try.ntmps117
   go_wp2_with (first | ((with_reducible refine gate_dst (N := 1) rfl ?_); refine box_event ?hg (N := 1) ?hd (cs := #[.bool a0_0, .slice A0_1 l0_1.length c0_1]) (t := 101) ?hr ?_; (case hd => rfl); (case hg => rfl); (case hr => first | (go_simp; done) | (go_simp; rfl)); intro gb224 hg w3 hbox hb; have BK224 := AM (hbox); have GW224 := gH HB hg; have GE224 := gH HB hg; replace HB := AM (below_step (pH HB) hb); clear hb hbox hg) | ((with_reducible refine gate_dst (N := 2) rfl ?_); refine box_event ?hg (N := 2) ?hd (cs := #[.bool false, .slice none 0 0]) (t := 28) ?hr ?_; (case hd => rfl); (case hg => rfl); (case hr => first | (go_simp; done) | (go_simp; rfl)); intro gb225 hg w4 hbox hb; have BK225 := AM (hbox); have GW225 := gH HB hg; have GE225 := gH HB hg; replace HB := AM (below_step (pH HB) hb); have NB224_225 := nL BK224 hg; have NB225_224 := nG BK224 hg; replace BK224 := bB BK224 hb; clear hb hbox hg; have hnb5 := NB224_225.out; have hnc5 := NB225_224.out; have ⟨hcz6_0, hcz6_1, hfz6_0, hfz6_1⟩ := z2 BK224; have ⟨hcz7_0, hcz7_1, hfz7_0, hfz7_1⟩ := z2 BK225))
   refine bodyPost_ret (results_ct rfl _ _ gb225 28 #[.bool false, .slice none 0 0] (0, 0) _ rfl (by refine sB ?_; refine blk_put (cs := #[.bool false, .slice none 0 0]) ?_ 1 _ rfl; refine sB ?_; refine blk_put (cs := #[.bool false, .slice none 0 0]) ?_ 0 _ rfl; refine sB ?_; exact BK225.out) Try.underlying28 rfl (by kernel_rfl)) rfl ?_
   exact ⟨_, by first | rfl | (simp [errW_none, errW_some] <;> rfl) | (simp [*, errW_none, errW_some] <;> rfl), by first | exact Kd.R_nil _ _ _ _ _ | exact Kd.N_nil _ _ _ _ _ | exact Kd.V_nil _ _ _ _ _ | exact Kd.Q_nil _ _ _ _ _ | exact Kd.S_nil _ _ _ _ _, pH HB⟩
 rw [if_neg c2] at H
 have c2b0 : decide (512 < (l0_1.length : Int)) = false := decide_eq_false c2
 have c2b1 : decide (512 < l0_1.length) = false := decide_eq_false (by omega)
 clear c2
 replace H := Option.bind_eq_some_iff.mp H
 obtain ⟨t226, A80, H⟩ := H
 (try dsimp only at H)
 have A8 := AM A80; clear A80
 simp only [Option.some.injEq, Prod.mk.injEq] at H
 obtain ⟨rfl, rfl, rfl⟩ := H
 go_enter Try.func117, Try.ntmps117
 try go_wp2_with (first | ((with_reducible refine gate_dst (N := 1) rfl ?_); refine box_event ?hg (N := 1) ?hd (cs := #[.bool a0_0, .slice A0_1 l0_1.length c0_1]) (t := 101) ?hr ?_; (case hd => rfl); (case hg => rfl); (case hr => first | (go_simp; done) | (go_simp; rfl)); intro gb224 hg w9 hbox hb; have BK224 := AM (hbox); have GW224 := gH HB hg; have GE224 := gH HB hg; replace HB := AM (below_step (pH HB) hb); clear hb hbox hg) | ((with_reducible refine gate_dst (N := 2) rfl ?_); refine box_event ?hg (N := 2) ?hd (cs := #[.bool false, .slice none 0 0]) (t := 28) ?hr ?_; (case hd => rfl); (case hg => rfl); (case hr => first | (go_simp; done) | (go_simp; rfl)); intro gb225 hg w10 hbox hb; have BK225 := AM (hbox); have GW225 := gH HB hg; have GE225 := gH HB hg; replace HB := AM (below_step (pH HB) hb); have NB224_225 := nL BK224 hg; have NB225_224 := nG BK224 hg; replace BK224 := bB BK224 hb; clear hb hbox hg; have hnb11 := NB224_225.out; have hnc11 := NB225_224.out; have ⟨hcz12_0, hcz12_1, hfz12_0, hfz12_1⟩ := z2 BK224))
 replace BK224 := AM (blk_drew BK224.out); replace BK225 := AM (blk_drew BK225.out); replace HB := AM (below_drew1 HB.out)
 refine start_ (n := 8) (S := fun w' => w'.cell? ⟨gb224, 0, none⟩ = some (.bool a0_0) ∧ w'.cell? ⟨gb224, 1, none⟩ = some (.slice A0_1 l0_1.length c0_1)) (ds := []) #[false, false, false, false, false, false, false, false] (by kernel_rfl) rfl rfl ⟨(blk_cell BK224.out 0).trans rfl, (blk_cell BK224.out 1).trans rfl⟩ (fun hHeld => ?_); refine with_tabW impl_number_big.tab3 impl_number_big.bits3 (fun HT_ HW_ => ?_)
 generalize w10.drew = w13 at BK224 BK225 HB hHeld ⊢
 refine pure_ (i := 0) (N := some 9) (v := ?_) (a' := ?_) #[true, false, false, false, false, false, false, false] rfl rfl (any_of HT_.out (by kernel_rfl)) (fun _ _ _ h => h) (Or.inl ⟨by rfl, ?_⟩) ?_ ?_
 rotate_left
 · intro w'
   go_simp
   with_reducible rfl
 rotate_left
 · simp only [Act.put, sa, sb, sc, i64_w, i32_w]
   rfl
 refine pure_ (i := 2) (N := some 11) (v := ?_) (a' := ?_) #[true, false, true, false, false, false, false, false] rfl rfl (any_of HT_.out (by kernel_rfl)) (fun _ _ _ h => h) (Or.inl ⟨by rfl, ?_⟩) ?_ ?_
 rotate_left
 · intro w'
   go_simp
   with_reducible rfl
 rotate_left
 · simp only [Act.put, sa, sb, sc, i64_w, i32_w]
   rfl
 refine take_ (i := 1) (N := some 10) (v := ?_) (a' := ?_) #[true, true, true, false, false, false, false, false] rfl rfl (take_ofW HT_.out HW_.out (by kernel_rfl)) (fun _ _ _ h => h) (Or.inl ⟨by rfl, ?_⟩) hHeld ?_ ?_
 rotate_left
 · rintro w' ⟨s0, s1⟩
   go_simp
   with_reducible rfl
 rotate_left
 · simp only [Act.put, sa, sb, sc, i64_w, i32_w]
   rfl
 refine take_ (i := 3) (N := some 12) (v := ?_) (a' := ?_) #[true, true, true, true, false, false, false, false] rfl rfl (take_ofW HT_.out HW_.out (by kernel_rfl)) (fun _ _ _ h => h) (Or.inl ⟨by rfl, ?_⟩) hHeld ?_ ?_
 rotate_left
 · rintro w' ⟨s0, s1⟩
   go_simp
   with_reducible rfl
 rotate_left
 · simp only [Act.put, sa, sb, sc, i64_w, i32_w]
   rfl
 refine one_ (i := 4) (N := some 13) #[true, true, true, true, true, false, false, false] rfl rfl (one_of HT_.out (by kernel_rfl)) (by decide) (fun K hK => ?_)
 refine goes_ Try.func147 (by kernel_rfl) rfl #[.slice A0_1 l0_1.length c0_1] (by rfl) rfl rfl (by (try simp only [List.map_toArray, List.map_cons, List.map_nil]); first | done | rfl | (simp only [List.length_drop, List.length_take]; rfl)) ?_
 with_reducible refine (slices_Clone_uint32_uint32.calls _ _ l0_1 t226 _ ?side1 ?side2 A8.out).mono ?_
 (case side1 => exact cB HR0_1 HB)
 (case side2 => exact HC0_1.out)
 rintro e w14 ⟨v227, rfl, ho0, hb⟩
 refine ⟨_, rfl, ?_⟩
 have HO228 := AM (Kd.R_lower ho0 (below_size (pH HB))); replace BK224 := bB BK224 hb; replace BK225 := bB BK225 hb; replace HB := AM (below_step (pH HB) hb)
 (try clear hb)
 (try clear hb2)
 (try clear hk)
 (try clear hi)
 (try clear ho0)
 obtain ⟨Ao15, co15, eo15⟩ := Kd.R_slice HO228.out
 (first | subst eo15 | (injection eo15 with f1_ f2_ f3_; have f4_ := f1_.symm; have f5_ := f3_.symm; clear f1_ f2_ f3_; subst f4_; subst f5_))
 refine hK.out _ _ ⟨(blk_cell BK224.out 0).trans rfl, (blk_cell BK224.out 1).trans rfl⟩ (fun hHeld => ?_)
 clear hK K
 refine norm_ (a' := ?_) ?_ ?_
 rotate_left
 · show Act.put _ (some 13) _ = _
   simp only [Act.put, sa, sb, sc, i64_w, i32_w]
   rfl
 refine pure_ (i := 5) (N := some 14) (v := ?_) (a' := ?_) #[true, true, true, true, true, true, false, false] rfl rfl (any_of HT_.out (by kernel_rfl)) (fun _ _ _ h => h) (Or.inl ⟨by rfl, ?_⟩) ?_ ?_
 rotate_left
 · intro w'
   go_simp
   with_reducible rfl
 rotate_left
 · simp only [Act.put, sa, sb, sc, i64_w, i32_w]
   rfl
 refine one_ (i := 6) (N := none) #[true, true, true, true, true, true, true, false] rfl rfl (one_of HT_.out (by kernel_rfl)) (by decide) (fun K hK => ?_)
 have hs16 : w14.cell? ⟨gb225, 0, none⟩ = some (.bool false) := (blk_cell BK225.out 0).trans rfl
 have hfs16 := blk_frozen BK225.out 0; have hns16_0 := NB224_225.out; have hms16_0 := NB225_224.out
 have hs17 : w14.cell? ⟨gb225, 1, none⟩ = some (.slice none 0 0) := (blk_cell BK225.out 1).trans rfl
 have hfs17 := blk_frozen BK225.out 1; have hns17_0 := NB224_225.out; have hms17_0 := NB225_224.out
 refine skip_ (w1 := ?_) (by rfl) rfl ?_ ?_
 rotate_left
 · go_simp
   rfl
 refine hK.out _ _ ⟨((cell_far (p := ⟨gb225, _, none⟩) NB224_225.out _).trans (((cell_far (p := ⟨gb225, _, none⟩) NB224_225.out _).trans (hHeld.1)))), ((cell_far (p := ⟨gb225, _, none⟩) NB224_225.out _).trans (((cell_far (p := ⟨gb225, _, none⟩) NB224_225.out _).trans (hHeld.2))))⟩ (fun hHeld => ?_)
 clear hK K
 refine pure_ (i := 7) (N := some 3) (v := ?_) (a' := ?_) #[true, true, true, true, true, true, true, true] rfl rfl (any_of HT_.out (by kernel_rfl)) (fun _ _ _ h => h) (Or.inl ⟨by rfl, ?_⟩) ?_ ?_
 rotate_left
 · intro w'
   go_simp
   with_reducible rfl
 rotate_left
 · simp only [Act.put, sa, sb, sc, i64_w, i32_w]
   rfl
 refine done_ (done_of HT_.out (by kernel_rfl)) ?_
 try go_wp2
 refine bodyPost_ret (results_ct rfl _ _ gb225 28 #[.bool a0_0, .slice Ao15 t226.length co15] (0, 0) _ rfl (by refine sB ?_; refine blk_put (cs := #[.bool a0_0, .slice none 0 0]) ?_ 1 _ rfl; refine sB ?_; refine blk_put (cs := #[.bool false, .slice none 0 0]) ?_ 0 _ rfl; refine sB ?_; exact BK225.out) Try.underlying28 rfl (by kernel_rfl)) rfl ?_
 exact ⟨_, by first | rfl | (simp [errW_none, errW_some] <;> rfl) | (simp [*, errW_none, errW_some] <;> rfl), by (with_reducible repeat (first | apply Kd.R_alloc | apply Kd.R_drewN | apply Kd.R_drew)); exact Kd.R_mono (Kd.R_far (p := ⟨gb225, 1, none⟩) (Kd.R_far (p := ⟨gb225, 0, none⟩) (Kd.R_types HO228.out BK225.out (by decide)) (fun _ hk => hk.2) (.bool a0_0)) (fun _ hk => hk.2) (.slice Ao15 t226.length co15)) (fun _ hk => trivial), pH HB⟩

/-! ### impl_limbs_twos: function 156 -/
def impl_limbs_twos.l0 : Nat → List Int → Int → Option (Int)
 | 0, _, _ => none
 | k + 1, x0, x3 => if 0 ≤ (wrap64 (Int.tdiv x3 32)) then (if (wrap64 (Int.tdiv x3 32)) < (x0.length : Int) then (if 0 ≤ (Int.tmod x3 32) then (if (Go.bits .and .u32 (shr .u32 (rd x0 (wrap64 (Int.tdiv x3 32))) (Int.tmod x3 32)) 1) = 0 then (impl_limbs_twos.l0 k x0 (wrap64 (x3 + 1))) else (some x3)) else (none)) else (none)) else (none)
def impl_limbs_twos.f (k : Nat) (l0 : List Int) : Option (Int) := impl_limbs_twos.l0 k l0 0
theorem impl_limbs_twos.mono_l : ∀ k, (∀ y0 y1, LeO (impl_limbs_twos.l0 k y0 y1) (impl_limbs_twos.l0 (k + 1) y0 y1))
 | 0 => fun _ _ r h => by simp [impl_limbs_twos.l0] at h
 | k + 1 => by
  have ih0 := impl_limbs_twos.mono_l k
  · intro y0 y1
    unfold impl_limbs_twos.l0
    repeat' with_reducible first | exact ih0 _ _ | exact LeO.refl _ | exact LeO.none _ | refine LeO.ite ?_ ?_ | refine LeO.bind ?_ (fun _ => ?_)
theorem impl_limbs_twos.mono : ∀ a0 k, LeO (impl_limbs_twos.f k a0) (impl_limbs_twos.f (k + 1) a0) := by
 intro a0 k
 have ih0 := impl_limbs_twos.mono_l k
 unfold impl_limbs_twos.f
 repeat' with_reducible first | exact ih0 _ _ | exact LeO.refl _ | exact LeO.none _ | refine LeO.ite ?_ ?_ | refine LeO.bind ?_ (fun _ => ?_)
set_option maxHeartbeats 8000000 in
set_option maxRecDepth 100000 in
theorem impl_limbs_twos.calls (k : Nat) (A0 : Option Addr) (c0 : Nat) (l0 : List Int) (r : Int) (w : World) (hr0 : Kd.C (Kd.int .u32) w A0 l0.length l0) (hc0 : l0.length ≤ c0) (h : impl_limbs_twos.f k l0 = some r) :
 Calls Try.prog 156 #[.slice A0 l0.length c0] w fun e w' => e = .returned (.int .i64 r) ∧ Drawn0 w w' := by
 have HR0 := AM hr0; have HC0 := AM hc0; clear hr0 hc0
 have H : (impl_limbs_twos.l0 k l0 0) = some r := h
 clear h
 have H' := AM H
 clear H
 go_enter Try.func156, Try.ntmps156
 go_wp2
 go_loopg [3] k (fun kq v3 w' => ∃ (x3_1 : Int), v3 = .int .i64 x3_1 ∧ Aside0 (impl_limbs_twos.l0 kq l0 x3_1 = some r) ∧ Aside0 (kq ≤ k) ∧ Drawn0 w w')
 case atStart => exact ⟨(0), (by first | rfl | (simp; done) | (simp [*]; done)), H', ⟨Nat.le_refl _⟩, by repeat (first | exact Drawn0.refl _ | apply Drawn0.step)⟩
 case round =>
  clear H'
  try clear c1
  obtain ⟨x3_1, rfl, HA, HK1, ⟨m1, rfl⟩⟩ := hrel
  cases gk with
  | zero => exact absurd HA.out (by simp [impl_limbs_twos.l0])
  | succ k1 =>
   have H := HA.out; clear HA
   simp only [impl_limbs_twos.l0] at H
   obtain ⟨ji2, hji2⟩ : ∃ j_ : Int, (wrap64 (Int.tdiv x3_1 32)) = j_ := ⟨_, rfl⟩
   replace H : (if 0 ≤ (ji2) then (if (ji2) < (l0.length : Int) then (if 0 ≤ (Int.tmod x3_1 32) then (if (Go.bits .and .u32 (shr .u32 (rd l0 (ji2)) (Int.tmod x3_1 32)) 1) = 0 then (impl_limbs_twos.l0 k1 l0 (wrap64 (x3_1 + 1))) else (some x3_1)) else (none)) else (none)) else (none)) = some r := by first | (rw [hji2] at H; exact H) | (simp only [hji2] at H ⊢; exact H)
   have hji2w : (IntKind.i64.wrap (Int.tdiv x3_1 32)) = ji2 := (i64_w _).trans hji2
   by_cases c3 : 0 ≤ (ji2)
   rotate_left
   · rw [if_neg c3] at H
     exact absurd H (by simp)

   rw [if_pos c3] at H
   have c3b0 : decide (0 ≤ (ji2)) = true := decide_eq_true c3
   clear c3
   by_cases c4 : (ji2) < (l0.length : Int)
   rotate_left
   · rw [if_neg c4] at H
     exact absurd H (by simp)
   rw [if_pos c4] at H
   have c4b0 : decide ((ji2) < (l0.length : Int)) = true := decide_eq_true c4
   clear c4
   obtain ⟨ji5, hji5⟩ : ∃ j_ : Int, (Int.tmod x3_1 32) = j_ := ⟨_, rfl⟩
   replace H : (if 0 ≤ (ji5) then (if (Go.bits .and .u32 (shr .u32 (rd l0 (ji2)) (ji5)) 1) = 0 then (impl_limbs_twos.l0 k1 l0 (wrap64 (x3_1 + 1))) else (some x3_1)) else (none)) = some r := by first | (rw [hji5] at H; exact H) | (simp only [hji5] at H ⊢; exact H)
   by_cases c6 : 0 ≤ (ji5)
   rotate_left
   · rw [if_neg c6] at H
     exact absurd H (by simp)
   rw [if_pos c6] at H
   have c6b0 := eq_true c6
   have c6b1 : decide (0 ≤ (ji5)) = true := decide_eq_true c6
   clear c6
   obtain ⟨ji7, hji7⟩ : ∃ j_ : Int, (shr .u32 (rd l0 (ji2)) (ji5)) = j_ := ⟨_, rfl⟩
   replace H : (if (Go.bits .and .u32 (ji7) 1) = 0 then (impl_limbs_twos.l0 k1 l0 (wrap64 (x3_1 + 1))) else (some x3_1)) = some r := by first | (rw [hji7] at H; exact H) | (simp only [hji7] at H ⊢; exact H)
   have hji7_ : ((rd l0 (ji2)) / 2 ^ min (ji5).toNat 32) = ji7 := hji7
   have hji7z : (ji5) ≤ 32 → ((rd l0 (ji2)) / 2 ^ (ji5).toNat) = ji7 := shr_small hji7
   by_cases c8 : (Go.bits .and .u32 (ji7) 1) = 0
   rotate_left
   · rw [if_neg c8] at H
     have c8b0 : ((Go.bits .and .u32 (ji7) 1) == 0) = false := beq_eq_false_iff_ne.mpr c8
     have c8b1 : ((Go.bits .and .u32 (ji7) 1) != 0) = true := bne_iff_ne.mpr c8
     obtain rfl := Option.some.inj H
     have p229 : 0 ≤ ((ji2) : Int) := of_decide_eq_true (by first | (with_reducible assumption) | assumption)
     have q229 : (ji2) < (l0.length : Int) := of_decide_eq_true (by first | (with_reducible assumption) | assumption)
     obtain ⟨ad229, e229, hx229_0⟩ := Kd.at_int HR0.out (ji2) p229 q229
     cases e229
     replace p229 := eq_true p229; replace q229 := eq_true q229
     go_wp2
     go_ret
     exact ⟨by first | rfl | (simp; done) | (simp only [← hji2, ← hji5, ← hji7] <;> (first | rfl | simp)) | (simp [*]; done), by repeat (first | exact Drawn0.refl _ | apply Drawn0.step)⟩
   rw [if_pos c8] at H
   have c8b0 : ((Go.bits .and .u32 (ji7) 1) == 0) = true := beq_iff_eq.mpr c8
   have c8b1 : ((Go.bits .and .u32 (ji7) 1) != 0) = false := bne_eq_false_iff_eq.mpr c8
   clear c8
   have H' := AM H
   clear H
   have p229 : 0 ≤ ((ji2) : Int) := of_decide_eq_true (by first | (with_reducible assumption) | assumption)
   have q229 : (ji2) < (l0.length : Int) := of_decide_eq_true (by first | (with_reducible assumption) | assumption)
   obtain ⟨ad229, e229, hx229_0⟩ := Kd.at_int HR0.out (ji2) p229 q229
   cases e229
   replace p229 := eq_true p229; replace q229 := eq_true q229
   go_wp2
   go_roundg k1
   case measure => have := HK1.out; omega
   case rel => exact ⟨(wrap64 (x3_1 + 1)), (by first | rfl | (simp; done) | (simp [*]; done)), H', ⟨by have := HK1.out; omega⟩, by repeat (first | exact Drawn0.refl _ | apply Drawn0.step)⟩
/-! ### impl_limbs_trim: function 148 -/
def impl_limbs_trim.l0 : Nat → List Int → Option (List Int)
 | 0, _ => none
 | k + 1, x0 => if (x0.length : Int) > 0 then (if 0 ≤ (wrap64 ((x0.length : Int) - 1)) then (if (wrap64 ((x0.length : Int) - 1)) < (x0.length : Int) then (if (rd x0 (wrap64 ((x0.length : Int) - 1))) = 0 then (if (wrap64 ((x0.length : Int) - 1)) ≤ (x0.length : Int) then (impl_limbs_trim.l0 k (x0.take ((wrap64 ((x0.length : Int) - 1)) : Int).toNat)) else (none)) else (some x0)) else (none)) else (none)) else (some x0)
def impl_limbs_trim.f (k : Nat) (l0 : List Int) : Option (List Int) := impl_limbs_trim.l0 k l0
theorem impl_limbs_trim.mono_l : ∀ k, (∀ y0, LeO (impl_limbs_trim.l0 k y0) (impl_limbs_trim.l0 (k + 1) y0))
 | 0 => fun _ r h => by simp [impl_limbs_trim.l0] at h
 | k + 1 => by
  have ih0 := impl_limbs_trim.mono_l k
  · intro y0
    unfold impl_limbs_trim.l0
    repeat' with_reducible first | exact ih0 _ | exact LeO.refl _ | exact LeO.none _ | refine LeO.ite ?_ ?_ | refine LeO.bind ?_ (fun _ => ?_)
theorem impl_limbs_trim.mono : ∀ a0 k, LeO (impl_limbs_trim.f k a0) (impl_limbs_trim.f (k + 1) a0) := by
 intro a0 k
 have ih0 := impl_limbs_trim.mono_l k
 unfold impl_limbs_trim.f
 repeat' with_reducible first | exact ih0 _ | exact LeO.refl _ | exact LeO.none _ | refine LeO.ite ?_ ?_ | refine LeO.bind ?_ (fun _ => ?_)
set_option maxHeartbeats 8000000 in
set_option maxRecDepth 100000 in
theorem impl_limbs_trim.calls (k : Nat) (P0_ : Nat → Prop) (A0 : Option Addr) (c0 : Nat) (l0 : List Int) (r : List Int) (w : World) (hs0 : Kd.V (Kd.int .u32) 50 w w.heap.size (fun k_ => P0_ k_) (.slice A0 l0.length c0) l0) (h : impl_limbs_trim.f k l0 = some r) :
 Calls Try.prog 148 #[.slice A0 l0.length c0] w fun e w' => ∃ v0_ : Value, e = .returned (v0_) ∧ Kd.V (Kd.int .u32) 50 w' w.heap.size (fun k_ => (P0_ k_ ∨ w.heap.size ≤ k_)) v0_ r ∧ Below w.heap.size w w' := by
 have HO0 := AM (show Kd.V (Kd.int .u32) 50 w w.heap.size (fun k_ => (P0_ k_ ∨ w.heap.size ≤ k_)) (.slice A0 l0.length c0) l0 from Kd.V_mono hs0 (fun k_ hk => .inl hk)); have HB := AM (Below.refl w.heap.size w)
 have H : (impl_limbs_trim.l0 k l0) = some r := h
 clear h
 have H' := AM H
 clear H
 go_enter Try.func148, Try.ntmps148
 go_wp2
 go_loopg [0] k (fun kq v0 w' => ∃ (x0_1 : List Int), Aside0 (impl_limbs_trim.l0 kq x0_1 = some r) ∧ Aside0 (kq ≤ k) ∧ Aside0 (Kd.V (Kd.int .u32) 50 w' w.heap.size (fun k_ => (P0_ k_ ∨ w.heap.size ≤ k_)) v0 x0_1) ∧ Aside0 (Below w.heap.size w w'))
 case atStart => exact ⟨(l0), H', ⟨Nat.le_refl _⟩, ⟨by (with_reducible repeat (first | apply Kd.V_alloc | apply Kd.V_drewN | apply Kd.V_drew)); exact HO0.out⟩, ⟨pH HB⟩⟩
 case round =>
  clear H'
  try clear c1
  obtain ⟨x0_1, HA, HK1, HO_0, HB⟩ := hrel
  cases gk with
  | zero => exact absurd HA.out (by simp [impl_limbs_trim.l0])
  | succ k1 =>
   have H := HA.out; clear HA
   simp only [impl_limbs_trim.l0] at H
   by_cases c2 : (x0_1.length : Int) > 0
   rotate_left
   · rw [if_neg c2] at H
     have c2b0 : decide (0 < (x0_1.length : Int)) = false := decide_eq_false c2
     have c2b1 : decide (0 < x0_1.length) = false := decide_eq_false (by omega)
     clear c2
     obtain rfl := Option.some.inj H
     obtain ⟨Ao12, co12, eo12⟩ := Kd.V_slice HO_0.out
     subst eo12
     go_wp2
     go_ret
     exact ⟨_, by first | rfl | (simp [errW_none, errW_some] <;> rfl) | (simp [*, errW_none, errW_some] <;> rfl), by (with_reducible repeat (first | apply Kd.V_alloc | apply Kd.V_drewN | apply Kd.V_drew)); exact HO_0.out, pH HB⟩

   rw [if_pos c2] at H
   have c2b0 : decide (0 < (x0_1.length : Int)) = true := decide_eq_true c2
   have c2b1 : decide (0 < x0_1.length) = true := decide_eq_true (by omega)
   clear c2
   obtain ⟨ji3, hji3⟩ : ∃ j_ : Int, (wrap64 ((x0_1.length : Int) - 1)) = j_ := ⟨_, rfl⟩
   replace H : (if 0 ≤ (ji3) then (if (ji3) < (x0_1.length : Int) then (if (rd x0_1 (ji3)) = 0 then (if (ji3) ≤ (x0_1.length : Int) then (impl_limbs_trim.l0 k1 (x0_1.take ((ji3) : Int).toNat)) else (none)) else (some x0_1)) else (none)) else (none)) = some r := by first | (rw [hji3] at H; exact H) | (simp only [hji3] at H ⊢; exact H)
   have hji3w : (IntKind.i64.wrap ((x0_1.length : Int) - 1)) = ji3 := (i64_w _).trans hji3
   by_cases c4 : 0 ≤ (ji3)
   rotate_left
   · rw [if_neg c4] at H
     exact absurd H (by simp)
   rw [if_pos c4] at H
   have c4b0 : decide (0 ≤ (ji3)) = true := decide_eq_true c4
   clear c4
   by_cases c5 : (ji3) < (x0_1.length : Int)
   rotate_left
   · rw [if_neg c5] at H
     exact absurd H (by simp)
   rw [if_pos c5] at H
   have c5b0 : decide ((ji3) < (x0_1.length : Int)) = true := decide_eq_true c5
   clear c5
   by_cases c6 : (rd x0_1 (ji3)) = 0
   rotate_left
   · rw [if_neg c6] at H
     have c6b0 : ((rd x0_1 (ji3)) == 0) = false := beq_eq_false_iff_ne.mpr c6
     have c6b1 : ((rd x0_1 (ji3)) != 0) = true := bne_iff_ne.mpr c6
     obtain rfl := Option.some.inj H
     obtain ⟨Ao11, co11, eo11⟩ := Kd.V_slice HO_0.out
     subst eo11
     have p230 : 0 ≤ ((ji3) : Int) := of_decide_eq_true (by first | (with_reducible assumption) | assumption)
     have q230 : (ji3) < (x0_1.length : Int) := of_decide_eq_true (by first | (with_reducible assumption) | assumption)
     obtain ⟨ad230, e230, hx230_0⟩ := Kd.at_int (Kd.V_reads' HO_0.out).2.2 (ji3) p230 q230
     cases e230
     replace p230 := eq_true p230; replace q230 := eq_true q230
     go_wp2
     go_ret
     exact ⟨_, by first | rfl | (simp [errW_none, errW_some] <;> rfl) | (simp only [← hji3]; first | rfl | (simp [errW_none, errW_some] <;> rfl)) | (simp [*, errW_none, errW_some] <;> rfl), by (with_reducible repeat (first | apply Kd.V_alloc | apply Kd.V_drewN | apply Kd.V_drew)); exact HO_0.out, pH HB⟩
   rw [if_pos c6] at H
   have c6b0 : ((rd x0_1 (ji3)) == 0) = true := beq_iff_eq.mpr c6
   have c6b1 : ((rd x0_1 (ji3)) != 0) = false := bne_eq_false_iff_eq.mpr c6
   clear c6; have c7b0 := eq_true (of_decide_eq_true (by first | (with_reducible assumption) | assumption) : 0 ≤ (ji3))
   by_cases c8 : (ji3) ≤ (x0_1.length : Int)
   rotate_left
   · rw [if_neg c8] at H
     exact absurd H (by simp)
   rw [if_pos c8] at H
   have c8b0 := eq_true c8
   have c8b1 : decide ((ji3) ≤ (x0_1.length : Int)) = true := decide_eq_true c8
   clear c8
   obtain ⟨y231, hy231⟩ : ∃ y_ : List Int, y_ = (x0_1.take ((ji3) : Int).toNat) := ⟨_, rfl⟩
   replace H : (impl_limbs_trim.l0 k1 y231) = some r := by first | (rw [hy231]; with_reducible exact H) | (have H2_ := (Option.bind_some _ _).symm.trans H; rw [hy231]; with_reducible exact H2_) | (have H2_ := (Option.bind_some _ _).symm.trans H; with_reducible exact H2_) | with_reducible exact H | (rw [hy231]; exact H) | exact H
   have Ny231 := AM hy231; clear hy231
   have H' := AM H
   clear H
   obtain ⟨Ao9, co9, eo9⟩ := Kd.V_slice HO_0.out
   subst eo9
   have p230 : 0 ≤ ((ji3) : Int) := of_decide_eq_true (by first | (with_reducible assumption) | assumption)
   have q230 : (ji3) < (x0_1.length : Int) := of_decide_eq_true (by first | (with_reducible assumption) | assumption)
   obtain ⟨ad230, e230, hx230_0⟩ := Kd.at_int (Kd.V_reads' HO_0.out).2.2 (ji3) p230 q230
   cases e230
   replace p230 := eq_true p230; replace q230 := eq_true q230
   have q10 : ((ji3) : Int) ≤ ((x0_1.length : Int) : Int) := of_decide_eq_true (by first | (with_reducible assumption) | assumption)
   obtain ⟨i010, hi010, _, hsz10, _⟩ := info_parts info50
   have hroom10 : x0_1.length ≤ co9 := (Kd.V_reads' HO_0.out).2.1
   have hC10 : Kd.F (Kd.int .u32) _ _ (some ad230) x0_1.length x0_1 := (Kd.V_at (base := w.heap.size) HO_0.out).2.2
   have hcut10 := cut_to (P := Try.prog) 99 50 .i64 Try.underlying99 hi010 (some ad230) x0_1.length co9 (ji3) (of_decide_eq_true (by first | (with_reducible assumption) | assumption)) q10 hroom10; have hr10 := Kd.F_take (m := ((ji3) : Int).toNat) hC10 (by omega)
   have hy10 : y231.length = ((ji3) : Int).toNat := (by rw [Ny231.out, List.length_take]; omega)
   rw [← Ny231.out] at hr10
   rw [← hy10] at hcut10
   have HO235 := AM (show Kd.V (Kd.int .u32) 50 _ w.heap.size _ (.slice (some ad230) y231.length co9) y231 from Kd.V_mk (by omega) hr10); have HC235 := AM (show y231.length ≤ co9 from by omega); clear hr10 hC10 hroom10 hi010 hsz10; have KY10 := AM hy10; clear hy10; replace q10 := eq_true q10
   go_wp2
   go_roundg k1
   case measure => have := HK1.out; omega
   case rel => exact ⟨(y231), H', ⟨by have := HK1.out; omega⟩, ⟨by (with_reducible repeat (first | apply Kd.V_alloc | apply Kd.V_drewN | apply Kd.V_drew)); exact HO235.out⟩, ⟨pH HB⟩⟩
end Go.Proofs.Ytcpdeenhjodmfaa.QDyOf
