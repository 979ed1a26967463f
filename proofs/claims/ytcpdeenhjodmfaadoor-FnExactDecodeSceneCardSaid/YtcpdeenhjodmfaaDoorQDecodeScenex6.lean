-- Written by wip/tools/mkprint.py (my program) out of the translation, for this claim. Not trusted: Lean checks it.
import Derived.Test.YtcpdeenhjodmfaaDoorQDecodeScenex0
namespace Go.Proofs.YtcpdeenhjodmfaaDoor.QDecodeScene
open Go.RowKit Go.Proofs.YtcpdeenhjodmfaaDoorW.PrintWords Go.Proofs.YtcpdeenhjodmfaaDoorW.PrintLast Go.Proofs.YtcpdeenhjodmfaaDoorW.PrintMore
attribute [local go_sem] max2_int min2_int max_two min_two max_three min_three max_four min_four   -- for this text's walks alone
set_option maxHeartbeats 8000000
set_option maxRecDepth 100000
set_option linter.unusedVariables false
set_option linter.unusedSimpArgs false

/-! ### laws_eqPoint: function 61 -/
def laws_eqPoint.f (a0_0 : Int) (a0_1 : Int) (a0_2 : Int) (a1_0 : Int) (a1_1 : Int) (a1_2 : Int) : Option (Bool) := if a0_0 = a1_0 then (if a0_1 = a1_1 then (if a0_2 = a1_2 then (some true) else (some false)) else (some false)) else (some false)
theorem laws_eqPoint.calls (a0_0 : Int) (a0_1 : Int) (a0_2 : Int) (a1_0 : Int) (a1_1 : Int) (a1_2 : Int) (r : Bool) (w : World) (h : laws_eqPoint.f a0_0 a0_1 a0_2 a1_0 a1_1 a1_2 = some r) :
 Calls Tryd.prog 61 #[.agg #[.int .u32 a0_0, .int .u32 a0_1, .int .u32 a0_2], .agg #[.int .u32 a1_0, .int .u32 a1_1, .int .u32 a1_2]] w fun e w' => e = .returned (.bool r) ∧ Below w.heap.size w w' := by
 have hu67 := Tryd.underlying67; have HB := AM (Below.refl w.heap.size w)
 have H : (if a0_0 = a1_0 then (if a0_1 = a1_1 then (if a0_2 = a1_2 then (some true) else (some false)) else (some false)) else (some false)) = some r := h
 clear h
 by_cases c3 : a0_0 = a1_0
 rotate_left
 · rw [if_neg c3] at H
   have c3b0 : (a0_0 == a1_0) = false := beq_eq_false_iff_ne.mpr c3
   have c3b1 : (a0_0 != a1_0) = true := bne_iff_ne.mpr c3
   obtain rfl := Option.some.inj H
   go_enter Tryd.func61, Tryd.ntmps61
   go_wp2_with (first | ((with_reducible refine gate_dst (N := 2) rfl ?_); refine box_event ?hg (N := 2) ?hd (cs := #[.int .u32 a0_0, .int .u32 a0_1, .int .u32 a0_2]) (t := 67) ?hr ?_; (case hd => rfl); (case hg => rfl); (case hr => first | (go_simp; done) | (go_simp; rfl)); intro gb195 hg w21 hbox hb; have BK195 := AM (hbox); have GW195 := gH HB hg; have GE195 := gH HB hg; replace HB := AM (below_step (pH HB) hb); clear hb hbox hg) | ((with_reducible refine gate_dst (N := 3) rfl ?_); refine box_event ?hg (N := 3) ?hd (cs := #[.int .u32 a1_0, .int .u32 a1_1, .int .u32 a1_2]) (t := 67) ?hr ?_; (case hd => rfl); (case hg => rfl); (case hr => first | (go_simp; done) | (go_simp; rfl)); intro gb196 hg w22 hbox hb; have BK196 := AM (hbox); have GW196 := gH HB hg; have GE196 := gH HB hg; replace HB := AM (below_step (pH HB) hb); have NB195_196 := nL BK195 hg; have NB196_195 := nG BK195 hg; replace BK195 := bB BK195 hb; clear hb hbox hg; have hnb23 := NB195_196.out; have hnc23 := NB196_195.out; have ⟨hcz24_0, hcz24_1, hcz24_2, hfz24_0, hfz24_1, hfz24_2⟩ := z3 BK195; have ⟨hcz25_0, hcz25_1, hcz25_2, hfz25_0, hfz25_1, hfz25_2⟩ := z3 BK196))
   go_ret
   exact ⟨eW, pH HB⟩

 rw [if_pos c3] at H
 have c3b0 : (a0_0 == a1_0) = true := beq_iff_eq.mpr c3
 have c3b1 : (a0_0 != a1_0) = false := bne_eq_false_iff_eq.mpr c3
 clear c3
 by_cases c4 : a0_1 = a1_1
 rotate_left
 · rw [if_neg c4] at H
   have c4b0 : (a0_1 == a1_1) = false := beq_eq_false_iff_ne.mpr c4
   have c4b1 : (a0_1 != a1_1) = true := bne_iff_ne.mpr c4
   obtain rfl := Option.some.inj H
   go_enter Tryd.func61, Tryd.ntmps61
   go_wp2_with (first | ((with_reducible refine gate_dst (N := 2) rfl ?_); refine box_event ?hg (N := 2) ?hd (cs := #[.int .u32 a0_0, .int .u32 a0_1, .int .u32 a0_2]) (t := 67) ?hr ?_; (case hd => rfl); (case hg => rfl); (case hr => first | (go_simp; done) | (go_simp; rfl)); intro gb195 hg w16 hbox hb; have BK195 := AM (hbox); have GW195 := gH HB hg; have GE195 := gH HB hg; replace HB := AM (below_step (pH HB) hb); clear hb hbox hg) | ((with_reducible refine gate_dst (N := 3) rfl ?_); refine box_event ?hg (N := 3) ?hd (cs := #[.int .u32 a1_0, .int .u32 a1_1, .int .u32 a1_2]) (t := 67) ?hr ?_; (case hd => rfl); (case hg => rfl); (case hr => first | (go_simp; done) | (go_simp; rfl)); intro gb196 hg w17 hbox hb; have BK196 := AM (hbox); have GW196 := gH HB hg; have GE196 := gH HB hg; replace HB := AM (below_step (pH HB) hb); have NB195_196 := nL BK195 hg; have NB196_195 := nG BK195 hg; replace BK195 := bB BK195 hb; clear hb hbox hg; have hnb18 := NB195_196.out; have hnc18 := NB196_195.out; have ⟨hcz19_0, hcz19_1, hcz19_2, hfz19_0, hfz19_1, hfz19_2⟩ := z3 BK195; have ⟨hcz20_0, hcz20_1, hcz20_2, hfz20_0, hfz20_1, hfz20_2⟩ := z3 BK196))
   go_ret
   exact ⟨eW, pH HB⟩
 rw [if_pos c4] at H
 have c4b0 : (a0_1 == a1_1) = true := beq_iff_eq.mpr c4
 have c4b1 : (a0_1 != a1_1) = false := bne_eq_false_iff_eq.mpr c4
 clear c4
 by_cases c5 : a0_2 = a1_2
 rotate_left
 · rw [if_neg c5] at H
   have c5b0 : (a0_2 == a1_2) = false := beq_eq_false_iff_ne.mpr c5
   have c5b1 : (a0_2 != a1_2) = true := bne_iff_ne.mpr c5
   obtain rfl := Option.some.inj H
   go_enter Tryd.func61, Tryd.ntmps61
   go_wp2_with (first | ((with_reducible refine gate_dst (N := 2) rfl ?_); refine box_event ?hg (N := 2) ?hd (cs := #[.int .u32 a0_0, .int .u32 a0_1, .int .u32 a0_2]) (t := 67) ?hr ?_; (case hd => rfl); (case hg => rfl); (case hr => first | (go_simp; done) | (go_simp; rfl)); intro gb195 hg w11 hbox hb; have BK195 := AM (hbox); have GW195 := gH HB hg; have GE195 := gH HB hg; replace HB := AM (below_step (pH HB) hb); clear hb hbox hg) | ((with_reducible refine gate_dst (N := 3) rfl ?_); refine box_event ?hg (N := 3) ?hd (cs := #[.int .u32 a1_0, .int .u32 a1_1, .int .u32 a1_2]) (t := 67) ?hr ?_; (case hd => rfl); (case hg => rfl); (case hr => first | (go_simp; done) | (go_simp; rfl)); intro gb196 hg w12 hbox hb; have BK196 := AM (hbox); have GW196 := gH HB hg; have GE196 := gH HB hg; replace HB := AM (below_step (pH HB) hb); have NB195_196 := nL BK195 hg; have NB196_195 := nG BK195 hg; replace BK195 := bB BK195 hb; clear hb hbox hg; have hnb13 := NB195_196.out; have hnc13 := NB196_195.out; have ⟨hcz14_0, hcz14_1, hcz14_2, hfz14_0, hfz14_1, hfz14_2⟩ := z3 BK195; have ⟨hcz15_0, hcz15_1, hcz15_2, hfz15_0, hfz15_1, hfz15_2⟩ := z3 BK196))
   go_ret
   exact ⟨eW, pH HB⟩
 rw [if_pos c5] at H
 have c5b0 : (a0_2 == a1_2) = true := beq_iff_eq.mpr c5
 have c5b1 : (a0_2 != a1_2) = false := bne_eq_false_iff_eq.mpr c5
 clear c5
 obtain rfl := Option.some.inj H
 go_enter Tryd.func61, Tryd.ntmps61
 go_wp2_with (first | ((with_reducible refine gate_dst (N := 2) rfl ?_); refine box_event ?hg (N := 2) ?hd (cs := #[.int .u32 a0_0, .int .u32 a0_1, .int .u32 a0_2]) (t := 67) ?hr ?_; (case hd => rfl); (case hg => rfl); (case hr => first | (go_simp; done) | (go_simp; rfl)); intro gb195 hg w6 hbox hb; have BK195 := AM (hbox); have GW195 := gH HB hg; have GE195 := gH HB hg; replace HB := AM (below_step (pH HB) hb); clear hb hbox hg) | ((with_reducible refine gate_dst (N := 3) rfl ?_); refine box_event ?hg (N := 3) ?hd (cs := #[.int .u32 a1_0, .int .u32 a1_1, .int .u32 a1_2]) (t := 67) ?hr ?_; (case hd => rfl); (case hg => rfl); (case hr => first | (go_simp; done) | (go_simp; rfl)); intro gb196 hg w7 hbox hb; have BK196 := AM (hbox); have GW196 := gH HB hg; have GE196 := gH HB hg; replace HB := AM (below_step (pH HB) hb); have NB195_196 := nL BK195 hg; have NB196_195 := nG BK195 hg; replace BK195 := bB BK195 hb; clear hb hbox hg; have hnb8 := NB195_196.out; have hnc8 := NB196_195.out; have ⟨hcz9_0, hcz9_1, hcz9_2, hfz9_0, hfz9_1, hfz9_2⟩ := z3 BK195; have ⟨hcz10_0, hcz10_1, hcz10_2, hfz10_0, hfz10_1, hfz10_2⟩ := z3 BK196))
 go_ret
 exact ⟨eW, pH HB⟩
/-! ### laws_eqTri: function 59 -/
def laws_eqTri.f (a0_0 : Int) (a0_1 : Int) (a0_2 : Int) (a0_3 : Int) (a0_4 : Int) (a0_5 : Int) (a0_6 : Int) (a0_7 : Int) (a0_8 : Int) (a1_0 : Int) (a1_1 : Int) (a1_2 : Int) (a1_3 : Int) (a1_4 : Int) (a1_5 : Int) (a1_6 : Int) (a1_7 : Int) (a1_8 : Int) : Option (Bool) := (laws_eqPoint.f a0_0 a0_1 a0_2 a1_0 a1_1 a1_2).bind fun t199 => (if t199 = true then ((laws_eqPoint.f a0_3 a0_4 a0_5 a1_3 a1_4 a1_5).bind fun t200 => (if t200 = true then ((laws_eqPoint.f a0_6 a0_7 a0_8 a1_6 a1_7 a1_8).bind fun t201 => (if t201 = true then (some true) else (some false))) else (some false))) else (some false))
theorem laws_eqTri.calls (a0_0 : Int) (a0_1 : Int) (a0_2 : Int) (a0_3 : Int) (a0_4 : Int) (a0_5 : Int) (a0_6 : Int) (a0_7 : Int) (a0_8 : Int) (a1_0 : Int) (a1_1 : Int) (a1_2 : Int) (a1_3 : Int) (a1_4 : Int) (a1_5 : Int) (a1_6 : Int) (a1_7 : Int) (a1_8 : Int) (r : Bool) (w : World) (h : laws_eqTri.f a0_0 a0_1 a0_2 a0_3 a0_4 a0_5 a0_6 a0_7 a0_8 a1_0 a1_1 a1_2 a1_3 a1_4 a1_5 a1_6 a1_7 a1_8 = some r) :
 Calls Tryd.prog 59 #[.agg #[.int .u32 a0_0, .int .u32 a0_1, .int .u32 a0_2, .int .u32 a0_3, .int .u32 a0_4, .int .u32 a0_5, .int .u32 a0_6, .int .u32 a0_7, .int .u32 a0_8], .agg #[.int .u32 a1_0, .int .u32 a1_1, .int .u32 a1_2, .int .u32 a1_3, .int .u32 a1_4, .int .u32 a1_5, .int .u32 a1_6, .int .u32 a1_7, .int .u32 a1_8]] w fun e w' => e = .returned (.bool r) ∧ Below w.heap.size w w' := by
 have hu70 := Tryd.underlying70; have hu67 := Tryd.underlying67; have HB := AM (Below.refl w.heap.size w)
 have H : ((laws_eqPoint.f a0_0 a0_1 a0_2 a1_0 a1_1 a1_2).bind fun t199 => (if t199 = true then ((laws_eqPoint.f a0_3 a0_4 a0_5 a1_3 a1_4 a1_5).bind fun t200 => (if t200 = true then ((laws_eqPoint.f a0_6 a0_7 a0_8 a1_6 a1_7 a1_8).bind fun t201 => (if t201 = true then (some true) else (some false))) else (some false))) else (some false))) = some r := h
 clear h
 replace H := Option.bind_eq_some_iff.mp H
 obtain ⟨t199, A30, H⟩ := H
 (try dsimp only at H)
 have A3 := AM A30; clear A30
 by_cases c4 : t199 = true
 rotate_left
 · replace c4 := Bool.eq_false_iff.mpr c4
   subst c4
   have H1 : (some false) = some r := by rw [if_neg (show ¬ (false = true) by decide)] at H; exact H
   clear H; have H := H1; clear H1
   obtain rfl := Option.some.inj H
   go_enter Tryd.func59, Tryd.ntmps59
   go_wp2_with (first | ((with_reducible refine gate_dst (N := 2) rfl ?_); refine box_event ?hg (N := 2) ?hd (cs := #[.int .u32 a0_0, .int .u32 a0_1, .int .u32 a0_2, .int .u32 a0_3, .int .u32 a0_4, .int .u32 a0_5, .int .u32 a0_6, .int .u32 a0_7, .int .u32 a0_8]) (t := 70) ?hr ?_; (case hd => rfl); (case hg => rfl); (case hr => first | (go_simp; done) | (go_simp; rfl)); intro gb197 hg w42 hbox hb; have BK197 := AM (hbox); have GW197 := gH HB hg; have GE197 := gH HB hg; replace HB := AM (below_step (pH HB) hb); clear hb hbox hg) | ((with_reducible refine gate_dst (N := 3) rfl ?_); refine box_event ?hg (N := 3) ?hd (cs := #[.int .u32 a1_0, .int .u32 a1_1, .int .u32 a1_2, .int .u32 a1_3, .int .u32 a1_4, .int .u32 a1_5, .int .u32 a1_6, .int .u32 a1_7, .int .u32 a1_8]) (t := 70) ?hr ?_; (case hd => rfl); (case hg => rfl); (case hr => first | (go_simp; done) | (go_simp; rfl)); intro gb198 hg w43 hbox hb; have BK198 := AM (hbox); have GW198 := gH HB hg; have GE198 := gH HB hg; replace HB := AM (below_step (pH HB) hb); have NB197_198 := nL BK197 hg; have NB198_197 := nG BK197 hg; replace BK197 := bB BK197 hb; clear hb hbox hg; have hnb44 := NB197_198.out; have hnc44 := NB198_197.out; have hcz45_0 : w43.cell? ⟨gb197, 0, none⟩ = some (.int .u32 a0_0) := (blk_cell BK197.out 0).trans rfl; have hcz45_1 : w43.cell? ⟨gb197, 1, none⟩ = some (.int .u32 a0_1) := (blk_cell BK197.out 1).trans rfl; have hcz45_2 : w43.cell? ⟨gb197, 2, none⟩ = some (.int .u32 a0_2) := (blk_cell BK197.out 2).trans rfl; have hcz45_3 : w43.cell? ⟨gb197, 3, none⟩ = some (.int .u32 a0_3) := (blk_cell BK197.out 3).trans rfl; have hcz45_4 : w43.cell? ⟨gb197, 4, none⟩ = some (.int .u32 a0_4) := (blk_cell BK197.out 4).trans rfl; have hcz45_5 : w43.cell? ⟨gb197, 5, none⟩ = some (.int .u32 a0_5) := (blk_cell BK197.out 5).trans rfl; have hcz45_6 : w43.cell? ⟨gb197, 6, none⟩ = some (.int .u32 a0_6) := (blk_cell BK197.out 6).trans rfl; have hcz45_7 : w43.cell? ⟨gb197, 7, none⟩ = some (.int .u32 a0_7) := (blk_cell BK197.out 7).trans rfl; have hcz45_8 : w43.cell? ⟨gb197, 8, none⟩ = some (.int .u32 a0_8) := (blk_cell BK197.out 8).trans rfl; have hfz45_0 := blk_frozen BK197.out 0; have hfz45_1 := blk_frozen BK197.out 1; have hfz45_2 := blk_frozen BK197.out 2; have hfz45_3 := blk_frozen BK197.out 3; have hfz45_4 := blk_frozen BK197.out 4; have hfz45_5 := blk_frozen BK197.out 5; have hfz45_6 := blk_frozen BK197.out 6; have hfz45_7 := blk_frozen BK197.out 7; have hfz45_8 := blk_frozen BK197.out 8; have hcz46_0 : w43.cell? ⟨gb198, 0, none⟩ = some (.int .u32 a1_0) := (blk_cell BK198.out 0).trans rfl; have hcz46_1 : w43.cell? ⟨gb198, 1, none⟩ = some (.int .u32 a1_1) := (blk_cell BK198.out 1).trans rfl; have hcz46_2 : w43.cell? ⟨gb198, 2, none⟩ = some (.int .u32 a1_2) := (blk_cell BK198.out 2).trans rfl; have hcz46_3 : w43.cell? ⟨gb198, 3, none⟩ = some (.int .u32 a1_3) := (blk_cell BK198.out 3).trans rfl; have hcz46_4 : w43.cell? ⟨gb198, 4, none⟩ = some (.int .u32 a1_4) := (blk_cell BK198.out 4).trans rfl; have hcz46_5 : w43.cell? ⟨gb198, 5, none⟩ = some (.int .u32 a1_5) := (blk_cell BK198.out 5).trans rfl; have hcz46_6 : w43.cell? ⟨gb198, 6, none⟩ = some (.int .u32 a1_6) := (blk_cell BK198.out 6).trans rfl; have hcz46_7 : w43.cell? ⟨gb198, 7, none⟩ = some (.int .u32 a1_7) := (blk_cell BK198.out 7).trans rfl; have hcz46_8 : w43.cell? ⟨gb198, 8, none⟩ = some (.int .u32 a1_8) := (blk_cell BK198.out 8).trans rfl; have hfz46_0 := blk_frozen BK198.out 0; have hfz46_1 := blk_frozen BK198.out 1; have hfz46_2 := blk_frozen BK198.out 2; have hfz46_3 := blk_frozen BK198.out 3; have hfz46_4 := blk_frozen BK198.out 4; have hfz46_5 := blk_frozen BK198.out 5; have hfz46_6 := blk_frozen BK198.out 6; have hfz46_7 := blk_frozen BK198.out 7; have hfz46_8 := blk_frozen BK198.out 8) | ((with_reducible refine gate_callee (f := 61) rfl ?_); refine goesL_ (some 9) rfl rfl Tryd.func61 (by kernel_rfl) rfl #[.agg #[.int .u32 a0_0, .int .u32 a0_1, .int .u32 a0_2], .agg #[.int .u32 a1_0, .int .u32 a1_1, .int .u32 a1_2]] rfl hM ?_; (with_reducible refine (laws_eqPoint.calls a0_0 a0_1 a0_2 a1_0 a1_1 a1_2 false _ A3.out).mono ?_); rintro e w47 ⟨rfl, hb⟩; refine ⟨_, rfl, ?_⟩; replace BK197 := bB BK197 hb; replace BK198 := bB BK198 hb; replace HB := AM (below_step (pH HB) hb); (try clear hb); (try clear hb2); (try clear hk); (try clear hi)))
   go_ret
   exact ⟨eW, pH HB⟩

 subst c4
 have H1 : ((laws_eqPoint.f a0_3 a0_4 a0_5 a1_3 a1_4 a1_5).bind fun t200 => (if t200 = true then ((laws_eqPoint.f a0_6 a0_7 a0_8 a1_6 a1_7 a1_8).bind fun t201 => (if t201 = true then (some true) else (some false))) else (some false))) = some r := by rw [if_pos rfl] at H; exact H
 clear H; have H := H1; clear H1
 replace H := Option.bind_eq_some_iff.mp H
 obtain ⟨t200, A50, H⟩ := H
 (try dsimp only at H)
 have A5 := AM A50; clear A50
 by_cases c6 : t200 = true
 rotate_left
 · replace c6 := Bool.eq_false_iff.mpr c6
   subst c6
   have H1 : (some false) = some r := by rw [if_neg (show ¬ (false = true) by decide)] at H; exact H
   clear H; have H := H1; clear H1
   obtain rfl := Option.some.inj H
   go_enter Tryd.func59, Tryd.ntmps59
   go_wp2_with (first | ((with_reducible refine gate_dst (N := 2) rfl ?_); refine box_event ?hg (N := 2) ?hd (cs := #[.int .u32 a0_0, .int .u32 a0_1, .int .u32 a0_2, .int .u32 a0_3, .int .u32 a0_4, .int .u32 a0_5, .int .u32 a0_6, .int .u32 a0_7, .int .u32 a0_8]) (t := 70) ?hr ?_; (case hd => rfl); (case hg => rfl); (case hr => first | (go_simp; done) | (go_simp; rfl)); intro gb197 hg w33 hbox hb; have BK197 := AM (hbox); have GW197 := gH HB hg; have GE197 := gH HB hg; replace HB := AM (below_step (pH HB) hb); clear hb hbox hg) | ((with_reducible refine gate_dst (N := 3) rfl ?_); refine box_event ?hg (N := 3) ?hd (cs := #[.int .u32 a1_0, .int .u32 a1_1, .int .u32 a1_2, .int .u32 a1_3, .int .u32 a1_4, .int .u32 a1_5, .int .u32 a1_6, .int .u32 a1_7, .int .u32 a1_8]) (t := 70) ?hr ?_; (case hd => rfl); (case hg => rfl); (case hr => first | (go_simp; done) | (go_simp; rfl)); intro gb198 hg w34 hbox hb; have BK198 := AM (hbox); have GW198 := gH HB hg; have GE198 := gH HB hg; replace HB := AM (below_step (pH HB) hb); have NB197_198 := nL BK197 hg; have NB198_197 := nG BK197 hg; replace BK197 := bB BK197 hb; clear hb hbox hg; have hnb35 := NB197_198.out; have hnc35 := NB198_197.out; have hcz36_0 : w34.cell? ⟨gb197, 0, none⟩ = some (.int .u32 a0_0) := (blk_cell BK197.out 0).trans rfl; have hcz36_1 : w34.cell? ⟨gb197, 1, none⟩ = some (.int .u32 a0_1) := (blk_cell BK197.out 1).trans rfl; have hcz36_2 : w34.cell? ⟨gb197, 2, none⟩ = some (.int .u32 a0_2) := (blk_cell BK197.out 2).trans rfl; have hcz36_3 : w34.cell? ⟨gb197, 3, none⟩ = some (.int .u32 a0_3) := (blk_cell BK197.out 3).trans rfl; have hcz36_4 : w34.cell? ⟨gb197, 4, none⟩ = some (.int .u32 a0_4) := (blk_cell BK197.out 4).trans rfl; have hcz36_5 : w34.cell? ⟨gb197, 5, none⟩ = some (.int .u32 a0_5) := (blk_cell BK197.out 5).trans rfl; have hcz36_6 : w34.cell? ⟨gb197, 6, none⟩ = some (.int .u32 a0_6) := (blk_cell BK197.out 6).trans rfl; have hcz36_7 : w34.cell? ⟨gb197, 7, none⟩ = some (.int .u32 a0_7) := (blk_cell BK197.out 7).trans rfl; have hcz36_8 : w34.cell? ⟨gb197, 8, none⟩ = some (.int .u32 a0_8) := (blk_cell BK197.out 8).trans rfl; have hfz36_0 := blk_frozen BK197.out 0; have hfz36_1 := blk_frozen BK197.out 1; have hfz36_2 := blk_frozen BK197.out 2; have hfz36_3 := blk_frozen BK197.out 3; have hfz36_4 := blk_frozen BK197.out 4; have hfz36_5 := blk_frozen BK197.out 5; have hfz36_6 := blk_frozen BK197.out 6; have hfz36_7 := blk_frozen BK197.out 7; have hfz36_8 := blk_frozen BK197.out 8; have hcz37_0 : w34.cell? ⟨gb198, 0, none⟩ = some (.int .u32 a1_0) := (blk_cell BK198.out 0).trans rfl; have hcz37_1 : w34.cell? ⟨gb198, 1, none⟩ = some (.int .u32 a1_1) := (blk_cell BK198.out 1).trans rfl; have hcz37_2 : w34.cell? ⟨gb198, 2, none⟩ = some (.int .u32 a1_2) := (blk_cell BK198.out 2).trans rfl; have hcz37_3 : w34.cell? ⟨gb198, 3, none⟩ = some (.int .u32 a1_3) := (blk_cell BK198.out 3).trans rfl; have hcz37_4 : w34.cell? ⟨gb198, 4, none⟩ = some (.int .u32 a1_4) := (blk_cell BK198.out 4).trans rfl; have hcz37_5 : w34.cell? ⟨gb198, 5, none⟩ = some (.int .u32 a1_5) := (blk_cell BK198.out 5).trans rfl; have hcz37_6 : w34.cell? ⟨gb198, 6, none⟩ = some (.int .u32 a1_6) := (blk_cell BK198.out 6).trans rfl; have hcz37_7 : w34.cell? ⟨gb198, 7, none⟩ = some (.int .u32 a1_7) := (blk_cell BK198.out 7).trans rfl; have hcz37_8 : w34.cell? ⟨gb198, 8, none⟩ = some (.int .u32 a1_8) := (blk_cell BK198.out 8).trans rfl; have hfz37_0 := blk_frozen BK198.out 0; have hfz37_1 := blk_frozen BK198.out 1; have hfz37_2 := blk_frozen BK198.out 2; have hfz37_3 := blk_frozen BK198.out 3; have hfz37_4 := blk_frozen BK198.out 4; have hfz37_5 := blk_frozen BK198.out 5; have hfz37_6 := blk_frozen BK198.out 6; have hfz37_7 := blk_frozen BK198.out 7; have hfz37_8 := blk_frozen BK198.out 8) | ((with_reducible refine gate_callee (f := 61) rfl ?_); refine goesL_ (some 9) rfl rfl Tryd.func61 (by kernel_rfl) rfl #[.agg #[.int .u32 a0_0, .int .u32 a0_1, .int .u32 a0_2], .agg #[.int .u32 a1_0, .int .u32 a1_1, .int .u32 a1_2]] rfl hM ?_; (with_reducible refine (laws_eqPoint.calls a0_0 a0_1 a0_2 a1_0 a1_1 a1_2 true _ A3.out).mono ?_); rintro e w38 ⟨rfl, hb⟩; refine ⟨_, rfl, ?_⟩; replace BK197 := bB BK197 hb; replace BK198 := bB BK198 hb; replace HB := AM (below_step (pH HB) hb); (try clear hb); (try clear hb2); (try clear hk); (try clear hi); have hcz39_0 : w38.cell? ⟨gb197, 0, none⟩ = some (.int .u32 a0_0) := (blk_cell BK197.out 0).trans rfl; have hcz39_1 : w38.cell? ⟨gb197, 1, none⟩ = some (.int .u32 a0_1) := (blk_cell BK197.out 1).trans rfl; have hcz39_2 : w38.cell? ⟨gb197, 2, none⟩ = some (.int .u32 a0_2) := (blk_cell BK197.out 2).trans rfl; have hcz39_3 : w38.cell? ⟨gb197, 3, none⟩ = some (.int .u32 a0_3) := (blk_cell BK197.out 3).trans rfl; have hcz39_4 : w38.cell? ⟨gb197, 4, none⟩ = some (.int .u32 a0_4) := (blk_cell BK197.out 4).trans rfl; have hcz39_5 : w38.cell? ⟨gb197, 5, none⟩ = some (.int .u32 a0_5) := (blk_cell BK197.out 5).trans rfl; have hcz39_6 : w38.cell? ⟨gb197, 6, none⟩ = some (.int .u32 a0_6) := (blk_cell BK197.out 6).trans rfl; have hcz39_7 : w38.cell? ⟨gb197, 7, none⟩ = some (.int .u32 a0_7) := (blk_cell BK197.out 7).trans rfl; have hcz39_8 : w38.cell? ⟨gb197, 8, none⟩ = some (.int .u32 a0_8) := (blk_cell BK197.out 8).trans rfl; have hfz39_0 := blk_frozen BK197.out 0; have hfz39_1 := blk_frozen BK197.out 1; have hfz39_2 := blk_frozen BK197.out 2; have hfz39_3 := blk_frozen BK197.out 3; have hfz39_4 := blk_frozen BK197.out 4; have hfz39_5 := blk_frozen BK197.out 5; have hfz39_6 := blk_frozen BK197.out 6; have hfz39_7 := blk_frozen BK197.out 7; have hfz39_8 := blk_frozen BK197.out 8; have hcz40_0 : w38.cell? ⟨gb198, 0, none⟩ = some (.int .u32 a1_0) := (blk_cell BK198.out 0).trans rfl; have hcz40_1 : w38.cell? ⟨gb198, 1, none⟩ = some (.int .u32 a1_1) := (blk_cell BK198.out 1).trans rfl; have hcz40_2 : w38.cell? ⟨gb198, 2, none⟩ = some (.int .u32 a1_2) := (blk_cell BK198.out 2).trans rfl; have hcz40_3 : w38.cell? ⟨gb198, 3, none⟩ = some (.int .u32 a1_3) := (blk_cell BK198.out 3).trans rfl; have hcz40_4 : w38.cell? ⟨gb198, 4, none⟩ = some (.int .u32 a1_4) := (blk_cell BK198.out 4).trans rfl; have hcz40_5 : w38.cell? ⟨gb198, 5, none⟩ = some (.int .u32 a1_5) := (blk_cell BK198.out 5).trans rfl; have hcz40_6 : w38.cell? ⟨gb198, 6, none⟩ = some (.int .u32 a1_6) := (blk_cell BK198.out 6).trans rfl; have hcz40_7 : w38.cell? ⟨gb198, 7, none⟩ = some (.int .u32 a1_7) := (blk_cell BK198.out 7).trans rfl; have hcz40_8 : w38.cell? ⟨gb198, 8, none⟩ = some (.int .u32 a1_8) := (blk_cell BK198.out 8).trans rfl; have hfz40_0 := blk_frozen BK198.out 0; have hfz40_1 := blk_frozen BK198.out 1; have hfz40_2 := blk_frozen BK198.out 2; have hfz40_3 := blk_frozen BK198.out 3; have hfz40_4 := blk_frozen BK198.out 4; have hfz40_5 := blk_frozen BK198.out 5; have hfz40_6 := blk_frozen BK198.out 6; have hfz40_7 := blk_frozen BK198.out 7; have hfz40_8 := blk_frozen BK198.out 8) | ((with_reducible refine gate_callee (f := 61) rfl ?_); refine goesL_ (some 15) rfl rfl Tryd.func61 (by kernel_rfl) rfl #[.agg #[.int .u32 a0_3, .int .u32 a0_4, .int .u32 a0_5], .agg #[.int .u32 a1_3, .int .u32 a1_4, .int .u32 a1_5]] rfl hM ?_; (with_reducible refine (laws_eqPoint.calls a0_3 a0_4 a0_5 a1_3 a1_4 a1_5 false _ A5.out).mono ?_); rintro e w41 ⟨rfl, hb⟩; refine ⟨_, rfl, ?_⟩; replace BK197 := bB BK197 hb; replace BK198 := bB BK198 hb; replace HB := AM (below_step (pH HB) hb); (try clear hb); (try clear hb2); (try clear hk); (try clear hi)))
   go_ret
   exact ⟨eW, pH HB⟩
 subst c6
 have H1 : ((laws_eqPoint.f a0_6 a0_7 a0_8 a1_6 a1_7 a1_8).bind fun t201 => (if t201 = true then (some true) else (some false))) = some r := by rw [if_pos rfl] at H; exact H
 clear H; have H := H1; clear H1
 replace H := Option.bind_eq_some_iff.mp H
 obtain ⟨t201, A70, H⟩ := H
 (try dsimp only at H)
 have A7 := AM A70; clear A70
 by_cases c8 : t201 = true
 · subst c8
   have H1 : (some true) = some r := by rw [if_pos rfl] at H; exact H
   clear H; have H := H1; clear H1
   obtain rfl := Option.some.inj H
   go_enter Tryd.func59, Tryd.ntmps59
   go_wp2_with (first | ((with_reducible refine gate_dst (N := 2) rfl ?_); refine box_event ?hg (N := 2) ?hd (cs := #[.int .u32 a0_0, .int .u32 a0_1, .int .u32 a0_2, .int .u32 a0_3, .int .u32 a0_4, .int .u32 a0_5, .int .u32 a0_6, .int .u32 a0_7, .int .u32 a0_8]) (t := 70) ?hr ?_; (case hd => rfl); (case hg => rfl); (case hr => first | (go_simp; done) | (go_simp; rfl)); intro gb197 hg w9 hbox hb; have BK197 := AM (hbox); have GW197 := gH HB hg; have GE197 := gH HB hg; replace HB := AM (below_step (pH HB) hb); clear hb hbox hg) | ((with_reducible refine gate_dst (N := 3) rfl ?_); refine box_event ?hg (N := 3) ?hd (cs := #[.int .u32 a1_0, .int .u32 a1_1, .int .u32 a1_2, .int .u32 a1_3, .int .u32 a1_4, .int .u32 a1_5, .int .u32 a1_6, .int .u32 a1_7, .int .u32 a1_8]) (t := 70) ?hr ?_; (case hd => rfl); (case hg => rfl); (case hr => first | (go_simp; done) | (go_simp; rfl)); intro gb198 hg w10 hbox hb; have BK198 := AM (hbox); have GW198 := gH HB hg; have GE198 := gH HB hg; replace HB := AM (below_step (pH HB) hb); have NB197_198 := nL BK197 hg; have NB198_197 := nG BK197 hg; replace BK197 := bB BK197 hb; clear hb hbox hg; have hnb11 := NB197_198.out; have hnc11 := NB198_197.out; have hcz12_0 : w10.cell? ⟨gb197, 0, none⟩ = some (.int .u32 a0_0) := (blk_cell BK197.out 0).trans rfl; have hcz12_1 : w10.cell? ⟨gb197, 1, none⟩ = some (.int .u32 a0_1) := (blk_cell BK197.out 1).trans rfl; have hcz12_2 : w10.cell? ⟨gb197, 2, none⟩ = some (.int .u32 a0_2) := (blk_cell BK197.out 2).trans rfl; have hcz12_3 : w10.cell? ⟨gb197, 3, none⟩ = some (.int .u32 a0_3) := (blk_cell BK197.out 3).trans rfl; have hcz12_4 : w10.cell? ⟨gb197, 4, none⟩ = some (.int .u32 a0_4) := (blk_cell BK197.out 4).trans rfl; have hcz12_5 : w10.cell? ⟨gb197, 5, none⟩ = some (.int .u32 a0_5) := (blk_cell BK197.out 5).trans rfl; have hcz12_6 : w10.cell? ⟨gb197, 6, none⟩ = some (.int .u32 a0_6) := (blk_cell BK197.out 6).trans rfl; have hcz12_7 : w10.cell? ⟨gb197, 7, none⟩ = some (.int .u32 a0_7) := (blk_cell BK197.out 7).trans rfl; have hcz12_8 : w10.cell? ⟨gb197, 8, none⟩ = some (.int .u32 a0_8) := (blk_cell BK197.out 8).trans rfl; have hfz12_0 := blk_frozen BK197.out 0; have hfz12_1 := blk_frozen BK197.out 1; have hfz12_2 := blk_frozen BK197.out 2; have hfz12_3 := blk_frozen BK197.out 3; have hfz12_4 := blk_frozen BK197.out 4; have hfz12_5 := blk_frozen BK197.out 5; have hfz12_6 := blk_frozen BK197.out 6; have hfz12_7 := blk_frozen BK197.out 7; have hfz12_8 := blk_frozen BK197.out 8; have hcz13_0 : w10.cell? ⟨gb198, 0, none⟩ = some (.int .u32 a1_0) := (blk_cell BK198.out 0).trans rfl; have hcz13_1 : w10.cell? ⟨gb198, 1, none⟩ = some (.int .u32 a1_1) := (blk_cell BK198.out 1).trans rfl; have hcz13_2 : w10.cell? ⟨gb198, 2, none⟩ = some (.int .u32 a1_2) := (blk_cell BK198.out 2).trans rfl; have hcz13_3 : w10.cell? ⟨gb198, 3, none⟩ = some (.int .u32 a1_3) := (blk_cell BK198.out 3).trans rfl; have hcz13_4 : w10.cell? ⟨gb198, 4, none⟩ = some (.int .u32 a1_4) := (blk_cell BK198.out 4).trans rfl; have hcz13_5 : w10.cell? ⟨gb198, 5, none⟩ = some (.int .u32 a1_5) := (blk_cell BK198.out 5).trans rfl; have hcz13_6 : w10.cell? ⟨gb198, 6, none⟩ = some (.int .u32 a1_6) := (blk_cell BK198.out 6).trans rfl; have hcz13_7 : w10.cell? ⟨gb198, 7, none⟩ = some (.int .u32 a1_7) := (blk_cell BK198.out 7).trans rfl; have hcz13_8 : w10.cell? ⟨gb198, 8, none⟩ = some (.int .u32 a1_8) := (blk_cell BK198.out 8).trans rfl; have hfz13_0 := blk_frozen BK198.out 0; have hfz13_1 := blk_frozen BK198.out 1; have hfz13_2 := blk_frozen BK198.out 2; have hfz13_3 := blk_frozen BK198.out 3; have hfz13_4 := blk_frozen BK198.out 4; have hfz13_5 := blk_frozen BK198.out 5; have hfz13_6 := blk_frozen BK198.out 6; have hfz13_7 := blk_frozen BK198.out 7; have hfz13_8 := blk_frozen BK198.out 8) | ((with_reducible refine gate_callee (f := 61) rfl ?_); refine goesL_ (some 9) rfl rfl Tryd.func61 (by kernel_rfl) rfl #[.agg #[.int .u32 a0_0, .int .u32 a0_1, .int .u32 a0_2], .agg #[.int .u32 a1_0, .int .u32 a1_1, .int .u32 a1_2]] rfl hM ?_; (with_reducible refine (laws_eqPoint.calls a0_0 a0_1 a0_2 a1_0 a1_1 a1_2 true _ A3.out).mono ?_); rintro e w14 ⟨rfl, hb⟩; refine ⟨_, rfl, ?_⟩; replace BK197 := bB BK197 hb; replace BK198 := bB BK198 hb; replace HB := AM (below_step (pH HB) hb); (try clear hb); (try clear hb2); (try clear hk); (try clear hi); have hcz15_0 : w14.cell? ⟨gb197, 0, none⟩ = some (.int .u32 a0_0) := (blk_cell BK197.out 0).trans rfl; have hcz15_1 : w14.cell? ⟨gb197, 1, none⟩ = some (.int .u32 a0_1) := (blk_cell BK197.out 1).trans rfl; have hcz15_2 : w14.cell? ⟨gb197, 2, none⟩ = some (.int .u32 a0_2) := (blk_cell BK197.out 2).trans rfl; have hcz15_3 : w14.cell? ⟨gb197, 3, none⟩ = some (.int .u32 a0_3) := (blk_cell BK197.out 3).trans rfl; have hcz15_4 : w14.cell? ⟨gb197, 4, none⟩ = some (.int .u32 a0_4) := (blk_cell BK197.out 4).trans rfl; have hcz15_5 : w14.cell? ⟨gb197, 5, none⟩ = some (.int .u32 a0_5) := (blk_cell BK197.out 5).trans rfl; have hcz15_6 : w14.cell? ⟨gb197, 6, none⟩ = some (.int .u32 a0_6) := (blk_cell BK197.out 6).trans rfl; have hcz15_7 : w14.cell? ⟨gb197, 7, none⟩ = some (.int .u32 a0_7) := (blk_cell BK197.out 7).trans rfl; have hcz15_8 : w14.cell? ⟨gb197, 8, none⟩ = some (.int .u32 a0_8) := (blk_cell BK197.out 8).trans rfl; have hfz15_0 := blk_frozen BK197.out 0; have hfz15_1 := blk_frozen BK197.out 1; have hfz15_2 := blk_frozen BK197.out 2; have hfz15_3 := blk_frozen BK197.out 3; have hfz15_4 := blk_frozen BK197.out 4; have hfz15_5 := blk_frozen BK197.out 5; have hfz15_6 := blk_frozen BK197.out 6; have hfz15_7 := blk_frozen BK197.out 7; have hfz15_8 := blk_frozen BK197.out 8; have hcz16_0 : w14.cell? ⟨gb198, 0, none⟩ = some (.int .u32 a1_0) := (blk_cell BK198.out 0).trans rfl; have hcz16_1 : w14.cell? ⟨gb198, 1, none⟩ = some (.int .u32 a1_1) := (blk_cell BK198.out 1).trans rfl; have hcz16_2 : w14.cell? ⟨gb198, 2, none⟩ = some (.int .u32 a1_2) := (blk_cell BK198.out 2).trans rfl; have hcz16_3 : w14.cell? ⟨gb198, 3, none⟩ = some (.int .u32 a1_3) := (blk_cell BK198.out 3).trans rfl; have hcz16_4 : w14.cell? ⟨gb198, 4, none⟩ = some (.int .u32 a1_4) := (blk_cell BK198.out 4).trans rfl; have hcz16_5 : w14.cell? ⟨gb198, 5, none⟩ = some (.int .u32 a1_5) := (blk_cell BK198.out 5).trans rfl; have hcz16_6 : w14.cell? ⟨gb198, 6, none⟩ = some (.int .u32 a1_6) := (blk_cell BK198.out 6).trans rfl; have hcz16_7 : w14.cell? ⟨gb198, 7, none⟩ = some (.int .u32 a1_7) := (blk_cell BK198.out 7).trans rfl; have hcz16_8 : w14.cell? ⟨gb198, 8, none⟩ = some (.int .u32 a1_8) := (blk_cell BK198.out 8).trans rfl; have hfz16_0 := blk_frozen BK198.out 0; have hfz16_1 := blk_frozen BK198.out 1; have hfz16_2 := blk_frozen BK198.out 2; have hfz16_3 := blk_frozen BK198.out 3; have hfz16_4 := blk_frozen BK198.out 4; have hfz16_5 := blk_frozen BK198.out 5; have hfz16_6 := blk_frozen BK198.out 6; have hfz16_7 := blk_frozen BK198.out 7; have hfz16_8 := blk_frozen BK198.out 8) | ((with_reducible refine gate_callee (f := 61) rfl ?_); refine goesL_ (some 15) rfl rfl Tryd.func61 (by kernel_rfl) rfl #[.agg #[.int .u32 a0_3, .int .u32 a0_4, .int .u32 a0_5], .agg #[.int .u32 a1_3, .int .u32 a1_4, .int .u32 a1_5]] rfl hM ?_; (with_reducible refine (laws_eqPoint.calls a0_3 a0_4 a0_5 a1_3 a1_4 a1_5 true _ A5.out).mono ?_); rintro e w17 ⟨rfl, hb⟩; refine ⟨_, rfl, ?_⟩; replace BK197 := bB BK197 hb; replace BK198 := bB BK198 hb; replace HB := AM (below_step (pH HB) hb); (try clear hb); (try clear hb2); (try clear hk); (try clear hi); have hcz18_0 : w17.cell? ⟨gb197, 0, none⟩ = some (.int .u32 a0_0) := (blk_cell BK197.out 0).trans rfl; have hcz18_1 : w17.cell? ⟨gb197, 1, none⟩ = some (.int .u32 a0_1) := (blk_cell BK197.out 1).trans rfl; have hcz18_2 : w17.cell? ⟨gb197, 2, none⟩ = some (.int .u32 a0_2) := (blk_cell BK197.out 2).trans rfl; have hcz18_3 : w17.cell? ⟨gb197, 3, none⟩ = some (.int .u32 a0_3) := (blk_cell BK197.out 3).trans rfl; have hcz18_4 : w17.cell? ⟨gb197, 4, none⟩ = some (.int .u32 a0_4) := (blk_cell BK197.out 4).trans rfl; have hcz18_5 : w17.cell? ⟨gb197, 5, none⟩ = some (.int .u32 a0_5) := (blk_cell BK197.out 5).trans rfl; have hcz18_6 : w17.cell? ⟨gb197, 6, none⟩ = some (.int .u32 a0_6) := (blk_cell BK197.out 6).trans rfl; have hcz18_7 : w17.cell? ⟨gb197, 7, none⟩ = some (.int .u32 a0_7) := (blk_cell BK197.out 7).trans rfl; have hcz18_8 : w17.cell? ⟨gb197, 8, none⟩ = some (.int .u32 a0_8) := (blk_cell BK197.out 8).trans rfl; have hfz18_0 := blk_frozen BK197.out 0; have hfz18_1 := blk_frozen BK197.out 1; have hfz18_2 := blk_frozen BK197.out 2; have hfz18_3 := blk_frozen BK197.out 3; have hfz18_4 := blk_frozen BK197.out 4; have hfz18_5 := blk_frozen BK197.out 5; have hfz18_6 := blk_frozen BK197.out 6; have hfz18_7 := blk_frozen BK197.out 7; have hfz18_8 := blk_frozen BK197.out 8; have hcz19_0 : w17.cell? ⟨gb198, 0, none⟩ = some (.int .u32 a1_0) := (blk_cell BK198.out 0).trans rfl; have hcz19_1 : w17.cell? ⟨gb198, 1, none⟩ = some (.int .u32 a1_1) := (blk_cell BK198.out 1).trans rfl; have hcz19_2 : w17.cell? ⟨gb198, 2, none⟩ = some (.int .u32 a1_2) := (blk_cell BK198.out 2).trans rfl; have hcz19_3 : w17.cell? ⟨gb198, 3, none⟩ = some (.int .u32 a1_3) := (blk_cell BK198.out 3).trans rfl; have hcz19_4 : w17.cell? ⟨gb198, 4, none⟩ = some (.int .u32 a1_4) := (blk_cell BK198.out 4).trans rfl; have hcz19_5 : w17.cell? ⟨gb198, 5, none⟩ = some (.int .u32 a1_5) := (blk_cell BK198.out 5).trans rfl; have hcz19_6 : w17.cell? ⟨gb198, 6, none⟩ = some (.int .u32 a1_6) := (blk_cell BK198.out 6).trans rfl; have hcz19_7 : w17.cell? ⟨gb198, 7, none⟩ = some (.int .u32 a1_7) := (blk_cell BK198.out 7).trans rfl; have hcz19_8 : w17.cell? ⟨gb198, 8, none⟩ = some (.int .u32 a1_8) := (blk_cell BK198.out 8).trans rfl; have hfz19_0 := blk_frozen BK198.out 0; have hfz19_1 := blk_frozen BK198.out 1; have hfz19_2 := blk_frozen BK198.out 2; have hfz19_3 := blk_frozen BK198.out 3; have hfz19_4 := blk_frozen BK198.out 4; have hfz19_5 := blk_frozen BK198.out 5; have hfz19_6 := blk_frozen BK198.out 6; have hfz19_7 := blk_frozen BK198.out 7; have hfz19_8 := blk_frozen BK198.out 8) | ((with_reducible refine gate_callee (f := 61) rfl ?_); refine goesL_ (some 21) rfl rfl Tryd.func61 (by kernel_rfl) rfl #[.agg #[.int .u32 a0_6, .int .u32 a0_7, .int .u32 a0_8], .agg #[.int .u32 a1_6, .int .u32 a1_7, .int .u32 a1_8]] rfl hM ?_; (with_reducible refine (laws_eqPoint.calls a0_6 a0_7 a0_8 a1_6 a1_7 a1_8 true _ A7.out).mono ?_); rintro e w20 ⟨rfl, hb⟩; refine ⟨_, rfl, ?_⟩; replace BK197 := bB BK197 hb; replace BK198 := bB BK198 hb; replace HB := AM (below_step (pH HB) hb); (try clear hb); (try clear hb2); (try clear hk); (try clear hi)))
   go_ret
   exact ⟨eW, pH HB⟩
 replace c8 := Bool.eq_false_iff.mpr c8
 subst c8
 have H1 : (some false) = some r := by rw [if_neg (show ¬ (false = true) by decide)] at H; exact H
 clear H; have H := H1; clear H1
 obtain rfl := Option.some.inj H
 go_enter Tryd.func59, Tryd.ntmps59
 go_wp2_with (first | ((with_reducible refine gate_dst (N := 2) rfl ?_); refine box_event ?hg (N := 2) ?hd (cs := #[.int .u32 a0_0, .int .u32 a0_1, .int .u32 a0_2, .int .u32 a0_3, .int .u32 a0_4, .int .u32 a0_5, .int .u32 a0_6, .int .u32 a0_7, .int .u32 a0_8]) (t := 70) ?hr ?_; (case hd => rfl); (case hg => rfl); (case hr => first | (go_simp; done) | (go_simp; rfl)); intro gb197 hg w21 hbox hb; have BK197 := AM (hbox); have GW197 := gH HB hg; have GE197 := gH HB hg; replace HB := AM (below_step (pH HB) hb); clear hb hbox hg) | ((with_reducible refine gate_dst (N := 3) rfl ?_); refine box_event ?hg (N := 3) ?hd (cs := #[.int .u32 a1_0, .int .u32 a1_1, .int .u32 a1_2, .int .u32 a1_3, .int .u32 a1_4, .int .u32 a1_5, .int .u32 a1_6, .int .u32 a1_7, .int .u32 a1_8]) (t := 70) ?hr ?_; (case hd => rfl); (case hg => rfl); (case hr => first | (go_simp; done) | (go_simp; rfl)); intro gb198 hg w22 hbox hb; have BK198 := AM (hbox); have GW198 := gH HB hg; have GE198 := gH HB hg; replace HB := AM (below_step (pH HB) hb); have NB197_198 := nL BK197 hg; have NB198_197 := nG BK197 hg; replace BK197 := bB BK197 hb; clear hb hbox hg; have hnb23 := NB197_198.out; have hnc23 := NB198_197.out; have hcz24_0 : w22.cell? ⟨gb197, 0, none⟩ = some (.int .u32 a0_0) := (blk_cell BK197.out 0).trans rfl; have hcz24_1 : w22.cell? ⟨gb197, 1, none⟩ = some (.int .u32 a0_1) := (blk_cell BK197.out 1).trans rfl; have hcz24_2 : w22.cell? ⟨gb197, 2, none⟩ = some (.int .u32 a0_2) := (blk_cell BK197.out 2).trans rfl; have hcz24_3 : w22.cell? ⟨gb197, 3, none⟩ = some (.int .u32 a0_3) := (blk_cell BK197.out 3).trans rfl; have hcz24_4 : w22.cell? ⟨gb197, 4, none⟩ = some (.int .u32 a0_4) := (blk_cell BK197.out 4).trans rfl; have hcz24_5 : w22.cell? ⟨gb197, 5, none⟩ = some (.int .u32 a0_5) := (blk_cell BK197.out 5).trans rfl; have hcz24_6 : w22.cell? ⟨gb197, 6, none⟩ = some (.int .u32 a0_6) := (blk_cell BK197.out 6).trans rfl; have hcz24_7 : w22.cell? ⟨gb197, 7, none⟩ = some (.int .u32 a0_7) := (blk_cell BK197.out 7).trans rfl; have hcz24_8 : w22.cell? ⟨gb197, 8, none⟩ = some (.int .u32 a0_8) := (blk_cell BK197.out 8).trans rfl; have hfz24_0 := blk_frozen BK197.out 0; have hfz24_1 := blk_frozen BK197.out 1; have hfz24_2 := blk_frozen BK197.out 2; have hfz24_3 := blk_frozen BK197.out 3; have hfz24_4 := blk_frozen BK197.out 4; have hfz24_5 := blk_frozen BK197.out 5; have hfz24_6 := blk_frozen BK197.out 6; have hfz24_7 := blk_frozen BK197.out 7; have hfz24_8 := blk_frozen BK197.out 8; have hcz25_0 : w22.cell? ⟨gb198, 0, none⟩ = some (.int .u32 a1_0) := (blk_cell BK198.out 0).trans rfl; have hcz25_1 : w22.cell? ⟨gb198, 1, none⟩ = some (.int .u32 a1_1) := (blk_cell BK198.out 1).trans rfl; have hcz25_2 : w22.cell? ⟨gb198, 2, none⟩ = some (.int .u32 a1_2) := (blk_cell BK198.out 2).trans rfl; have hcz25_3 : w22.cell? ⟨gb198, 3, none⟩ = some (.int .u32 a1_3) := (blk_cell BK198.out 3).trans rfl; have hcz25_4 : w22.cell? ⟨gb198, 4, none⟩ = some (.int .u32 a1_4) := (blk_cell BK198.out 4).trans rfl; have hcz25_5 : w22.cell? ⟨gb198, 5, none⟩ = some (.int .u32 a1_5) := (blk_cell BK198.out 5).trans rfl; have hcz25_6 : w22.cell? ⟨gb198, 6, none⟩ = some (.int .u32 a1_6) := (blk_cell BK198.out 6).trans rfl; have hcz25_7 : w22.cell? ⟨gb198, 7, none⟩ = some (.int .u32 a1_7) := (blk_cell BK198.out 7).trans rfl; have hcz25_8 : w22.cell? ⟨gb198, 8, none⟩ = some (.int .u32 a1_8) := (blk_cell BK198.out 8).trans rfl; have hfz25_0 := blk_frozen BK198.out 0; have hfz25_1 := blk_frozen BK198.out 1; have hfz25_2 := blk_frozen BK198.out 2; have hfz25_3 := blk_frozen BK198.out 3; have hfz25_4 := blk_frozen BK198.out 4; have hfz25_5 := blk_frozen BK198.out 5; have hfz25_6 := blk_frozen BK198.out 6; have hfz25_7 := blk_frozen BK198.out 7; have hfz25_8 := blk_frozen BK198.out 8) | ((with_reducible refine gate_callee (f := 61) rfl ?_); refine goesL_ (some 9) rfl rfl Tryd.func61 (by kernel_rfl) rfl #[.agg #[.int .u32 a0_0, .int .u32 a0_1, .int .u32 a0_2], .agg #[.int .u32 a1_0, .int .u32 a1_1, .int .u32 a1_2]] rfl hM ?_; (with_reducible refine (laws_eqPoint.calls a0_0 a0_1 a0_2 a1_0 a1_1 a1_2 true _ A3.out).mono ?_); rintro e w26 ⟨rfl, hb⟩; refine ⟨_, rfl, ?_⟩; replace BK197 := bB BK197 hb; replace BK198 := bB BK198 hb; replace HB := AM (below_step (pH HB) hb); (try clear hb); (try clear hb2); (try clear hk); (try clear hi); have hcz27_0 : w26.cell? ⟨gb197, 0, none⟩ = some (.int .u32 a0_0) := (blk_cell BK197.out 0).trans rfl; have hcz27_1 : w26.cell? ⟨gb197, 1, none⟩ = some (.int .u32 a0_1) := (blk_cell BK197.out 1).trans rfl; have hcz27_2 : w26.cell? ⟨gb197, 2, none⟩ = some (.int .u32 a0_2) := (blk_cell BK197.out 2).trans rfl; have hcz27_3 : w26.cell? ⟨gb197, 3, none⟩ = some (.int .u32 a0_3) := (blk_cell BK197.out 3).trans rfl; have hcz27_4 : w26.cell? ⟨gb197, 4, none⟩ = some (.int .u32 a0_4) := (blk_cell BK197.out 4).trans rfl; have hcz27_5 : w26.cell? ⟨gb197, 5, none⟩ = some (.int .u32 a0_5) := (blk_cell BK197.out 5).trans rfl; have hcz27_6 : w26.cell? ⟨gb197, 6, none⟩ = some (.int .u32 a0_6) := (blk_cell BK197.out 6).trans rfl; have hcz27_7 : w26.cell? ⟨gb197, 7, none⟩ = some (.int .u32 a0_7) := (blk_cell BK197.out 7).trans rfl; have hcz27_8 : w26.cell? ⟨gb197, 8, none⟩ = some (.int .u32 a0_8) := (blk_cell BK197.out 8).trans rfl; have hfz27_0 := blk_frozen BK197.out 0; have hfz27_1 := blk_frozen BK197.out 1; have hfz27_2 := blk_frozen BK197.out 2; have hfz27_3 := blk_frozen BK197.out 3; have hfz27_4 := blk_frozen BK197.out 4; have hfz27_5 := blk_frozen BK197.out 5; have hfz27_6 := blk_frozen BK197.out 6; have hfz27_7 := blk_frozen BK197.out 7; have hfz27_8 := blk_frozen BK197.out 8; have hcz28_0 : w26.cell? ⟨gb198, 0, none⟩ = some (.int .u32 a1_0) := (blk_cell BK198.out 0).trans rfl; have hcz28_1 : w26.cell? ⟨gb198, 1, none⟩ = some (.int .u32 a1_1) := (blk_cell BK198.out 1).trans rfl; have hcz28_2 : w26.cell? ⟨gb198, 2, none⟩ = some (.int .u32 a1_2) := (blk_cell BK198.out 2).trans rfl; have hcz28_3 : w26.cell? ⟨gb198, 3, none⟩ = some (.int .u32 a1_3) := (blk_cell BK198.out 3).trans rfl; have hcz28_4 : w26.cell? ⟨gb198, 4, none⟩ = some (.int .u32 a1_4) := (blk_cell BK198.out 4).trans rfl; have hcz28_5 : w26.cell? ⟨gb198, 5, none⟩ = some (.int .u32 a1_5) := (blk_cell BK198.out 5).trans rfl; have hcz28_6 : w26.cell? ⟨gb198, 6, none⟩ = some (.int .u32 a1_6) := (blk_cell BK198.out 6).trans rfl; have hcz28_7 : w26.cell? ⟨gb198, 7, none⟩ = some (.int .u32 a1_7) := (blk_cell BK198.out 7).trans rfl; have hcz28_8 : w26.cell? ⟨gb198, 8, none⟩ = some (.int .u32 a1_8) := (blk_cell BK198.out 8).trans rfl; have hfz28_0 := blk_frozen BK198.out 0; have hfz28_1 := blk_frozen BK198.out 1; have hfz28_2 := blk_frozen BK198.out 2; have hfz28_3 := blk_frozen BK198.out 3; have hfz28_4 := blk_frozen BK198.out 4; have hfz28_5 := blk_frozen BK198.out 5; have hfz28_6 := blk_frozen BK198.out 6; have hfz28_7 := blk_frozen BK198.out 7; have hfz28_8 := blk_frozen BK198.out 8) | ((with_reducible refine gate_callee (f := 61) rfl ?_); refine goesL_ (some 15) rfl rfl Tryd.func61 (by kernel_rfl) rfl #[.agg #[.int .u32 a0_3, .int .u32 a0_4, .int .u32 a0_5], .agg #[.int .u32 a1_3, .int .u32 a1_4, .int .u32 a1_5]] rfl hM ?_; (with_reducible refine (laws_eqPoint.calls a0_3 a0_4 a0_5 a1_3 a1_4 a1_5 true _ A5.out).mono ?_); rintro e w29 ⟨rfl, hb⟩; refine ⟨_, rfl, ?_⟩; replace BK197 := bB BK197 hb; replace BK198 := bB BK198 hb; replace HB := AM (below_step (pH HB) hb); (try clear hb); (try clear hb2); (try clear hk); (try clear hi); have hcz30_0 : w29.cell? ⟨gb197, 0, none⟩ = some (.int .u32 a0_0) := (blk_cell BK197.out 0).trans rfl; have hcz30_1 : w29.cell? ⟨gb197, 1, none⟩ = some (.int .u32 a0_1) := (blk_cell BK197.out 1).trans rfl; have hcz30_2 : w29.cell? ⟨gb197, 2, none⟩ = some (.int .u32 a0_2) := (blk_cell BK197.out 2).trans rfl; have hcz30_3 : w29.cell? ⟨gb197, 3, none⟩ = some (.int .u32 a0_3) := (blk_cell BK197.out 3).trans rfl; have hcz30_4 : w29.cell? ⟨gb197, 4, none⟩ = some (.int .u32 a0_4) := (blk_cell BK197.out 4).trans rfl; have hcz30_5 : w29.cell? ⟨gb197, 5, none⟩ = some (.int .u32 a0_5) := (blk_cell BK197.out 5).trans rfl; have hcz30_6 : w29.cell? ⟨gb197, 6, none⟩ = some (.int .u32 a0_6) := (blk_cell BK197.out 6).trans rfl; have hcz30_7 : w29.cell? ⟨gb197, 7, none⟩ = some (.int .u32 a0_7) := (blk_cell BK197.out 7).trans rfl; have hcz30_8 : w29.cell? ⟨gb197, 8, none⟩ = some (.int .u32 a0_8) := (blk_cell BK197.out 8).trans rfl; have hfz30_0 := blk_frozen BK197.out 0; have hfz30_1 := blk_frozen BK197.out 1; have hfz30_2 := blk_frozen BK197.out 2; have hfz30_3 := blk_frozen BK197.out 3; have hfz30_4 := blk_frozen BK197.out 4; have hfz30_5 := blk_frozen BK197.out 5; have hfz30_6 := blk_frozen BK197.out 6; have hfz30_7 := blk_frozen BK197.out 7; have hfz30_8 := blk_frozen BK197.out 8; have hcz31_0 : w29.cell? ⟨gb198, 0, none⟩ = some (.int .u32 a1_0) := (blk_cell BK198.out 0).trans rfl; have hcz31_1 : w29.cell? ⟨gb198, 1, none⟩ = some (.int .u32 a1_1) := (blk_cell BK198.out 1).trans rfl; have hcz31_2 : w29.cell? ⟨gb198, 2, none⟩ = some (.int .u32 a1_2) := (blk_cell BK198.out 2).trans rfl; have hcz31_3 : w29.cell? ⟨gb198, 3, none⟩ = some (.int .u32 a1_3) := (blk_cell BK198.out 3).trans rfl; have hcz31_4 : w29.cell? ⟨gb198, 4, none⟩ = some (.int .u32 a1_4) := (blk_cell BK198.out 4).trans rfl; have hcz31_5 : w29.cell? ⟨gb198, 5, none⟩ = some (.int .u32 a1_5) := (blk_cell BK198.out 5).trans rfl; have hcz31_6 : w29.cell? ⟨gb198, 6, none⟩ = some (.int .u32 a1_6) := (blk_cell BK198.out 6).trans rfl; have hcz31_7 : w29.cell? ⟨gb198, 7, none⟩ = some (.int .u32 a1_7) := (blk_cell BK198.out 7).trans rfl; have hcz31_8 : w29.cell? ⟨gb198, 8, none⟩ = some (.int .u32 a1_8) := (blk_cell BK198.out 8).trans rfl; have hfz31_0 := blk_frozen BK198.out 0; have hfz31_1 := blk_frozen BK198.out 1; have hfz31_2 := blk_frozen BK198.out 2; have hfz31_3 := blk_frozen BK198.out 3; have hfz31_4 := blk_frozen BK198.out 4; have hfz31_5 := blk_frozen BK198.out 5; have hfz31_6 := blk_frozen BK198.out 6; have hfz31_7 := blk_frozen BK198.out 7; have hfz31_8 := blk_frozen BK198.out 8) | ((with_reducible refine gate_callee (f := 61) rfl ?_); refine goesL_ (some 21) rfl rfl Tryd.func61 (by kernel_rfl) rfl #[.agg #[.int .u32 a0_6, .int .u32 a0_7, .int .u32 a0_8], .agg #[.int .u32 a1_6, .int .u32 a1_7, .int .u32 a1_8]] rfl hM ?_; (with_reducible refine (laws_eqPoint.calls a0_6 a0_7 a0_8 a1_6 a1_7 a1_8 false _ A7.out).mono ?_); rintro e w32 ⟨rfl, hb⟩; refine ⟨_, rfl, ?_⟩; replace BK197 := bB BK197 hb; replace BK198 := bB BK198 hb; replace HB := AM (below_step (pH HB) hb); (try clear hb); (try clear hb2); (try clear hk); (try clear hi)))
 go_ret
 exact ⟨eW, pH HB⟩
/-! ### laws_eqTriS: function 36 -/
def laws_eqTriS.l0 : Nat → List (S70) → List (S70) → Int → Option (Bool)
 | 0, _, _, _ => none
 | k + 1, x0, x1, x5 => if x5 < (x0.length : Int) then (if 0 ≤ x5 then (if x5 < (x1.length : Int) then ((laws_eqTri.f ((rd_T70 x0 x5).f0.f0) ((rd_T70 x0 x5).f0.f1) ((rd_T70 x0 x5).f0.f2) ((rd_T70 x0 x5).f1.f0) ((rd_T70 x0 x5).f1.f1) ((rd_T70 x0 x5).f1.f2) ((rd_T70 x0 x5).f2.f0) ((rd_T70 x0 x5).f2.f1) ((rd_T70 x0 x5).f2.f2) ((rd_T70 x1 x5).f0.f0) ((rd_T70 x1 x5).f0.f1) ((rd_T70 x1 x5).f0.f2) ((rd_T70 x1 x5).f1.f0) ((rd_T70 x1 x5).f1.f1) ((rd_T70 x1 x5).f1.f2) ((rd_T70 x1 x5).f2.f0) ((rd_T70 x1 x5).f2.f1) ((rd_T70 x1 x5).f2.f2)).bind fun t204 => (if t204 = true then (laws_eqTriS.l0 k x0 x1 (wrap64 (x5 + 1))) else (some false))) else (none)) else (none)) else (some true)
def laws_eqTriS.f (k : Nat) (l0 : List (S70)) (l1 : List (S70)) : Option (Bool) := if (l0.length : Int) = (l1.length : Int) then (laws_eqTriS.l0 k l0 l1 0) else (some false)
theorem laws_eqTriS.mono_l : ∀ k, (∀ y0 y1 y2, LeO (laws_eqTriS.l0 k y0 y1 y2) (laws_eqTriS.l0 (k + 1) y0 y1 y2))
 | 0 => fun _ _ _ r h => by simp [laws_eqTriS.l0] at h
 | k + 1 => by
  have ih0 := laws_eqTriS.mono_l k
  · intro y0 y1 y2
    unfold laws_eqTriS.l0
    repeat' with_reducible first | exact ih0 _ _ _ | exact LeO.refl _ | exact LeO.none _ | refine LeO.ite ?_ ?_ | refine LeO.bind ?_ (fun _ => ?_)
theorem laws_eqTriS.mono : ∀ a0 a1 k, LeO (laws_eqTriS.f k a0 a1) (laws_eqTriS.f (k + 1) a0 a1) := by
 intro a0 a1 k
 have ih0 := laws_eqTriS.mono_l k
 unfold laws_eqTriS.f
 repeat' with_reducible first | exact ih0 _ _ _ | exact LeO.refl _ | exact LeO.none _ | refine LeO.ite ?_ ?_ | refine LeO.bind ?_ (fun _ => ?_)
def laws_eqTriS.T6 : Bool × List (List Nat × List Nat) := (true, [([], []), ([], []), ([0, 1], [0, 1]), ([2], [2]), ([], []), ([], []), ([4, 5], [4, 5]), ([6], [6]), ([3, 7], [3, 7]), ([8], [8])])
def laws_eqTriS.B6 : List Nat := [0, 0, 3, 7, 0, 0, 48, 112, 255, 511]
theorem laws_eqTriS.tab6 : rtab .any (opsOf Tryd.f36 6) = laws_eqTriS.T6 := by kernel_rfl
theorem laws_eqTriS.bits6 : waitsOk laws_eqTriS.T6.2 laws_eqTriS.B6 = true := by kernel_rfl
theorem laws_eqTriS.calls (k : Nat) (A0 : Option Addr) (c0 : Nat) (l0 : List (S70)) (A1 : Option Addr) (c1 : Nat) (l1 : List (S70)) (r : Bool) (w : World) (hr0 : Kd.C k70 w A0 l0.length l0) (hc0 : l0.length ≤ c0) (hr1 : Kd.C k70 w A1 l1.length l1) (hc1 : l1.length ≤ c1) (h : laws_eqTriS.f k l0 l1 = some r) :
 Calls Tryd.prog 36 #[.slice A0 l0.length c0, .slice A1 l1.length c1] w fun e w' => e = .returned (.bool r) ∧ Below w.heap.size w w' := by
 have hu70 := Tryd.underlying70; have HR0 := AM hr0; have HC0 := AM hc0; clear hr0 hc0; have HR1 := AM hr1; have HC1 := AM hc1; clear hr1 hc1; have HB := AM (Below.refl w.heap.size w)
 have H : (if (l0.length : Int) = (l1.length : Int) then (laws_eqTriS.l0 k l0 l1 0) else (some false)) = some r := h
 clear h
 by_cases c3 : (l0.length : Int) = (l1.length : Int)
 rotate_left
 · rw [if_neg c3] at H
   have c3b0 : ((l0.length : Int) == (l1.length : Int)) = false := beq_eq_false_iff_ne.mpr c3
   have c3b1 : ((l0.length : Int) != (l1.length : Int)) = true := bne_iff_ne.mpr c3
   have c3b2 : (l0.length == l1.length) = false := by first | simpa using c3 | (simp at c3 ⊢; omega)
   obtain rfl := Option.some.inj H
   go_enter Tryd.func36, Tryd.ntmps36
   go_wp2
   go_ret
   exact ⟨eW, pH HB⟩

 rw [if_pos c3] at H
 have c3b0 : ((l0.length : Int) == (l1.length : Int)) = true := beq_iff_eq.mpr c3
 have c3b1 : ((l0.length : Int) != (l1.length : Int)) = false := bne_eq_false_iff_eq.mpr c3
 have c3b2 : (l0.length == l1.length) = true := by first | simpa using c3 | (simp at c3 ⊢; omega)
 clear c3
 have H' := AM H
 clear H
 go_enter Tryd.func36, Tryd.ntmps36
 go_wp2
 go_loopg [5] k (fun kq v5 w' => ∃ (x5_1 : Int), v5 = .int .i64 x5_1 ∧ Aside0 (laws_eqTriS.l0 kq l0 l1 x5_1 = some r) ∧ Aside0 (kq ≤ k) ∧ Aside0 (Below w.heap.size w w'))
 case atStart => exact ⟨(0), eR, H', ⟨Nat.le_refl _⟩, ⟨pH HB⟩⟩
 case round =>
  clear H'
  try clear c1
  try clear p2
  try clear c3
  try clear c3b0
  try clear c3b1
  try clear c3b2
  obtain ⟨x5_1, rfl, HA, HK1, HB⟩ := hrel
  cases gk with
  | zero => exact absurd HA.out (by simp [laws_eqTriS.l0])
  | succ k1 =>
   have H := HA.out; clear HA
   simp only [laws_eqTriS.l0] at H
   by_cases c4 : x5_1 < (l0.length : Int)
   rotate_left
   · rw [if_neg c4] at H
     have c4b0 : decide (x5_1 < (l0.length : Int)) = false := decide_eq_false c4
     clear c4
     obtain rfl := Option.some.inj H
     go_wp2
     go_ret
     exact ⟨eW, pH HB⟩
   rw [if_pos c4] at H
   have c4b0 : decide (x5_1 < (l0.length : Int)) = true := decide_eq_true c4
   clear c4
   by_cases c5 : 0 ≤ x5_1
   rotate_left
   · rw [if_neg c5] at H
     exact absurd H (by simp)
   rw [if_pos c5] at H
   have c5b0 : decide (0 ≤ x5_1) = true := decide_eq_true c5
   clear c5
   by_cases c6 : x5_1 < (l1.length : Int)
   rotate_left
   · rw [if_neg c6] at H
     exact absurd H (by simp)
   rw [if_pos c6] at H
   have c6b0 : decide (x5_1 < (l1.length : Int)) = true := decide_eq_true c6
   clear c6
   replace H := Option.bind_eq_some_iff.mp H
   obtain ⟨t204, A70, H⟩ := H
   (try dsimp only at H)
   have A7 := AM A70; clear A70
   by_cases c8 : t204 = true
   rotate_left
   · replace c8 := Bool.eq_false_iff.mpr c8
     subst c8
     have H1 : (some false) = some r := by rw [if_neg (show ¬ (false = true) by decide)] at H; exact H
     clear H; have H := H1; clear H1
     obtain rfl := Option.some.inj H
     try go_wp2
     replace HB := AM (below_drew1 HB.out)
     have p202 : 0 ≤ (x5_1 : Int) := dT
     have q202 : x5_1 < (l0.length : Int) := dT
     obtain ⟨ad202, e202, hx202_0, hx202_1, hx202_2, hx202_3, hx202_4, hx202_5, hx202_6, hx202_7, hx202_8⟩ := at_T70 HR0.out x5_1 p202 q202
     have hw202_8 := hx202_8; have hw202_7 := hx202_7; have hw202_6 := hx202_6; have hw202_5 := hx202_5; have hw202_4 := hx202_4; have hw202_3 := hx202_3; have hw202_2 := hx202_2; have hw202_1 := hx202_1; have hw202_0 := hx202_0
     cases e202
     replace hx202_0 := (HB.out.cell (World.block_lt_of_cell? w _ hx202_0)).trans hx202_0; replace hx202_1 := (HB.out.cell (World.block_lt_of_cell? w _ hx202_1)).trans hx202_1; replace hx202_2 := (HB.out.cell (World.block_lt_of_cell? w _ hx202_2)).trans hx202_2; replace hx202_3 := (HB.out.cell (World.block_lt_of_cell? w _ hx202_3)).trans hx202_3; replace hx202_4 := (HB.out.cell (World.block_lt_of_cell? w _ hx202_4)).trans hx202_4; replace hx202_5 := (HB.out.cell (World.block_lt_of_cell? w _ hx202_5)).trans hx202_5; replace hx202_6 := (HB.out.cell (World.block_lt_of_cell? w _ hx202_6)).trans hx202_6; replace hx202_7 := (HB.out.cell (World.block_lt_of_cell? w _ hx202_7)).trans hx202_7; replace hx202_8 := (HB.out.cell (World.block_lt_of_cell? w _ hx202_8)).trans hx202_8; replace p202 := eq_true p202; replace q202 := eq_true q202
     have p203 : 0 ≤ (x5_1 : Int) := dT
     have q203 : x5_1 < (l1.length : Int) := dT
     obtain ⟨ad203, e203, hx203_0, hx203_1, hx203_2, hx203_3, hx203_4, hx203_5, hx203_6, hx203_7, hx203_8⟩ := at_T70 HR1.out x5_1 p203 q203
     have hw203_8 := hx203_8; have hw203_7 := hx203_7; have hw203_6 := hx203_6; have hw203_5 := hx203_5; have hw203_4 := hx203_4; have hw203_3 := hx203_3; have hw203_2 := hx203_2; have hw203_1 := hx203_1; have hw203_0 := hx203_0
     cases e203
     replace hx203_0 := (HB.out.cell (World.block_lt_of_cell? w _ hx203_0)).trans hx203_0; replace hx203_1 := (HB.out.cell (World.block_lt_of_cell? w _ hx203_1)).trans hx203_1; replace hx203_2 := (HB.out.cell (World.block_lt_of_cell? w _ hx203_2)).trans hx203_2; replace hx203_3 := (HB.out.cell (World.block_lt_of_cell? w _ hx203_3)).trans hx203_3; replace hx203_4 := (HB.out.cell (World.block_lt_of_cell? w _ hx203_4)).trans hx203_4; replace hx203_5 := (HB.out.cell (World.block_lt_of_cell? w _ hx203_5)).trans hx203_5; replace hx203_6 := (HB.out.cell (World.block_lt_of_cell? w _ hx203_6)).trans hx203_6; replace hx203_7 := (HB.out.cell (World.block_lt_of_cell? w _ hx203_7)).trans hx203_7; replace hx203_8 := (HB.out.cell (World.block_lt_of_cell? w _ hx203_8)).trans hx203_8; replace p203 := eq_true p203; replace q203 := eq_true q203
     refine start_ (n := 10) (S := fun w' => w'.cell? (ad202.add ((x5_1).toNat * 9)) = some (.int .u32 ((rd_T70 l0 x5_1).f0.f0)) ∧ w'.cell? ⟨(ad202.add ((x5_1).toNat * 9)).block, (ad202.add ((x5_1).toNat * 9)).off + 1, none⟩ = some (.int .u32 ((rd_T70 l0 x5_1).f0.f1)) ∧ w'.cell? ⟨(ad202.add ((x5_1).toNat * 9)).block, (ad202.add ((x5_1).toNat * 9)).off + 2, none⟩ = some (.int .u32 ((rd_T70 l0 x5_1).f0.f2)) ∧ w'.cell? ⟨(ad202.add ((x5_1).toNat * 9)).block, (ad202.add ((x5_1).toNat * 9)).off + 3, none⟩ = some (.int .u32 ((rd_T70 l0 x5_1).f1.f0)) ∧ w'.cell? ⟨(ad202.add ((x5_1).toNat * 9)).block, (ad202.add ((x5_1).toNat * 9)).off + 4, none⟩ = some (.int .u32 ((rd_T70 l0 x5_1).f1.f1)) ∧ w'.cell? ⟨(ad202.add ((x5_1).toNat * 9)).block, (ad202.add ((x5_1).toNat * 9)).off + 5, none⟩ = some (.int .u32 ((rd_T70 l0 x5_1).f1.f2)) ∧ w'.cell? ⟨(ad202.add ((x5_1).toNat * 9)).block, (ad202.add ((x5_1).toNat * 9)).off + 6, none⟩ = some (.int .u32 ((rd_T70 l0 x5_1).f2.f0)) ∧ w'.cell? ⟨(ad202.add ((x5_1).toNat * 9)).block, (ad202.add ((x5_1).toNat * 9)).off + 7, none⟩ = some (.int .u32 ((rd_T70 l0 x5_1).f2.f1)) ∧ w'.cell? ⟨(ad202.add ((x5_1).toNat * 9)).block, (ad202.add ((x5_1).toNat * 9)).off + 8, none⟩ = some (.int .u32 ((rd_T70 l0 x5_1).f2.f2)) ∧ w'.cell? (ad203.add ((x5_1).toNat * 9)) = some (.int .u32 ((rd_T70 l1 x5_1).f0.f0)) ∧ w'.cell? ⟨(ad203.add ((x5_1).toNat * 9)).block, (ad203.add ((x5_1).toNat * 9)).off + 1, none⟩ = some (.int .u32 ((rd_T70 l1 x5_1).f0.f1)) ∧ w'.cell? ⟨(ad203.add ((x5_1).toNat * 9)).block, (ad203.add ((x5_1).toNat * 9)).off + 2, none⟩ = some (.int .u32 ((rd_T70 l1 x5_1).f0.f2)) ∧ w'.cell? ⟨(ad203.add ((x5_1).toNat * 9)).block, (ad203.add ((x5_1).toNat * 9)).off + 3, none⟩ = some (.int .u32 ((rd_T70 l1 x5_1).f1.f0)) ∧ w'.cell? ⟨(ad203.add ((x5_1).toNat * 9)).block, (ad203.add ((x5_1).toNat * 9)).off + 4, none⟩ = some (.int .u32 ((rd_T70 l1 x5_1).f1.f1)) ∧ w'.cell? ⟨(ad203.add ((x5_1).toNat * 9)).block, (ad203.add ((x5_1).toNat * 9)).off + 5, none⟩ = some (.int .u32 ((rd_T70 l1 x5_1).f1.f2)) ∧ w'.cell? ⟨(ad203.add ((x5_1).toNat * 9)).block, (ad203.add ((x5_1).toNat * 9)).off + 6, none⟩ = some (.int .u32 ((rd_T70 l1 x5_1).f2.f0)) ∧ w'.cell? ⟨(ad203.add ((x5_1).toNat * 9)).block, (ad203.add ((x5_1).toNat * 9)).off + 7, none⟩ = some (.int .u32 ((rd_T70 l1 x5_1).f2.f1)) ∧ w'.cell? ⟨(ad203.add ((x5_1).toNat * 9)).block, (ad203.add ((x5_1).toNat * 9)).off + 8, none⟩ = some (.int .u32 ((rd_T70 l1 x5_1).f2.f2))) (ds := []) #[false, false, false, false, false, false, false, false, false, false] (by kernel_rfl) rfl rfl ⟨((HB.out.cell (World.block_lt_of_cell? w _ hw202_0)).trans hw202_0), ((HB.out.cell (World.block_lt_of_cell? w _ hw202_1)).trans hw202_1), ((HB.out.cell (World.block_lt_of_cell? w _ hw202_2)).trans hw202_2), ((HB.out.cell (World.block_lt_of_cell? w _ hw202_3)).trans hw202_3), ((HB.out.cell (World.block_lt_of_cell? w _ hw202_4)).trans hw202_4), ((HB.out.cell (World.block_lt_of_cell? w _ hw202_5)).trans hw202_5), ((HB.out.cell (World.block_lt_of_cell? w _ hw202_6)).trans hw202_6), ((HB.out.cell (World.block_lt_of_cell? w _ hw202_7)).trans hw202_7), ((HB.out.cell (World.block_lt_of_cell? w _ hw202_8)).trans hw202_8), ((HB.out.cell (World.block_lt_of_cell? w _ hw203_0)).trans hw203_0), ((HB.out.cell (World.block_lt_of_cell? w _ hw203_1)).trans hw203_1), ((HB.out.cell (World.block_lt_of_cell? w _ hw203_2)).trans hw203_2), ((HB.out.cell (World.block_lt_of_cell? w _ hw203_3)).trans hw203_3), ((HB.out.cell (World.block_lt_of_cell? w _ hw203_4)).trans hw203_4), ((HB.out.cell (World.block_lt_of_cell? w _ hw203_5)).trans hw203_5), ((HB.out.cell (World.block_lt_of_cell? w _ hw203_6)).trans hw203_6), ((HB.out.cell (World.block_lt_of_cell? w _ hw203_7)).trans hw203_7), ((HB.out.cell (World.block_lt_of_cell? w _ hw203_8)).trans hw203_8)⟩ (fun hHeld => ?_); refine with_tabW laws_eqTriS.tab6 laws_eqTriS.bits6 (fun HT_ HW_ => ?_)
     generalize wr.drew = w11 at HB hx202_0 hx202_1 hx202_2 hx202_3 hx202_4 hx202_5 hx202_6 hx202_7 hx202_8 hx203_0 hx203_1 hx203_2 hx203_3 hx203_4 hx203_5 hx203_6 hx203_7 hx203_8 hHeld ⊢
     refine pure_ (i := 0) (N := some 17) (v := ?_) (a' := ?_) #[true, false, false, false, false, false, false, false, false, false] rfl rfl (any_of HT_.out (by kernel_rfl)) (fun _ _ _ h => h) (Or.inl ⟨by rfl, ?_⟩) ?_ ?_
     rotate_left
     · intro w'
       go_simp
       with_reducible rfl
     rotate_left
     · simp only [Act.put, sa, sb, sc, i64_w, i32_w]
       rfl
     refine pure_ (i := 1) (N := some 18) (v := ?_) (a' := ?_) #[true, true, false, false, false, false, false, false, false, false] rfl rfl (any_of HT_.out (by kernel_rfl)) (fun _ _ _ h => h) (Or.inl ⟨by rfl, ?_⟩) ?_ ?_
     rotate_left
     · intro w'
       go_simp
       with_reducible rfl
     rotate_left
     · simp only [Act.put, sa, sb, sc, i64_w, i32_w]
       rfl
     refine pure_ (i := 2) (N := some 19) (v := ?_) (a' := ?_) #[true, true, true, false, false, false, false, false, false, false] rfl rfl (any_of HT_.out (by kernel_rfl)) (fun _ _ _ h => h) (Or.inl ⟨by rfl, ?_⟩) ?_ ?_
     rotate_left
     · intro w'
       go_simp
       with_reducible rfl
     rotate_left
     · simp only [Act.put, sa, sb, sc, i64_w, i32_w]
       rfl
     refine pure_ (i := 4) (N := some 21) (v := ?_) (a' := ?_) #[true, true, true, false, true, false, false, false, false, false] rfl rfl (any_of HT_.out (by kernel_rfl)) (fun _ _ _ h => h) (Or.inl ⟨by rfl, ?_⟩) ?_ ?_
     rotate_left
     · intro w'
       go_simp
       with_reducible rfl
     rotate_left
     · simp only [Act.put, sa, sb, sc, i64_w, i32_w]
       rfl
     refine pure_ (i := 5) (N := some 22) (v := ?_) (a' := ?_) #[true, true, true, false, true, true, false, false, false, false] rfl rfl (any_of HT_.out (by kernel_rfl)) (fun _ _ _ h => h) (Or.inl ⟨by rfl, ?_⟩) ?_ ?_
     rotate_left
     · intro w'
       go_simp
       with_reducible rfl
     rotate_left
     · simp only [Act.put, sa, sb, sc, i64_w, i32_w]
       rfl
     refine pure_ (i := 6) (N := some 23) (v := ?_) (a' := ?_) #[true, true, true, false, true, true, true, false, false, false] rfl rfl (any_of HT_.out (by kernel_rfl)) (fun _ _ _ h => h) (Or.inl ⟨by rfl, ?_⟩) ?_ ?_
     rotate_left
     · intro w'
       go_simp
       with_reducible rfl
     rotate_left
     · simp only [Act.put, sa, sb, sc, i64_w, i32_w]
       rfl
     refine take_ (i := 3) (N := some 20) (v := ?_) (a' := ?_) #[true, true, true, true, true, true, true, false, false, false] rfl rfl (take_ofW HT_.out HW_.out (by kernel_rfl)) (fun _ _ _ h => h) (Or.inl ⟨by rfl, ?_⟩) hHeld ?_ ?_
     rotate_left
     · rintro w' ⟨s0, s1, s2, s3, s4, s5, s6, s7, s8, s9, s10, s11, s12, s13, s14, s15, s16, s17⟩
       go_simp
       with_reducible rfl
     rotate_left
     · simp only [Act.put, sa, sb, sc, i64_w, i32_w]
       rfl
     refine take_ (i := 7) (N := some 24) (v := ?_) (a' := ?_) #[true, true, true, true, true, true, true, true, false, false] rfl rfl (take_ofW HT_.out HW_.out (by kernel_rfl)) (fun _ _ _ h => h) (Or.inl ⟨by rfl, ?_⟩) hHeld ?_ ?_
     rotate_left
     · rintro w' ⟨s0, s1, s2, s3, s4, s5, s6, s7, s8, s9, s10, s11, s12, s13, s14, s15, s16, s17⟩
       go_simp
       with_reducible rfl
     rotate_left
     · simp only [Act.put, sa, sb, sc, i64_w, i32_w]
       rfl
     refine one_ (i := 8) (N := some 25) #[true, true, true, true, true, true, true, true, true, false] rfl rfl (one_of HT_.out (by kernel_rfl)) (by decide) (fun K hK => ?_)
     refine goes_ Tryd.func59 (by kernel_rfl) rfl #[.agg #[.int .u32 ((rd_T70 l0 x5_1).f0.f0), .int .u32 ((rd_T70 l0 x5_1).f0.f1), .int .u32 ((rd_T70 l0 x5_1).f0.f2), .int .u32 ((rd_T70 l0 x5_1).f1.f0), .int .u32 ((rd_T70 l0 x5_1).f1.f1), .int .u32 ((rd_T70 l0 x5_1).f1.f2), .int .u32 ((rd_T70 l0 x5_1).f2.f0), .int .u32 ((rd_T70 l0 x5_1).f2.f1), .int .u32 ((rd_T70 l0 x5_1).f2.f2)], .agg #[.int .u32 ((rd_T70 l1 x5_1).f0.f0), .int .u32 ((rd_T70 l1 x5_1).f0.f1), .int .u32 ((rd_T70 l1 x5_1).f0.f2), .int .u32 ((rd_T70 l1 x5_1).f1.f0), .int .u32 ((rd_T70 l1 x5_1).f1.f1), .int .u32 ((rd_T70 l1 x5_1).f1.f2), .int .u32 ((rd_T70 l1 x5_1).f2.f0), .int .u32 ((rd_T70 l1 x5_1).f2.f1), .int .u32 ((rd_T70 l1 x5_1).f2.f2)]] (by rfl) rfl rfl hM ?_
     with_reducible refine (laws_eqTri.calls ((rd_T70 l0 x5_1).f0.f0) ((rd_T70 l0 x5_1).f0.f1) ((rd_T70 l0 x5_1).f0.f2) ((rd_T70 l0 x5_1).f1.f0) ((rd_T70 l0 x5_1).f1.f1) ((rd_T70 l0 x5_1).f1.f2) ((rd_T70 l0 x5_1).f2.f0) ((rd_T70 l0 x5_1).f2.f1) ((rd_T70 l0 x5_1).f2.f2) ((rd_T70 l1 x5_1).f0.f0) ((rd_T70 l1 x5_1).f0.f1) ((rd_T70 l1 x5_1).f0.f2) ((rd_T70 l1 x5_1).f1.f0) ((rd_T70 l1 x5_1).f1.f1) ((rd_T70 l1 x5_1).f1.f2) ((rd_T70 l1 x5_1).f2.f0) ((rd_T70 l1 x5_1).f2.f1) ((rd_T70 l1 x5_1).f2.f2) false _ A7.out).mono ?_
     rintro e w12 ⟨rfl, hb⟩
     refine ⟨_, rfl, ?_⟩
     replace HB := AM (below_step (pH HB) hb)
     (try clear hb)
     (try clear hb2)
     (try clear hk)
     (try clear hi)
     refine hK.out _ _ ⟨((HB.out.cell (World.block_lt_of_cell? w _ hw202_0)).trans hw202_0), ((HB.out.cell (World.block_lt_of_cell? w _ hw202_1)).trans hw202_1), ((HB.out.cell (World.block_lt_of_cell? w _ hw202_2)).trans hw202_2), ((HB.out.cell (World.block_lt_of_cell? w _ hw202_3)).trans hw202_3), ((HB.out.cell (World.block_lt_of_cell? w _ hw202_4)).trans hw202_4), ((HB.out.cell (World.block_lt_of_cell? w _ hw202_5)).trans hw202_5), ((HB.out.cell (World.block_lt_of_cell? w _ hw202_6)).trans hw202_6), ((HB.out.cell (World.block_lt_of_cell? w _ hw202_7)).trans hw202_7), ((HB.out.cell (World.block_lt_of_cell? w _ hw202_8)).trans hw202_8), ((HB.out.cell (World.block_lt_of_cell? w _ hw203_0)).trans hw203_0), ((HB.out.cell (World.block_lt_of_cell? w _ hw203_1)).trans hw203_1), ((HB.out.cell (World.block_lt_of_cell? w _ hw203_2)).trans hw203_2), ((HB.out.cell (World.block_lt_of_cell? w _ hw203_3)).trans hw203_3), ((HB.out.cell (World.block_lt_of_cell? w _ hw203_4)).trans hw203_4), ((HB.out.cell (World.block_lt_of_cell? w _ hw203_5)).trans hw203_5), ((HB.out.cell (World.block_lt_of_cell? w _ hw203_6)).trans hw203_6), ((HB.out.cell (World.block_lt_of_cell? w _ hw203_7)).trans hw203_7), ((HB.out.cell (World.block_lt_of_cell? w _ hw203_8)).trans hw203_8)⟩ (fun hHeld => ?_)
     clear hK K
     refine norm_ (a' := ?_) ?_ ?_
     rotate_left
     · show Act.put _ (some 25) _ = _
       simp only [Act.put, sa, sb, sc, i64_w, i32_w]
       rfl
     refine pure_ (i := 9) (N := some 26) (v := ?_) (a' := ?_) #[true, true, true, true, true, true, true, true, true, true] rfl rfl (any_of HT_.out (by kernel_rfl)) (fun _ _ _ h => h) (Or.inl ⟨by rfl, ?_⟩) ?_ ?_
     rotate_left
     · intro w'
       go_simp
       with_reducible rfl
     rotate_left
     · simp only [Act.put, sa, sb, sc, i64_w, i32_w]
       rfl
     refine done_ (done_of HT_.out (by kernel_rfl)) ?_
     try go_wp2
     go_ret
     exact ⟨eW, pH HB⟩
   subst c8
   have H1 : (laws_eqTriS.l0 k1 l0 l1 (wrap64 (x5_1 + 1))) = some r := by rw [if_pos rfl] at H; exact H
   clear H; have H := H1; clear H1
   have H' := AM H
   clear H
   try go_wp2
   replace HB := AM (below_drew1 HB.out)
   have p202 : 0 ≤ (x5_1 : Int) := dT
   have q202 : x5_1 < (l0.length : Int) := dT
   obtain ⟨ad202, e202, hx202_0, hx202_1, hx202_2, hx202_3, hx202_4, hx202_5, hx202_6, hx202_7, hx202_8⟩ := at_T70 HR0.out x5_1 p202 q202
   have hw202_8 := hx202_8; have hw202_7 := hx202_7; have hw202_6 := hx202_6; have hw202_5 := hx202_5; have hw202_4 := hx202_4; have hw202_3 := hx202_3; have hw202_2 := hx202_2; have hw202_1 := hx202_1; have hw202_0 := hx202_0
   cases e202
   replace hx202_0 := (HB.out.cell (World.block_lt_of_cell? w _ hx202_0)).trans hx202_0; replace hx202_1 := (HB.out.cell (World.block_lt_of_cell? w _ hx202_1)).trans hx202_1; replace hx202_2 := (HB.out.cell (World.block_lt_of_cell? w _ hx202_2)).trans hx202_2; replace hx202_3 := (HB.out.cell (World.block_lt_of_cell? w _ hx202_3)).trans hx202_3; replace hx202_4 := (HB.out.cell (World.block_lt_of_cell? w _ hx202_4)).trans hx202_4; replace hx202_5 := (HB.out.cell (World.block_lt_of_cell? w _ hx202_5)).trans hx202_5; replace hx202_6 := (HB.out.cell (World.block_lt_of_cell? w _ hx202_6)).trans hx202_6; replace hx202_7 := (HB.out.cell (World.block_lt_of_cell? w _ hx202_7)).trans hx202_7; replace hx202_8 := (HB.out.cell (World.block_lt_of_cell? w _ hx202_8)).trans hx202_8; replace p202 := eq_true p202; replace q202 := eq_true q202
   have p203 : 0 ≤ (x5_1 : Int) := dT
   have q203 : x5_1 < (l1.length : Int) := dT
   obtain ⟨ad203, e203, hx203_0, hx203_1, hx203_2, hx203_3, hx203_4, hx203_5, hx203_6, hx203_7, hx203_8⟩ := at_T70 HR1.out x5_1 p203 q203
   have hw203_8 := hx203_8; have hw203_7 := hx203_7; have hw203_6 := hx203_6; have hw203_5 := hx203_5; have hw203_4 := hx203_4; have hw203_3 := hx203_3; have hw203_2 := hx203_2; have hw203_1 := hx203_1; have hw203_0 := hx203_0
   cases e203
   replace hx203_0 := (HB.out.cell (World.block_lt_of_cell? w _ hx203_0)).trans hx203_0; replace hx203_1 := (HB.out.cell (World.block_lt_of_cell? w _ hx203_1)).trans hx203_1; replace hx203_2 := (HB.out.cell (World.block_lt_of_cell? w _ hx203_2)).trans hx203_2; replace hx203_3 := (HB.out.cell (World.block_lt_of_cell? w _ hx203_3)).trans hx203_3; replace hx203_4 := (HB.out.cell (World.block_lt_of_cell? w _ hx203_4)).trans hx203_4; replace hx203_5 := (HB.out.cell (World.block_lt_of_cell? w _ hx203_5)).trans hx203_5; replace hx203_6 := (HB.out.cell (World.block_lt_of_cell? w _ hx203_6)).trans hx203_6; replace hx203_7 := (HB.out.cell (World.block_lt_of_cell? w _ hx203_7)).trans hx203_7; replace hx203_8 := (HB.out.cell (World.block_lt_of_cell? w _ hx203_8)).trans hx203_8; replace p203 := eq_true p203; replace q203 := eq_true q203
   refine start_ (n := 10) (S := fun w' => w'.cell? (ad202.add ((x5_1).toNat * 9)) = some (.int .u32 ((rd_T70 l0 x5_1).f0.f0)) ∧ w'.cell? ⟨(ad202.add ((x5_1).toNat * 9)).block, (ad202.add ((x5_1).toNat * 9)).off + 1, none⟩ = some (.int .u32 ((rd_T70 l0 x5_1).f0.f1)) ∧ w'.cell? ⟨(ad202.add ((x5_1).toNat * 9)).block, (ad202.add ((x5_1).toNat * 9)).off + 2, none⟩ = some (.int .u32 ((rd_T70 l0 x5_1).f0.f2)) ∧ w'.cell? ⟨(ad202.add ((x5_1).toNat * 9)).block, (ad202.add ((x5_1).toNat * 9)).off + 3, none⟩ = some (.int .u32 ((rd_T70 l0 x5_1).f1.f0)) ∧ w'.cell? ⟨(ad202.add ((x5_1).toNat * 9)).block, (ad202.add ((x5_1).toNat * 9)).off + 4, none⟩ = some (.int .u32 ((rd_T70 l0 x5_1).f1.f1)) ∧ w'.cell? ⟨(ad202.add ((x5_1).toNat * 9)).block, (ad202.add ((x5_1).toNat * 9)).off + 5, none⟩ = some (.int .u32 ((rd_T70 l0 x5_1).f1.f2)) ∧ w'.cell? ⟨(ad202.add ((x5_1).toNat * 9)).block, (ad202.add ((x5_1).toNat * 9)).off + 6, none⟩ = some (.int .u32 ((rd_T70 l0 x5_1).f2.f0)) ∧ w'.cell? ⟨(ad202.add ((x5_1).toNat * 9)).block, (ad202.add ((x5_1).toNat * 9)).off + 7, none⟩ = some (.int .u32 ((rd_T70 l0 x5_1).f2.f1)) ∧ w'.cell? ⟨(ad202.add ((x5_1).toNat * 9)).block, (ad202.add ((x5_1).toNat * 9)).off + 8, none⟩ = some (.int .u32 ((rd_T70 l0 x5_1).f2.f2)) ∧ w'.cell? (ad203.add ((x5_1).toNat * 9)) = some (.int .u32 ((rd_T70 l1 x5_1).f0.f0)) ∧ w'.cell? ⟨(ad203.add ((x5_1).toNat * 9)).block, (ad203.add ((x5_1).toNat * 9)).off + 1, none⟩ = some (.int .u32 ((rd_T70 l1 x5_1).f0.f1)) ∧ w'.cell? ⟨(ad203.add ((x5_1).toNat * 9)).block, (ad203.add ((x5_1).toNat * 9)).off + 2, none⟩ = some (.int .u32 ((rd_T70 l1 x5_1).f0.f2)) ∧ w'.cell? ⟨(ad203.add ((x5_1).toNat * 9)).block, (ad203.add ((x5_1).toNat * 9)).off + 3, none⟩ = some (.int .u32 ((rd_T70 l1 x5_1).f1.f0)) ∧ w'.cell? ⟨(ad203.add ((x5_1).toNat * 9)).block, (ad203.add ((x5_1).toNat * 9)).off + 4, none⟩ = some (.int .u32 ((rd_T70 l1 x5_1).f1.f1)) ∧ w'.cell? ⟨(ad203.add ((x5_1).toNat * 9)).block, (ad203.add ((x5_1).toNat * 9)).off + 5, none⟩ = some (.int .u32 ((rd_T70 l1 x5_1).f1.f2)) ∧ w'.cell? ⟨(ad203.add ((x5_1).toNat * 9)).block, (ad203.add ((x5_1).toNat * 9)).off + 6, none⟩ = some (.int .u32 ((rd_T70 l1 x5_1).f2.f0)) ∧ w'.cell? ⟨(ad203.add ((x5_1).toNat * 9)).block, (ad203.add ((x5_1).toNat * 9)).off + 7, none⟩ = some (.int .u32 ((rd_T70 l1 x5_1).f2.f1)) ∧ w'.cell? ⟨(ad203.add ((x5_1).toNat * 9)).block, (ad203.add ((x5_1).toNat * 9)).off + 8, none⟩ = some (.int .u32 ((rd_T70 l1 x5_1).f2.f2))) (ds := []) #[false, false, false, false, false, false, false, false, false, false] (by kernel_rfl) rfl rfl ⟨((HB.out.cell (World.block_lt_of_cell? w _ hw202_0)).trans hw202_0), ((HB.out.cell (World.block_lt_of_cell? w _ hw202_1)).trans hw202_1), ((HB.out.cell (World.block_lt_of_cell? w _ hw202_2)).trans hw202_2), ((HB.out.cell (World.block_lt_of_cell? w _ hw202_3)).trans hw202_3), ((HB.out.cell (World.block_lt_of_cell? w _ hw202_4)).trans hw202_4), ((HB.out.cell (World.block_lt_of_cell? w _ hw202_5)).trans hw202_5), ((HB.out.cell (World.block_lt_of_cell? w _ hw202_6)).trans hw202_6), ((HB.out.cell (World.block_lt_of_cell? w _ hw202_7)).trans hw202_7), ((HB.out.cell (World.block_lt_of_cell? w _ hw202_8)).trans hw202_8), ((HB.out.cell (World.block_lt_of_cell? w _ hw203_0)).trans hw203_0), ((HB.out.cell (World.block_lt_of_cell? w _ hw203_1)).trans hw203_1), ((HB.out.cell (World.block_lt_of_cell? w _ hw203_2)).trans hw203_2), ((HB.out.cell (World.block_lt_of_cell? w _ hw203_3)).trans hw203_3), ((HB.out.cell (World.block_lt_of_cell? w _ hw203_4)).trans hw203_4), ((HB.out.cell (World.block_lt_of_cell? w _ hw203_5)).trans hw203_5), ((HB.out.cell (World.block_lt_of_cell? w _ hw203_6)).trans hw203_6), ((HB.out.cell (World.block_lt_of_cell? w _ hw203_7)).trans hw203_7), ((HB.out.cell (World.block_lt_of_cell? w _ hw203_8)).trans hw203_8)⟩ (fun hHeld => ?_); refine with_tabW laws_eqTriS.tab6 laws_eqTriS.bits6 (fun HT_ HW_ => ?_)
   generalize wr.drew = w9 at HB hx202_0 hx202_1 hx202_2 hx202_3 hx202_4 hx202_5 hx202_6 hx202_7 hx202_8 hx203_0 hx203_1 hx203_2 hx203_3 hx203_4 hx203_5 hx203_6 hx203_7 hx203_8 hHeld ⊢
   refine pure_ (i := 0) (N := some 17) (v := ?_) (a' := ?_) #[true, false, false, false, false, false, false, false, false, false] rfl rfl (any_of HT_.out (by kernel_rfl)) (fun _ _ _ h => h) (Or.inl ⟨by rfl, ?_⟩) ?_ ?_
   rotate_left
   · intro w'
     go_simp
     with_reducible rfl
   rotate_left
   · simp only [Act.put, sa, sb, sc, i64_w, i32_w]
     rfl
   refine pure_ (i := 1) (N := some 18) (v := ?_) (a' := ?_) #[true, true, false, false, false, false, false, false, false, false] rfl rfl (any_of HT_.out (by kernel_rfl)) (fun _ _ _ h => h) (Or.inl ⟨by rfl, ?_⟩) ?_ ?_
   rotate_left
   · intro w'
     go_simp
     with_reducible rfl
   rotate_left
   · simp only [Act.put, sa, sb, sc, i64_w, i32_w]
     rfl
   refine pure_ (i := 2) (N := some 19) (v := ?_) (a' := ?_) #[true, true, true, false, false, false, false, false, false, false] rfl rfl (any_of HT_.out (by kernel_rfl)) (fun _ _ _ h => h) (Or.inl ⟨by rfl, ?_⟩) ?_ ?_
   rotate_left
   · intro w'
     go_simp
     with_reducible rfl
   rotate_left
   · simp only [Act.put, sa, sb, sc, i64_w, i32_w]
     rfl
   refine pure_ (i := 4) (N := some 21) (v := ?_) (a' := ?_) #[true, true, true, false, true, false, false, false, false, false] rfl rfl (any_of HT_.out (by kernel_rfl)) (fun _ _ _ h => h) (Or.inl ⟨by rfl, ?_⟩) ?_ ?_
   rotate_left
   · intro w'
     go_simp
     with_reducible rfl
   rotate_left
   · simp only [Act.put, sa, sb, sc, i64_w, i32_w]
     rfl
   refine pure_ (i := 5) (N := some 22) (v := ?_) (a' := ?_) #[true, true, true, false, true, true, false, false, false, false] rfl rfl (any_of HT_.out (by kernel_rfl)) (fun _ _ _ h => h) (Or.inl ⟨by rfl, ?_⟩) ?_ ?_
   rotate_left
   · intro w'
     go_simp
     with_reducible rfl
   rotate_left
   · simp only [Act.put, sa, sb, sc, i64_w, i32_w]
     rfl
   refine pure_ (i := 6) (N := some 23) (v := ?_) (a' := ?_) #[true, true, true, false, true, true, true, false, false, false] rfl rfl (any_of HT_.out (by kernel_rfl)) (fun _ _ _ h => h) (Or.inl ⟨by rfl, ?_⟩) ?_ ?_
   rotate_left
   · intro w'
     go_simp
     with_reducible rfl
   rotate_left
   · simp only [Act.put, sa, sb, sc, i64_w, i32_w]
     rfl
   refine take_ (i := 3) (N := some 20) (v := ?_) (a' := ?_) #[true, true, true, true, true, true, true, false, false, false] rfl rfl (take_ofW HT_.out HW_.out (by kernel_rfl)) (fun _ _ _ h => h) (Or.inl ⟨by rfl, ?_⟩) hHeld ?_ ?_
   rotate_left
   · rintro w' ⟨s0, s1, s2, s3, s4, s5, s6, s7, s8, s9, s10, s11, s12, s13, s14, s15, s16, s17⟩
     go_simp
     with_reducible rfl
   rotate_left
   · simp only [Act.put, sa, sb, sc, i64_w, i32_w]
     rfl
   refine take_ (i := 7) (N := some 24) (v := ?_) (a' := ?_) #[true, true, true, true, true, true, true, true, false, false] rfl rfl (take_ofW HT_.out HW_.out (by kernel_rfl)) (fun _ _ _ h => h) (Or.inl ⟨by rfl, ?_⟩) hHeld ?_ ?_
   rotate_left
   · rintro w' ⟨s0, s1, s2, s3, s4, s5, s6, s7, s8, s9, s10, s11, s12, s13, s14, s15, s16, s17⟩
     go_simp
     with_reducible rfl
   rotate_left
   · simp only [Act.put, sa, sb, sc, i64_w, i32_w]
     rfl
   refine one_ (i := 8) (N := some 25) #[true, true, true, true, true, true, true, true, true, false] rfl rfl (one_of HT_.out (by kernel_rfl)) (by decide) (fun K hK => ?_)
   refine goes_ Tryd.func59 (by kernel_rfl) rfl #[.agg #[.int .u32 ((rd_T70 l0 x5_1).f0.f0), .int .u32 ((rd_T70 l0 x5_1).f0.f1), .int .u32 ((rd_T70 l0 x5_1).f0.f2), .int .u32 ((rd_T70 l0 x5_1).f1.f0), .int .u32 ((rd_T70 l0 x5_1).f1.f1), .int .u32 ((rd_T70 l0 x5_1).f1.f2), .int .u32 ((rd_T70 l0 x5_1).f2.f0), .int .u32 ((rd_T70 l0 x5_1).f2.f1), .int .u32 ((rd_T70 l0 x5_1).f2.f2)], .agg #[.int .u32 ((rd_T70 l1 x5_1).f0.f0), .int .u32 ((rd_T70 l1 x5_1).f0.f1), .int .u32 ((rd_T70 l1 x5_1).f0.f2), .int .u32 ((rd_T70 l1 x5_1).f1.f0), .int .u32 ((rd_T70 l1 x5_1).f1.f1), .int .u32 ((rd_T70 l1 x5_1).f1.f2), .int .u32 ((rd_T70 l1 x5_1).f2.f0), .int .u32 ((rd_T70 l1 x5_1).f2.f1), .int .u32 ((rd_T70 l1 x5_1).f2.f2)]] (by rfl) rfl rfl hM ?_
   with_reducible refine (laws_eqTri.calls ((rd_T70 l0 x5_1).f0.f0) ((rd_T70 l0 x5_1).f0.f1) ((rd_T70 l0 x5_1).f0.f2) ((rd_T70 l0 x5_1).f1.f0) ((rd_T70 l0 x5_1).f1.f1) ((rd_T70 l0 x5_1).f1.f2) ((rd_T70 l0 x5_1).f2.f0) ((rd_T70 l0 x5_1).f2.f1) ((rd_T70 l0 x5_1).f2.f2) ((rd_T70 l1 x5_1).f0.f0) ((rd_T70 l1 x5_1).f0.f1) ((rd_T70 l1 x5_1).f0.f2) ((rd_T70 l1 x5_1).f1.f0) ((rd_T70 l1 x5_1).f1.f1) ((rd_T70 l1 x5_1).f1.f2) ((rd_T70 l1 x5_1).f2.f0) ((rd_T70 l1 x5_1).f2.f1) ((rd_T70 l1 x5_1).f2.f2) true _ A7.out).mono ?_
   rintro e w10 ⟨rfl, hb⟩
   refine ⟨_, rfl, ?_⟩
   replace HB := AM (below_step (pH HB) hb)
   (try clear hb)
   (try clear hb2)
   (try clear hk)
   (try clear hi)
   refine hK.out _ _ ⟨((HB.out.cell (World.block_lt_of_cell? w _ hw202_0)).trans hw202_0), ((HB.out.cell (World.block_lt_of_cell? w _ hw202_1)).trans hw202_1), ((HB.out.cell (World.block_lt_of_cell? w _ hw202_2)).trans hw202_2), ((HB.out.cell (World.block_lt_of_cell? w _ hw202_3)).trans hw202_3), ((HB.out.cell (World.block_lt_of_cell? w _ hw202_4)).trans hw202_4), ((HB.out.cell (World.block_lt_of_cell? w _ hw202_5)).trans hw202_5), ((HB.out.cell (World.block_lt_of_cell? w _ hw202_6)).trans hw202_6), ((HB.out.cell (World.block_lt_of_cell? w _ hw202_7)).trans hw202_7), ((HB.out.cell (World.block_lt_of_cell? w _ hw202_8)).trans hw202_8), ((HB.out.cell (World.block_lt_of_cell? w _ hw203_0)).trans hw203_0), ((HB.out.cell (World.block_lt_of_cell? w _ hw203_1)).trans hw203_1), ((HB.out.cell (World.block_lt_of_cell? w _ hw203_2)).trans hw203_2), ((HB.out.cell (World.block_lt_of_cell? w _ hw203_3)).trans hw203_3), ((HB.out.cell (World.block_lt_of_cell? w _ hw203_4)).trans hw203_4), ((HB.out.cell (World.block_lt_of_cell? w _ hw203_5)).trans hw203_5), ((HB.out.cell (World.block_lt_of_cell? w _ hw203_6)).trans hw203_6), ((HB.out.cell (World.block_lt_of_cell? w _ hw203_7)).trans hw203_7), ((HB.out.cell (World.block_lt_of_cell? w _ hw203_8)).trans hw203_8)⟩ (fun hHeld => ?_)
   clear hK K
   refine norm_ (a' := ?_) ?_ ?_
   rotate_left
   · show Act.put _ (some 25) _ = _
     simp only [Act.put, sa, sb, sc, i64_w, i32_w]
     rfl
   refine pure_ (i := 9) (N := some 26) (v := ?_) (a' := ?_) #[true, true, true, true, true, true, true, true, true, true] rfl rfl (any_of HT_.out (by kernel_rfl)) (fun _ _ _ h => h) (Or.inl ⟨by rfl, ?_⟩) ?_ ?_
   rotate_left
   · intro w'
     go_simp
     with_reducible rfl
   rotate_left
   · simp only [Act.put, sa, sb, sc, i64_w, i32_w]
     rfl
   refine done_ (done_of HT_.out (by kernel_rfl)) ?_
   try go_wp2
   go_roundg k1
   case measure => have := HK1.out; omega
   case rel => exact ⟨(wrap64 (x5_1 + 1)), eR, H', ⟨by have := HK1.out; omega⟩, ⟨pH HB⟩⟩
/-! ### laws_eqRay: function 60 -/
def laws_eqRay.f (a0_0 : Int) (a0_1 : Int) (a0_2 : Int) (a0_3 : Int) (a0_4 : Int) (a0_5 : Int) (a1_0 : Int) (a1_1 : Int) (a1_2 : Int) (a1_3 : Int) (a1_4 : Int) (a1_5 : Int) : Option (Bool) := (laws_eqPoint.f a0_0 a0_1 a0_2 a1_0 a1_1 a1_2).bind fun t207 => (if t207 = true then ((laws_eqPoint.f a0_3 a0_4 a0_5 a1_3 a1_4 a1_5).bind fun t208 => (if t208 = true then (some true) else (some false))) else (some false))
theorem laws_eqRay.calls (a0_0 : Int) (a0_1 : Int) (a0_2 : Int) (a0_3 : Int) (a0_4 : Int) (a0_5 : Int) (a1_0 : Int) (a1_1 : Int) (a1_2 : Int) (a1_3 : Int) (a1_4 : Int) (a1_5 : Int) (r : Bool) (w : World) (h : laws_eqRay.f a0_0 a0_1 a0_2 a0_3 a0_4 a0_5 a1_0 a1_1 a1_2 a1_3 a1_4 a1_5 = some r) :
 Calls Tryd.prog 60 #[.agg #[.int .u32 a0_0, .int .u32 a0_1, .int .u32 a0_2, .int .u32 a0_3, .int .u32 a0_4, .int .u32 a0_5], .agg #[.int .u32 a1_0, .int .u32 a1_1, .int .u32 a1_2, .int .u32 a1_3, .int .u32 a1_4, .int .u32 a1_5]] w fun e w' => e = .returned (.bool r) ∧ Below w.heap.size w w' := by
 have hu72 := Tryd.underlying72; have hu67 := Tryd.underlying67; have HB := AM (Below.refl w.heap.size w)
 have H : ((laws_eqPoint.f a0_0 a0_1 a0_2 a1_0 a1_1 a1_2).bind fun t207 => (if t207 = true then ((laws_eqPoint.f a0_3 a0_4 a0_5 a1_3 a1_4 a1_5).bind fun t208 => (if t208 = true then (some true) else (some false))) else (some false))) = some r := h
 clear h
 replace H := Option.bind_eq_some_iff.mp H
 obtain ⟨t207, A30, H⟩ := H
 (try dsimp only at H)
 have A3 := AM A30; clear A30
 by_cases c4 : t207 = true
 rotate_left
 · replace c4 := Bool.eq_false_iff.mpr c4
   subst c4
   have H1 : (some false) = some r := by rw [if_neg (show ¬ (false = true) by decide)] at H; exact H
   clear H; have H := H1; clear H1
   obtain rfl := Option.some.inj H
   go_enter Tryd.func60, Tryd.ntmps60
   go_wp2_with (first | ((with_reducible refine gate_dst (N := 2) rfl ?_); refine box_event ?hg (N := 2) ?hd (cs := #[.int .u32 a0_0, .int .u32 a0_1, .int .u32 a0_2, .int .u32 a0_3, .int .u32 a0_4, .int .u32 a0_5]) (t := 72) ?hr ?_; (case hd => rfl); (case hg => rfl); (case hr => first | (go_simp; done) | (go_simp; rfl)); intro gb205 hg w25 hbox hb; have BK205 := AM (hbox); have GW205 := gH HB hg; have GE205 := gH HB hg; replace HB := AM (below_step (pH HB) hb); clear hb hbox hg) | ((with_reducible refine gate_dst (N := 3) rfl ?_); refine box_event ?hg (N := 3) ?hd (cs := #[.int .u32 a1_0, .int .u32 a1_1, .int .u32 a1_2, .int .u32 a1_3, .int .u32 a1_4, .int .u32 a1_5]) (t := 72) ?hr ?_; (case hd => rfl); (case hg => rfl); (case hr => first | (go_simp; done) | (go_simp; rfl)); intro gb206 hg w26 hbox hb; have BK206 := AM (hbox); have GW206 := gH HB hg; have GE206 := gH HB hg; replace HB := AM (below_step (pH HB) hb); have NB205_206 := nL BK205 hg; have NB206_205 := nG BK205 hg; replace BK205 := bB BK205 hb; clear hb hbox hg; have hnb27 := NB205_206.out; have hnc27 := NB206_205.out; have ⟨hcz28_0, hcz28_1, hcz28_2, hcz28_3, hcz28_4, hcz28_5, hfz28_0, hfz28_1, hfz28_2, hfz28_3, hfz28_4, hfz28_5⟩ := z6 BK205; have ⟨hcz29_0, hcz29_1, hcz29_2, hcz29_3, hcz29_4, hcz29_5, hfz29_0, hfz29_1, hfz29_2, hfz29_3, hfz29_4, hfz29_5⟩ := z6 BK206) | ((with_reducible refine gate_callee (f := 61) rfl ?_); refine goesL_ (some 9) rfl rfl Tryd.func61 (by kernel_rfl) rfl #[.agg #[.int .u32 a0_0, .int .u32 a0_1, .int .u32 a0_2], .agg #[.int .u32 a1_0, .int .u32 a1_1, .int .u32 a1_2]] rfl hM ?_; (with_reducible refine (laws_eqPoint.calls a0_0 a0_1 a0_2 a1_0 a1_1 a1_2 false _ A3.out).mono ?_); rintro e w30 ⟨rfl, hb⟩; refine ⟨_, rfl, ?_⟩; replace BK205 := bB BK205 hb; replace BK206 := bB BK206 hb; replace HB := AM (below_step (pH HB) hb); (try clear hb); (try clear hb2); (try clear hk); (try clear hi)))
   go_ret
   exact ⟨eW, pH HB⟩

 subst c4
 have H1 : ((laws_eqPoint.f a0_3 a0_4 a0_5 a1_3 a1_4 a1_5).bind fun t208 => (if t208 = true then (some true) else (some false))) = some r := by rw [if_pos rfl] at H; exact H
 clear H; have H := H1; clear H1
 replace H := Option.bind_eq_some_iff.mp H
 obtain ⟨t208, A50, H⟩ := H
 (try dsimp only at H)
 have A5 := AM A50; clear A50
 by_cases c6 : t208 = true
 · subst c6
   have H1 : (some true) = some r := by rw [if_pos rfl] at H; exact H
   clear H; have H := H1; clear H1
   obtain rfl := Option.some.inj H
   go_enter Tryd.func60, Tryd.ntmps60
   go_wp2_with (first | ((with_reducible refine gate_dst (N := 2) rfl ?_); refine box_event ?hg (N := 2) ?hd (cs := #[.int .u32 a0_0, .int .u32 a0_1, .int .u32 a0_2, .int .u32 a0_3, .int .u32 a0_4, .int .u32 a0_5]) (t := 72) ?hr ?_; (case hd => rfl); (case hg => rfl); (case hr => first | (go_simp; done) | (go_simp; rfl)); intro gb205 hg w7 hbox hb; have BK205 := AM (hbox); have GW205 := gH HB hg; have GE205 := gH HB hg; replace HB := AM (below_step (pH HB) hb); clear hb hbox hg) | ((with_reducible refine gate_dst (N := 3) rfl ?_); refine box_event ?hg (N := 3) ?hd (cs := #[.int .u32 a1_0, .int .u32 a1_1, .int .u32 a1_2, .int .u32 a1_3, .int .u32 a1_4, .int .u32 a1_5]) (t := 72) ?hr ?_; (case hd => rfl); (case hg => rfl); (case hr => first | (go_simp; done) | (go_simp; rfl)); intro gb206 hg w8 hbox hb; have BK206 := AM (hbox); have GW206 := gH HB hg; have GE206 := gH HB hg; replace HB := AM (below_step (pH HB) hb); have NB205_206 := nL BK205 hg; have NB206_205 := nG BK205 hg; replace BK205 := bB BK205 hb; clear hb hbox hg; have hnb9 := NB205_206.out; have hnc9 := NB206_205.out; have ⟨hcz10_0, hcz10_1, hcz10_2, hcz10_3, hcz10_4, hcz10_5, hfz10_0, hfz10_1, hfz10_2, hfz10_3, hfz10_4, hfz10_5⟩ := z6 BK205; have ⟨hcz11_0, hcz11_1, hcz11_2, hcz11_3, hcz11_4, hcz11_5, hfz11_0, hfz11_1, hfz11_2, hfz11_3, hfz11_4, hfz11_5⟩ := z6 BK206) | ((with_reducible refine gate_callee (f := 61) rfl ?_); refine goesL_ (some 9) rfl rfl Tryd.func61 (by kernel_rfl) rfl #[.agg #[.int .u32 a0_0, .int .u32 a0_1, .int .u32 a0_2], .agg #[.int .u32 a1_0, .int .u32 a1_1, .int .u32 a1_2]] rfl hM ?_; (with_reducible refine (laws_eqPoint.calls a0_0 a0_1 a0_2 a1_0 a1_1 a1_2 true _ A3.out).mono ?_); rintro e w12 ⟨rfl, hb⟩; refine ⟨_, rfl, ?_⟩; replace BK205 := bB BK205 hb; replace BK206 := bB BK206 hb; replace HB := AM (below_step (pH HB) hb); (try clear hb); (try clear hb2); (try clear hk); (try clear hi); have ⟨hcz13_0, hcz13_1, hcz13_2, hcz13_3, hcz13_4, hcz13_5, hfz13_0, hfz13_1, hfz13_2, hfz13_3, hfz13_4, hfz13_5⟩ := z6 BK205; have ⟨hcz14_0, hcz14_1, hcz14_2, hcz14_3, hcz14_4, hcz14_5, hfz14_0, hfz14_1, hfz14_2, hfz14_3, hfz14_4, hfz14_5⟩ := z6 BK206) | ((with_reducible refine gate_callee (f := 61) rfl ?_); refine goesL_ (some 15) rfl rfl Tryd.func61 (by kernel_rfl) rfl #[.agg #[.int .u32 a0_3, .int .u32 a0_4, .int .u32 a0_5], .agg #[.int .u32 a1_3, .int .u32 a1_4, .int .u32 a1_5]] rfl hM ?_; (with_reducible refine (laws_eqPoint.calls a0_3 a0_4 a0_5 a1_3 a1_4 a1_5 true _ A5.out).mono ?_); rintro e w15 ⟨rfl, hb⟩; refine ⟨_, rfl, ?_⟩; replace BK205 := bB BK205 hb; replace BK206 := bB BK206 hb; replace HB := AM (below_step (pH HB) hb); (try clear hb); (try clear hb2); (try clear hk); (try clear hi)))
   go_ret
   exact ⟨eW, pH HB⟩
 replace c6 := Bool.eq_false_iff.mpr c6
 subst c6
 have H1 : (some false) = some r := by rw [if_neg (show ¬ (false = true) by decide)] at H; exact H
 clear H; have H := H1; clear H1
 obtain rfl := Option.some.inj H
 go_enter Tryd.func60, Tryd.ntmps60
 go_wp2_with (first | ((with_reducible refine gate_dst (N := 2) rfl ?_); refine box_event ?hg (N := 2) ?hd (cs := #[.int .u32 a0_0, .int .u32 a0_1, .int .u32 a0_2, .int .u32 a0_3, .int .u32 a0_4, .int .u32 a0_5]) (t := 72) ?hr ?_; (case hd => rfl); (case hg => rfl); (case hr => first | (go_simp; done) | (go_simp; rfl)); intro gb205 hg w16 hbox hb; have BK205 := AM (hbox); have GW205 := gH HB hg; have GE205 := gH HB hg; replace HB := AM (below_step (pH HB) hb); clear hb hbox hg) | ((with_reducible refine gate_dst (N := 3) rfl ?_); refine box_event ?hg (N := 3) ?hd (cs := #[.int .u32 a1_0, .int .u32 a1_1, .int .u32 a1_2, .int .u32 a1_3, .int .u32 a1_4, .int .u32 a1_5]) (t := 72) ?hr ?_; (case hd => rfl); (case hg => rfl); (case hr => first | (go_simp; done) | (go_simp; rfl)); intro gb206 hg w17 hbox hb; have BK206 := AM (hbox); have GW206 := gH HB hg; have GE206 := gH HB hg; replace HB := AM (below_step (pH HB) hb); have NB205_206 := nL BK205 hg; have NB206_205 := nG BK205 hg; replace BK205 := bB BK205 hb; clear hb hbox hg; have hnb18 := NB205_206.out; have hnc18 := NB206_205.out; have ⟨hcz19_0, hcz19_1, hcz19_2, hcz19_3, hcz19_4, hcz19_5, hfz19_0, hfz19_1, hfz19_2, hfz19_3, hfz19_4, hfz19_5⟩ := z6 BK205; have ⟨hcz20_0, hcz20_1, hcz20_2, hcz20_3, hcz20_4, hcz20_5, hfz20_0, hfz20_1, hfz20_2, hfz20_3, hfz20_4, hfz20_5⟩ := z6 BK206) | ((with_reducible refine gate_callee (f := 61) rfl ?_); refine goesL_ (some 9) rfl rfl Tryd.func61 (by kernel_rfl) rfl #[.agg #[.int .u32 a0_0, .int .u32 a0_1, .int .u32 a0_2], .agg #[.int .u32 a1_0, .int .u32 a1_1, .int .u32 a1_2]] rfl hM ?_; (with_reducible refine (laws_eqPoint.calls a0_0 a0_1 a0_2 a1_0 a1_1 a1_2 true _ A3.out).mono ?_); rintro e w21 ⟨rfl, hb⟩; refine ⟨_, rfl, ?_⟩; replace BK205 := bB BK205 hb; replace BK206 := bB BK206 hb; replace HB := AM (below_step (pH HB) hb); (try clear hb); (try clear hb2); (try clear hk); (try clear hi); have ⟨hcz22_0, hcz22_1, hcz22_2, hcz22_3, hcz22_4, hcz22_5, hfz22_0, hfz22_1, hfz22_2, hfz22_3, hfz22_4, hfz22_5⟩ := z6 BK205; have ⟨hcz23_0, hcz23_1, hcz23_2, hcz23_3, hcz23_4, hcz23_5, hfz23_0, hfz23_1, hfz23_2, hfz23_3, hfz23_4, hfz23_5⟩ := z6 BK206) | ((with_reducible refine gate_callee (f := 61) rfl ?_); refine goesL_ (some 15) rfl rfl Tryd.func61 (by kernel_rfl) rfl #[.agg #[.int .u32 a0_3, .int .u32 a0_4, .int .u32 a0_5], .agg #[.int .u32 a1_3, .int .u32 a1_4, .int .u32 a1_5]] rfl hM ?_; (with_reducible refine (laws_eqPoint.calls a0_3 a0_4 a0_5 a1_3 a1_4 a1_5 false _ A5.out).mono ?_); rintro e w24 ⟨rfl, hb⟩; refine ⟨_, rfl, ?_⟩; replace BK205 := bB BK205 hb; replace BK206 := bB BK206 hb; replace HB := AM (below_step (pH HB) hb); (try clear hb); (try clear hb2); (try clear hk); (try clear hi)))
 go_ret
 exact ⟨eW, pH HB⟩
/-! ### laws_eqRayS: function 37 -/
def laws_eqRayS.l0 : Nat → List (S72) → List (S72) → Int → Option (Bool)
 | 0, _, _, _ => none
 | k + 1, x0, x1, x5 => if x5 < (x0.length : Int) then (if 0 ≤ x5 then (if x5 < (x1.length : Int) then ((laws_eqRay.f ((rd_T72 x0 x5).f0.f0) ((rd_T72 x0 x5).f0.f1) ((rd_T72 x0 x5).f0.f2) ((rd_T72 x0 x5).f1.f0) ((rd_T72 x0 x5).f1.f1) ((rd_T72 x0 x5).f1.f2) ((rd_T72 x1 x5).f0.f0) ((rd_T72 x1 x5).f0.f1) ((rd_T72 x1 x5).f0.f2) ((rd_T72 x1 x5).f1.f0) ((rd_T72 x1 x5).f1.f1) ((rd_T72 x1 x5).f1.f2)).bind fun t211 => (if t211 = true then (laws_eqRayS.l0 k x0 x1 (wrap64 (x5 + 1))) else (some false))) else (none)) else (none)) else (some true)
def laws_eqRayS.f (k : Nat) (l0 : List (S72)) (l1 : List (S72)) : Option (Bool) := if (l0.length : Int) = (l1.length : Int) then (laws_eqRayS.l0 k l0 l1 0) else (some false)
theorem laws_eqRayS.mono_l : ∀ k, (∀ y0 y1 y2, LeO (laws_eqRayS.l0 k y0 y1 y2) (laws_eqRayS.l0 (k + 1) y0 y1 y2))
 | 0 => fun _ _ _ r h => by simp [laws_eqRayS.l0] at h
 | k + 1 => by
  have ih0 := laws_eqRayS.mono_l k
  · intro y0 y1 y2
    unfold laws_eqRayS.l0
    repeat' with_reducible first | exact ih0 _ _ _ | exact LeO.refl _ | exact LeO.none _ | refine LeO.ite ?_ ?_ | refine LeO.bind ?_ (fun _ => ?_)
theorem laws_eqRayS.mono : ∀ a0 a1 k, LeO (laws_eqRayS.f k a0 a1) (laws_eqRayS.f (k + 1) a0 a1) := by
 intro a0 a1 k
 have ih0 := laws_eqRayS.mono_l k
 unfold laws_eqRayS.f
 repeat' with_reducible first | exact ih0 _ _ _ | exact LeO.refl _ | exact LeO.none _ | refine LeO.ite ?_ ?_ | refine LeO.bind ?_ (fun _ => ?_)
def laws_eqRayS.T6 : Bool × List (List Nat × List Nat) := (true, [([], []), ([], []), ([0, 1], [0, 1]), ([2], [2]), ([], []), ([], []), ([4, 5], [4, 5]), ([6], [6]), ([3, 7], [3, 7]), ([8], [8])])
def laws_eqRayS.B6 : List Nat := [0, 0, 3, 7, 0, 0, 48, 112, 255, 511]
theorem laws_eqRayS.tab6 : rtab .any (opsOf Tryd.f37 6) = laws_eqRayS.T6 := by kernel_rfl
theorem laws_eqRayS.bits6 : waitsOk laws_eqRayS.T6.2 laws_eqRayS.B6 = true := by kernel_rfl
theorem laws_eqRayS.calls (k : Nat) (A0 : Option Addr) (c0 : Nat) (l0 : List (S72)) (A1 : Option Addr) (c1 : Nat) (l1 : List (S72)) (r : Bool) (w : World) (hr0 : Kd.C k72 w A0 l0.length l0) (hc0 : l0.length ≤ c0) (hr1 : Kd.C k72 w A1 l1.length l1) (hc1 : l1.length ≤ c1) (h : laws_eqRayS.f k l0 l1 = some r) :
 Calls Tryd.prog 37 #[.slice A0 l0.length c0, .slice A1 l1.length c1] w fun e w' => e = .returned (.bool r) ∧ Below w.heap.size w w' := by
 have hu72 := Tryd.underlying72; have HR0 := AM hr0; have HC0 := AM hc0; clear hr0 hc0; have HR1 := AM hr1; have HC1 := AM hc1; clear hr1 hc1; have HB := AM (Below.refl w.heap.size w)
 have H : (if (l0.length : Int) = (l1.length : Int) then (laws_eqRayS.l0 k l0 l1 0) else (some false)) = some r := h
 clear h
 by_cases c3 : (l0.length : Int) = (l1.length : Int)
 rotate_left
 · rw [if_neg c3] at H
   have c3b0 : ((l0.length : Int) == (l1.length : Int)) = false := beq_eq_false_iff_ne.mpr c3
   have c3b1 : ((l0.length : Int) != (l1.length : Int)) = true := bne_iff_ne.mpr c3
   have c3b2 : (l0.length == l1.length) = false := by first | simpa using c3 | (simp at c3 ⊢; omega)
   obtain rfl := Option.some.inj H
   go_enter Tryd.func37, Tryd.ntmps37
   go_wp2
   go_ret
   exact ⟨eW, pH HB⟩

 rw [if_pos c3] at H
 have c3b0 : ((l0.length : Int) == (l1.length : Int)) = true := beq_iff_eq.mpr c3
 have c3b1 : ((l0.length : Int) != (l1.length : Int)) = false := bne_eq_false_iff_eq.mpr c3
 have c3b2 : (l0.length == l1.length) = true := by first | simpa using c3 | (simp at c3 ⊢; omega)
 clear c3
 have H' := AM H
 clear H
 go_enter Tryd.func37, Tryd.ntmps37
 go_wp2
 go_loopg [5] k (fun kq v5 w' => ∃ (x5_1 : Int), v5 = .int .i64 x5_1 ∧ Aside0 (laws_eqRayS.l0 kq l0 l1 x5_1 = some r) ∧ Aside0 (kq ≤ k) ∧ Aside0 (Below w.heap.size w w'))
 case atStart => exact ⟨(0), eR, H', ⟨Nat.le_refl _⟩, ⟨pH HB⟩⟩
 case round =>
  clear H'
  try clear c1
  try clear p2
  try clear c3
  try clear c3b0
  try clear c3b1
  try clear c3b2
  obtain ⟨x5_1, rfl, HA, HK1, HB⟩ := hrel
  cases gk with
  | zero => exact absurd HA.out (by simp [laws_eqRayS.l0])
  | succ k1 =>
   have H := HA.out; clear HA
   simp only [laws_eqRayS.l0] at H
   by_cases c4 : x5_1 < (l0.length : Int)
   rotate_left
   · rw [if_neg c4] at H
     have c4b0 : decide (x5_1 < (l0.length : Int)) = false := decide_eq_false c4
     clear c4
     obtain rfl := Option.some.inj H
     go_wp2
     go_ret
     exact ⟨eW, pH HB⟩
   rw [if_pos c4] at H
   have c4b0 : decide (x5_1 < (l0.length : Int)) = true := decide_eq_true c4
   clear c4
   by_cases c5 : 0 ≤ x5_1
   rotate_left
   · rw [if_neg c5] at H
     exact absurd H (by simp)
   rw [if_pos c5] at H
   have c5b0 : decide (0 ≤ x5_1) = true := decide_eq_true c5
   clear c5
   by_cases c6 : x5_1 < (l1.length : Int)
   rotate_left
   · rw [if_neg c6] at H
     exact absurd H (by simp)
   rw [if_pos c6] at H
   have c6b0 : decide (x5_1 < (l1.length : Int)) = true := decide_eq_true c6
   clear c6
   replace H := Option.bind_eq_some_iff.mp H
   obtain ⟨t211, A70, H⟩ := H
   (try dsimp only at H)
   have A7 := AM A70; clear A70
   by_cases c8 : t211 = true
   rotate_left
   · replace c8 := Bool.eq_false_iff.mpr c8
     subst c8
     have H1 : (some false) = some r := by rw [if_neg (show ¬ (false = true) by decide)] at H; exact H
     clear H; have H := H1; clear H1
     obtain rfl := Option.some.inj H
     try go_wp2
     replace HB := AM (below_drew1 HB.out)
     have p209 : 0 ≤ (x5_1 : Int) := dT
     have q209 : x5_1 < (l0.length : Int) := dT
     obtain ⟨ad209, e209, hx209_0, hx209_1, hx209_2, hx209_3, hx209_4, hx209_5⟩ := at_T72 HR0.out x5_1 p209 q209
     have hw209_5 := hx209_5; have hw209_4 := hx209_4; have hw209_3 := hx209_3; have hw209_2 := hx209_2; have hw209_1 := hx209_1; have hw209_0 := hx209_0
     cases e209
     replace hx209_0 := (HB.out.cell (World.block_lt_of_cell? w _ hx209_0)).trans hx209_0; replace hx209_1 := (HB.out.cell (World.block_lt_of_cell? w _ hx209_1)).trans hx209_1; replace hx209_2 := (HB.out.cell (World.block_lt_of_cell? w _ hx209_2)).trans hx209_2; replace hx209_3 := (HB.out.cell (World.block_lt_of_cell? w _ hx209_3)).trans hx209_3; replace hx209_4 := (HB.out.cell (World.block_lt_of_cell? w _ hx209_4)).trans hx209_4; replace hx209_5 := (HB.out.cell (World.block_lt_of_cell? w _ hx209_5)).trans hx209_5; replace p209 := eq_true p209; replace q209 := eq_true q209
     have p210 : 0 ≤ (x5_1 : Int) := dT
     have q210 : x5_1 < (l1.length : Int) := dT
     obtain ⟨ad210, e210, hx210_0, hx210_1, hx210_2, hx210_3, hx210_4, hx210_5⟩ := at_T72 HR1.out x5_1 p210 q210
     have hw210_5 := hx210_5; have hw210_4 := hx210_4; have hw210_3 := hx210_3; have hw210_2 := hx210_2; have hw210_1 := hx210_1; have hw210_0 := hx210_0
     cases e210
     replace hx210_0 := (HB.out.cell (World.block_lt_of_cell? w _ hx210_0)).trans hx210_0; replace hx210_1 := (HB.out.cell (World.block_lt_of_cell? w _ hx210_1)).trans hx210_1; replace hx210_2 := (HB.out.cell (World.block_lt_of_cell? w _ hx210_2)).trans hx210_2; replace hx210_3 := (HB.out.cell (World.block_lt_of_cell? w _ hx210_3)).trans hx210_3; replace hx210_4 := (HB.out.cell (World.block_lt_of_cell? w _ hx210_4)).trans hx210_4; replace hx210_5 := (HB.out.cell (World.block_lt_of_cell? w _ hx210_5)).trans hx210_5; replace p210 := eq_true p210; replace q210 := eq_true q210
     refine start_ (n := 10) (S := fun w' => w'.cell? (ad209.add ((x5_1).toNat * 6)) = some (.int .u32 ((rd_T72 l0 x5_1).f0.f0)) ∧ w'.cell? ⟨(ad209.add ((x5_1).toNat * 6)).block, (ad209.add ((x5_1).toNat * 6)).off + 1, none⟩ = some (.int .u32 ((rd_T72 l0 x5_1).f0.f1)) ∧ w'.cell? ⟨(ad209.add ((x5_1).toNat * 6)).block, (ad209.add ((x5_1).toNat * 6)).off + 2, none⟩ = some (.int .u32 ((rd_T72 l0 x5_1).f0.f2)) ∧ w'.cell? ⟨(ad209.add ((x5_1).toNat * 6)).block, (ad209.add ((x5_1).toNat * 6)).off + 3, none⟩ = some (.int .u32 ((rd_T72 l0 x5_1).f1.f0)) ∧ w'.cell? ⟨(ad209.add ((x5_1).toNat * 6)).block, (ad209.add ((x5_1).toNat * 6)).off + 4, none⟩ = some (.int .u32 ((rd_T72 l0 x5_1).f1.f1)) ∧ w'.cell? ⟨(ad209.add ((x5_1).toNat * 6)).block, (ad209.add ((x5_1).toNat * 6)).off + 5, none⟩ = some (.int .u32 ((rd_T72 l0 x5_1).f1.f2)) ∧ w'.cell? (ad210.add ((x5_1).toNat * 6)) = some (.int .u32 ((rd_T72 l1 x5_1).f0.f0)) ∧ w'.cell? ⟨(ad210.add ((x5_1).toNat * 6)).block, (ad210.add ((x5_1).toNat * 6)).off + 1, none⟩ = some (.int .u32 ((rd_T72 l1 x5_1).f0.f1)) ∧ w'.cell? ⟨(ad210.add ((x5_1).toNat * 6)).block, (ad210.add ((x5_1).toNat * 6)).off + 2, none⟩ = some (.int .u32 ((rd_T72 l1 x5_1).f0.f2)) ∧ w'.cell? ⟨(ad210.add ((x5_1).toNat * 6)).block, (ad210.add ((x5_1).toNat * 6)).off + 3, none⟩ = some (.int .u32 ((rd_T72 l1 x5_1).f1.f0)) ∧ w'.cell? ⟨(ad210.add ((x5_1).toNat * 6)).block, (ad210.add ((x5_1).toNat * 6)).off + 4, none⟩ = some (.int .u32 ((rd_T72 l1 x5_1).f1.f1)) ∧ w'.cell? ⟨(ad210.add ((x5_1).toNat * 6)).block, (ad210.add ((x5_1).toNat * 6)).off + 5, none⟩ = some (.int .u32 ((rd_T72 l1 x5_1).f1.f2))) (ds := []) #[false, false, false, false, false, false, false, false, false, false] (by kernel_rfl) rfl rfl ⟨((HB.out.cell (World.block_lt_of_cell? w _ hw209_0)).trans hw209_0), ((HB.out.cell (World.block_lt_of_cell? w _ hw209_1)).trans hw209_1), ((HB.out.cell (World.block_lt_of_cell? w _ hw209_2)).trans hw209_2), ((HB.out.cell (World.block_lt_of_cell? w _ hw209_3)).trans hw209_3), ((HB.out.cell (World.block_lt_of_cell? w _ hw209_4)).trans hw209_4), ((HB.out.cell (World.block_lt_of_cell? w _ hw209_5)).trans hw209_5), ((HB.out.cell (World.block_lt_of_cell? w _ hw210_0)).trans hw210_0), ((HB.out.cell (World.block_lt_of_cell? w _ hw210_1)).trans hw210_1), ((HB.out.cell (World.block_lt_of_cell? w _ hw210_2)).trans hw210_2), ((HB.out.cell (World.block_lt_of_cell? w _ hw210_3)).trans hw210_3), ((HB.out.cell (World.block_lt_of_cell? w _ hw210_4)).trans hw210_4), ((HB.out.cell (World.block_lt_of_cell? w _ hw210_5)).trans hw210_5)⟩ (fun hHeld => ?_); refine with_tabW laws_eqRayS.tab6 laws_eqRayS.bits6 (fun HT_ HW_ => ?_)
     generalize wr.drew = w11 at HB hx209_0 hx209_1 hx209_2 hx209_3 hx209_4 hx209_5 hx210_0 hx210_1 hx210_2 hx210_3 hx210_4 hx210_5 hHeld ⊢
     refine pure_ (i := 0) (N := some 17) (v := ?_) (a' := ?_) #[true, false, false, false, false, false, false, false, false, false] rfl rfl (any_of HT_.out (by kernel_rfl)) (fun _ _ _ h => h) (Or.inl ⟨by rfl, ?_⟩) ?_ ?_
     rotate_left
     · intro w'
       go_simp
       with_reducible rfl
     rotate_left
     · simp only [Act.put, sa, sb, sc, i64_w, i32_w]
       rfl
     refine pure_ (i := 1) (N := some 18) (v := ?_) (a' := ?_) #[true, true, false, false, false, false, false, false, false, false] rfl rfl (any_of HT_.out (by kernel_rfl)) (fun _ _ _ h => h) (Or.inl ⟨by rfl, ?_⟩) ?_ ?_
     rotate_left
     · intro w'
       go_simp
       with_reducible rfl
     rotate_left
     · simp only [Act.put, sa, sb, sc, i64_w, i32_w]
       rfl
     refine pure_ (i := 2) (N := some 19) (v := ?_) (a' := ?_) #[true, true, true, false, false, false, false, false, false, false] rfl rfl (any_of HT_.out (by kernel_rfl)) (fun _ _ _ h => h) (Or.inl ⟨by rfl, ?_⟩) ?_ ?_
     rotate_left
     · intro w'
       go_simp
       with_reducible rfl
     rotate_left
     · simp only [Act.put, sa, sb, sc, i64_w, i32_w]
       rfl
     refine pure_ (i := 4) (N := some 21) (v := ?_) (a' := ?_) #[true, true, true, false, true, false, false, false, false, false] rfl rfl (any_of HT_.out (by kernel_rfl)) (fun _ _ _ h => h) (Or.inl ⟨by rfl, ?_⟩) ?_ ?_
     rotate_left
     · intro w'
       go_simp
       with_reducible rfl
     rotate_left
     · simp only [Act.put, sa, sb, sc, i64_w, i32_w]
       rfl
     refine pure_ (i := 5) (N := some 22) (v := ?_) (a' := ?_) #[true, true, true, false, true, true, false, false, false, false] rfl rfl (any_of HT_.out (by kernel_rfl)) (fun _ _ _ h => h) (Or.inl ⟨by rfl, ?_⟩) ?_ ?_
     rotate_left
     · intro w'
       go_simp
       with_reducible rfl
     rotate_left
     · simp only [Act.put, sa, sb, sc, i64_w, i32_w]
       rfl
     refine pure_ (i := 6) (N := some 23) (v := ?_) (a' := ?_) #[true, true, true, false, true, true, true, false, false, false] rfl rfl (any_of HT_.out (by kernel_rfl)) (fun _ _ _ h => h) (Or.inl ⟨by rfl, ?_⟩) ?_ ?_
     rotate_left
     · intro w'
       go_simp
       with_reducible rfl
     rotate_left
     · simp only [Act.put, sa, sb, sc, i64_w, i32_w]
       rfl
     refine take_ (i := 3) (N := some 20) (v := ?_) (a' := ?_) #[true, true, true, true, true, true, true, false, false, false] rfl rfl (take_ofW HT_.out HW_.out (by kernel_rfl)) (fun _ _ _ h => h) (Or.inl ⟨by rfl, ?_⟩) hHeld ?_ ?_
     rotate_left
     · rintro w' ⟨s0, s1, s2, s3, s4, s5, s6, s7, s8, s9, s10, s11⟩
       go_simp
       with_reducible rfl
     rotate_left
     · simp only [Act.put, sa, sb, sc, i64_w, i32_w]
       rfl
     refine take_ (i := 7) (N := some 24) (v := ?_) (a' := ?_) #[true, true, true, true, true, true, true, true, false, false] rfl rfl (take_ofW HT_.out HW_.out (by kernel_rfl)) (fun _ _ _ h => h) (Or.inl ⟨by rfl, ?_⟩) hHeld ?_ ?_
     rotate_left
     · rintro w' ⟨s0, s1, s2, s3, s4, s5, s6, s7, s8, s9, s10, s11⟩
       go_simp
       with_reducible rfl
     rotate_left
     · simp only [Act.put, sa, sb, sc, i64_w, i32_w]
       rfl
     refine one_ (i := 8) (N := some 25) #[true, true, true, true, true, true, true, true, true, false] rfl rfl (one_of HT_.out (by kernel_rfl)) (by decide) (fun K hK => ?_)
     refine goes_ Tryd.func60 (by kernel_rfl) rfl #[.agg #[.int .u32 ((rd_T72 l0 x5_1).f0.f0), .int .u32 ((rd_T72 l0 x5_1).f0.f1), .int .u32 ((rd_T72 l0 x5_1).f0.f2), .int .u32 ((rd_T72 l0 x5_1).f1.f0), .int .u32 ((rd_T72 l0 x5_1).f1.f1), .int .u32 ((rd_T72 l0 x5_1).f1.f2)], .agg #[.int .u32 ((rd_T72 l1 x5_1).f0.f0), .int .u32 ((rd_T72 l1 x5_1).f0.f1), .int .u32 ((rd_T72 l1 x5_1).f0.f2), .int .u32 ((rd_T72 l1 x5_1).f1.f0), .int .u32 ((rd_T72 l1 x5_1).f1.f1), .int .u32 ((rd_T72 l1 x5_1).f1.f2)]] (by rfl) rfl rfl hM ?_
     with_reducible refine (laws_eqRay.calls ((rd_T72 l0 x5_1).f0.f0) ((rd_T72 l0 x5_1).f0.f1) ((rd_T72 l0 x5_1).f0.f2) ((rd_T72 l0 x5_1).f1.f0) ((rd_T72 l0 x5_1).f1.f1) ((rd_T72 l0 x5_1).f1.f2) ((rd_T72 l1 x5_1).f0.f0) ((rd_T72 l1 x5_1).f0.f1) ((rd_T72 l1 x5_1).f0.f2) ((rd_T72 l1 x5_1).f1.f0) ((rd_T72 l1 x5_1).f1.f1) ((rd_T72 l1 x5_1).f1.f2) false _ A7.out).mono ?_
     rintro e w12 ⟨rfl, hb⟩
     refine ⟨_, rfl, ?_⟩
     replace HB := AM (below_step (pH HB) hb)
     (try clear hb)
     (try clear hb2)
     (try clear hk)
     (try clear hi)
     refine hK.out _ _ ⟨((HB.out.cell (World.block_lt_of_cell? w _ hw209_0)).trans hw209_0), ((HB.out.cell (World.block_lt_of_cell? w _ hw209_1)).trans hw209_1), ((HB.out.cell (World.block_lt_of_cell? w _ hw209_2)).trans hw209_2), ((HB.out.cell (World.block_lt_of_cell? w _ hw209_3)).trans hw209_3), ((HB.out.cell (World.block_lt_of_cell? w _ hw209_4)).trans hw209_4), ((HB.out.cell (World.block_lt_of_cell? w _ hw209_5)).trans hw209_5), ((HB.out.cell (World.block_lt_of_cell? w _ hw210_0)).trans hw210_0), ((HB.out.cell (World.block_lt_of_cell? w _ hw210_1)).trans hw210_1), ((HB.out.cell (World.block_lt_of_cell? w _ hw210_2)).trans hw210_2), ((HB.out.cell (World.block_lt_of_cell? w _ hw210_3)).trans hw210_3), ((HB.out.cell (World.block_lt_of_cell? w _ hw210_4)).trans hw210_4), ((HB.out.cell (World.block_lt_of_cell? w _ hw210_5)).trans hw210_5)⟩ (fun hHeld => ?_)
     clear hK K
     refine norm_ (a' := ?_) ?_ ?_
     rotate_left
     · show Act.put _ (some 25) _ = _
       simp only [Act.put, sa, sb, sc, i64_w, i32_w]
       rfl
     refine pure_ (i := 9) (N := some 26) (v := ?_) (a' := ?_) #[true, true, true, true, true, true, true, true, true, true] rfl rfl (any_of HT_.out (by kernel_rfl)) (fun _ _ _ h => h) (Or.inl ⟨by rfl, ?_⟩) ?_ ?_
     rotate_left
     · intro w'
       go_simp
       with_reducible rfl
     rotate_left
     · simp only [Act.put, sa, sb, sc, i64_w, i32_w]
       rfl
     refine done_ (done_of HT_.out (by kernel_rfl)) ?_
     try go_wp2
     go_ret
     exact ⟨eW, pH HB⟩
   subst c8
   have H1 : (laws_eqRayS.l0 k1 l0 l1 (wrap64 (x5_1 + 1))) = some r := by rw [if_pos rfl] at H; exact H
   clear H; have H := H1; clear H1
   have H' := AM H
   clear H
   try go_wp2
   replace HB := AM (below_drew1 HB.out)
   have p209 : 0 ≤ (x5_1 : Int) := dT
   have q209 : x5_1 < (l0.length : Int) := dT
   obtain ⟨ad209, e209, hx209_0, hx209_1, hx209_2, hx209_3, hx209_4, hx209_5⟩ := at_T72 HR0.out x5_1 p209 q209
   have hw209_5 := hx209_5; have hw209_4 := hx209_4; have hw209_3 := hx209_3; have hw209_2 := hx209_2; have hw209_1 := hx209_1; have hw209_0 := hx209_0
   cases e209
   replace hx209_0 := (HB.out.cell (World.block_lt_of_cell? w _ hx209_0)).trans hx209_0; replace hx209_1 := (HB.out.cell (World.block_lt_of_cell? w _ hx209_1)).trans hx209_1; replace hx209_2 := (HB.out.cell (World.block_lt_of_cell? w _ hx209_2)).trans hx209_2; replace hx209_3 := (HB.out.cell (World.block_lt_of_cell? w _ hx209_3)).trans hx209_3; replace hx209_4 := (HB.out.cell (World.block_lt_of_cell? w _ hx209_4)).trans hx209_4; replace hx209_5 := (HB.out.cell (World.block_lt_of_cell? w _ hx209_5)).trans hx209_5; replace p209 := eq_true p209; replace q209 := eq_true q209
   have p210 : 0 ≤ (x5_1 : Int) := dT
   have q210 : x5_1 < (l1.length : Int) := dT
   obtain ⟨ad210, e210, hx210_0, hx210_1, hx210_2, hx210_3, hx210_4, hx210_5⟩ := at_T72 HR1.out x5_1 p210 q210
   have hw210_5 := hx210_5; have hw210_4 := hx210_4; have hw210_3 := hx210_3; have hw210_2 := hx210_2; have hw210_1 := hx210_1; have hw210_0 := hx210_0
   cases e210
   replace hx210_0 := (HB.out.cell (World.block_lt_of_cell? w _ hx210_0)).trans hx210_0; replace hx210_1 := (HB.out.cell (World.block_lt_of_cell? w _ hx210_1)).trans hx210_1; replace hx210_2 := (HB.out.cell (World.block_lt_of_cell? w _ hx210_2)).trans hx210_2; replace hx210_3 := (HB.out.cell (World.block_lt_of_cell? w _ hx210_3)).trans hx210_3; replace hx210_4 := (HB.out.cell (World.block_lt_of_cell? w _ hx210_4)).trans hx210_4; replace hx210_5 := (HB.out.cell (World.block_lt_of_cell? w _ hx210_5)).trans hx210_5; replace p210 := eq_true p210; replace q210 := eq_true q210
   refine start_ (n := 10) (S := fun w' => w'.cell? (ad209.add ((x5_1).toNat * 6)) = some (.int .u32 ((rd_T72 l0 x5_1).f0.f0)) ∧ w'.cell? ⟨(ad209.add ((x5_1).toNat * 6)).block, (ad209.add ((x5_1).toNat * 6)).off + 1, none⟩ = some (.int .u32 ((rd_T72 l0 x5_1).f0.f1)) ∧ w'.cell? ⟨(ad209.add ((x5_1).toNat * 6)).block, (ad209.add ((x5_1).toNat * 6)).off + 2, none⟩ = some (.int .u32 ((rd_T72 l0 x5_1).f0.f2)) ∧ w'.cell? ⟨(ad209.add ((x5_1).toNat * 6)).block, (ad209.add ((x5_1).toNat * 6)).off + 3, none⟩ = some (.int .u32 ((rd_T72 l0 x5_1).f1.f0)) ∧ w'.cell? ⟨(ad209.add ((x5_1).toNat * 6)).block, (ad209.add ((x5_1).toNat * 6)).off + 4, none⟩ = some (.int .u32 ((rd_T72 l0 x5_1).f1.f1)) ∧ w'.cell? ⟨(ad209.add ((x5_1).toNat * 6)).block, (ad209.add ((x5_1).toNat * 6)).off + 5, none⟩ = some (.int .u32 ((rd_T72 l0 x5_1).f1.f2)) ∧ w'.cell? (ad210.add ((x5_1).toNat * 6)) = some (.int .u32 ((rd_T72 l1 x5_1).f0.f0)) ∧ w'.cell? ⟨(ad210.add ((x5_1).toNat * 6)).block, (ad210.add ((x5_1).toNat * 6)).off + 1, none⟩ = some (.int .u32 ((rd_T72 l1 x5_1).f0.f1)) ∧ w'.cell? ⟨(ad210.add ((x5_1).toNat * 6)).block, (ad210.add ((x5_1).toNat * 6)).off + 2, none⟩ = some (.int .u32 ((rd_T72 l1 x5_1).f0.f2)) ∧ w'.cell? ⟨(ad210.add ((x5_1).toNat * 6)).block, (ad210.add ((x5_1).toNat * 6)).off + 3, none⟩ = some (.int .u32 ((rd_T72 l1 x5_1).f1.f0)) ∧ w'.cell? ⟨(ad210.add ((x5_1).toNat * 6)).block, (ad210.add ((x5_1).toNat * 6)).off + 4, none⟩ = some (.int .u32 ((rd_T72 l1 x5_1).f1.f1)) ∧ w'.cell? ⟨(ad210.add ((x5_1).toNat * 6)).block, (ad210.add ((x5_1).toNat * 6)).off + 5, none⟩ = some (.int .u32 ((rd_T72 l1 x5_1).f1.f2))) (ds := []) #[false, false, false, false, false, false, false, false, false, false] (by kernel_rfl) rfl rfl ⟨((HB.out.cell (World.block_lt_of_cell? w _ hw209_0)).trans hw209_0), ((HB.out.cell (World.block_lt_of_cell? w _ hw209_1)).trans hw209_1), ((HB.out.cell (World.block_lt_of_cell? w _ hw209_2)).trans hw209_2), ((HB.out.cell (World.block_lt_of_cell? w _ hw209_3)).trans hw209_3), ((HB.out.cell (World.block_lt_of_cell? w _ hw209_4)).trans hw209_4), ((HB.out.cell (World.block_lt_of_cell? w _ hw209_5)).trans hw209_5), ((HB.out.cell (World.block_lt_of_cell? w _ hw210_0)).trans hw210_0), ((HB.out.cell (World.block_lt_of_cell? w _ hw210_1)).trans hw210_1), ((HB.out.cell (World.block_lt_of_cell? w _ hw210_2)).trans hw210_2), ((HB.out.cell (World.block_lt_of_cell? w _ hw210_3)).trans hw210_3), ((HB.out.cell (World.block_lt_of_cell? w _ hw210_4)).trans hw210_4), ((HB.out.cell (World.block_lt_of_cell? w _ hw210_5)).trans hw210_5)⟩ (fun hHeld => ?_); refine with_tabW laws_eqRayS.tab6 laws_eqRayS.bits6 (fun HT_ HW_ => ?_)
   generalize wr.drew = w9 at HB hx209_0 hx209_1 hx209_2 hx209_3 hx209_4 hx209_5 hx210_0 hx210_1 hx210_2 hx210_3 hx210_4 hx210_5 hHeld ⊢
   refine pure_ (i := 0) (N := some 17) (v := ?_) (a' := ?_) #[true, false, false, false, false, false, false, false, false, false] rfl rfl (any_of HT_.out (by kernel_rfl)) (fun _ _ _ h => h) (Or.inl ⟨by rfl, ?_⟩) ?_ ?_
   rotate_left
   · intro w'
     go_simp
     with_reducible rfl
   rotate_left
   · simp only [Act.put, sa, sb, sc, i64_w, i32_w]
     rfl
   refine pure_ (i := 1) (N := some 18) (v := ?_) (a' := ?_) #[true, true, false, false, false, false, false, false, false, false] rfl rfl (any_of HT_.out (by kernel_rfl)) (fun _ _ _ h => h) (Or.inl ⟨by rfl, ?_⟩) ?_ ?_
   rotate_left
   · intro w'
     go_simp
     with_reducible rfl
   rotate_left
   · simp only [Act.put, sa, sb, sc, i64_w, i32_w]
     rfl
   refine pure_ (i := 2) (N := some 19) (v := ?_) (a' := ?_) #[true, true, true, false, false, false, false, false, false, false] rfl rfl (any_of HT_.out (by kernel_rfl)) (fun _ _ _ h => h) (Or.inl ⟨by rfl, ?_⟩) ?_ ?_
   rotate_left
   · intro w'
     go_simp
     with_reducible rfl
   rotate_left
   · simp only [Act.put, sa, sb, sc, i64_w, i32_w]
     rfl
   refine pure_ (i := 4) (N := some 21) (v := ?_) (a' := ?_) #[true, true, true, false, true, false, false, false, false, false] rfl rfl (any_of HT_.out (by kernel_rfl)) (fun _ _ _ h => h) (Or.inl ⟨by rfl, ?_⟩) ?_ ?_
   rotate_left
   · intro w'
     go_simp
     with_reducible rfl
   rotate_left
   · simp only [Act.put, sa, sb, sc, i64_w, i32_w]
     rfl
   refine pure_ (i := 5) (N := some 22) (v := ?_) (a' := ?_) #[true, true, true, false, true, true, false, false, false, false] rfl rfl (any_of HT_.out (by kernel_rfl)) (fun _ _ _ h => h) (Or.inl ⟨by rfl, ?_⟩) ?_ ?_
   rotate_left
   · intro w'
     go_simp
     with_reducible rfl
   rotate_left
   · simp only [Act.put, sa, sb, sc, i64_w, i32_w]
     rfl
   refine pure_ (i := 6) (N := some 23) (v := ?_) (a' := ?_) #[true, true, true, false, true, true, true, false, false, false] rfl rfl (any_of HT_.out (by kernel_rfl)) (fun _ _ _ h => h) (Or.inl ⟨by rfl, ?_⟩) ?_ ?_
   rotate_left
   · intro w'
     go_simp
     with_reducible rfl
   rotate_left
   · simp only [Act.put, sa, sb, sc, i64_w, i32_w]
     rfl
   refine take_ (i := 3) (N := some 20) (v := ?_) (a' := ?_) #[true, true, true, true, true, true, true, false, false, false] rfl rfl (take_ofW HT_.out HW_.out (by kernel_rfl)) (fun _ _ _ h => h) (Or.inl ⟨by rfl, ?_⟩) hHeld ?_ ?_
   rotate_left
   · rintro w' ⟨s0, s1, s2, s3, s4, s5, s6, s7, s8, s9, s10, s11⟩
     go_simp
     with_reducible rfl
   rotate_left
   · simp only [Act.put, sa, sb, sc, i64_w, i32_w]
     rfl
   refine take_ (i := 7) (N := some 24) (v := ?_) (a' := ?_) #[true, true, true, true, true, true, true, true, false, false] rfl rfl (take_ofW HT_.out HW_.out (by kernel_rfl)) (fun _ _ _ h => h) (Or.inl ⟨by rfl, ?_⟩) hHeld ?_ ?_
   rotate_left
   · rintro w' ⟨s0, s1, s2, s3, s4, s5, s6, s7, s8, s9, s10, s11⟩
     go_simp
     with_reducible rfl
   rotate_left
   · simp only [Act.put, sa, sb, sc, i64_w, i32_w]
     rfl
   refine one_ (i := 8) (N := some 25) #[true, true, true, true, true, true, true, true, true, false] rfl rfl (one_of HT_.out (by kernel_rfl)) (by decide) (fun K hK => ?_)
   refine goes_ Tryd.func60 (by kernel_rfl) rfl #[.agg #[.int .u32 ((rd_T72 l0 x5_1).f0.f0), .int .u32 ((rd_T72 l0 x5_1).f0.f1), .int .u32 ((rd_T72 l0 x5_1).f0.f2), .int .u32 ((rd_T72 l0 x5_1).f1.f0), .int .u32 ((rd_T72 l0 x5_1).f1.f1), .int .u32 ((rd_T72 l0 x5_1).f1.f2)], .agg #[.int .u32 ((rd_T72 l1 x5_1).f0.f0), .int .u32 ((rd_T72 l1 x5_1).f0.f1), .int .u32 ((rd_T72 l1 x5_1).f0.f2), .int .u32 ((rd_T72 l1 x5_1).f1.f0), .int .u32 ((rd_T72 l1 x5_1).f1.f1), .int .u32 ((rd_T72 l1 x5_1).f1.f2)]] (by rfl) rfl rfl hM ?_
   with_reducible refine (laws_eqRay.calls ((rd_T72 l0 x5_1).f0.f0) ((rd_T72 l0 x5_1).f0.f1) ((rd_T72 l0 x5_1).f0.f2) ((rd_T72 l0 x5_1).f1.f0) ((rd_T72 l0 x5_1).f1.f1) ((rd_T72 l0 x5_1).f1.f2) ((rd_T72 l1 x5_1).f0.f0) ((rd_T72 l1 x5_1).f0.f1) ((rd_T72 l1 x5_1).f0.f2) ((rd_T72 l1 x5_1).f1.f0) ((rd_T72 l1 x5_1).f1.f1) ((rd_T72 l1 x5_1).f1.f2) true _ A7.out).mono ?_
   rintro e w10 ⟨rfl, hb⟩
   refine ⟨_, rfl, ?_⟩
   replace HB := AM (below_step (pH HB) hb)
   (try clear hb)
   (try clear hb2)
   (try clear hk)
   (try clear hi)
   refine hK.out _ _ ⟨((HB.out.cell (World.block_lt_of_cell? w _ hw209_0)).trans hw209_0), ((HB.out.cell (World.block_lt_of_cell? w _ hw209_1)).trans hw209_1), ((HB.out.cell (World.block_lt_of_cell? w _ hw209_2)).trans hw209_2), ((HB.out.cell (World.block_lt_of_cell? w _ hw209_3)).trans hw209_3), ((HB.out.cell (World.block_lt_of_cell? w _ hw209_4)).trans hw209_4), ((HB.out.cell (World.block_lt_of_cell? w _ hw209_5)).trans hw209_5), ((HB.out.cell (World.block_lt_of_cell? w _ hw210_0)).trans hw210_0), ((HB.out.cell (World.block_lt_of_cell? w _ hw210_1)).trans hw210_1), ((HB.out.cell (World.block_lt_of_cell? w _ hw210_2)).trans hw210_2), ((HB.out.cell (World.block_lt_of_cell? w _ hw210_3)).trans hw210_3), ((HB.out.cell (World.block_lt_of_cell? w _ hw210_4)).trans hw210_4), ((HB.out.cell (World.block_lt_of_cell? w _ hw210_5)).trans hw210_5)⟩ (fun hHeld => ?_)
   clear hK K
   refine norm_ (a' := ?_) ?_ ?_
   rotate_left
   · show Act.put _ (some 25) _ = _
     simp only [Act.put, sa, sb, sc, i64_w, i32_w]
     rfl
   refine pure_ (i := 9) (N := some 26) (v := ?_) (a' := ?_) #[true, true, true, true, true, true, true, true, true, true] rfl rfl (any_of HT_.out (by kernel_rfl)) (fun _ _ _ h => h) (Or.inl ⟨by rfl, ?_⟩) ?_ ?_
   rotate_left
   · intro w'
     go_simp
     with_reducible rfl
   rotate_left
   · simp only [Act.put, sa, sb, sc, i64_w, i32_w]
     rfl
   refine done_ (done_of HT_.out (by kernel_rfl)) ?_
   try go_wp2
   go_roundg k1
   case measure => have := HK1.out; omega
   case rel => exact ⟨(wrap64 (x5_1 + 1)), eR, H', ⟨by have := HK1.out; omega⟩, ⟨pH HB⟩⟩
end Go.Proofs.YtcpdeenhjodmfaaDoor.QDecodeScene
