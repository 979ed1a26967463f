-- Written by wip/tools/mkprint.py (my program) out of the translation, for this claim. Not trusted: Lean checks it.
import Derived.Test.YtcpdeenhjodmfaaDoorQDecodeScenex0
namespace Go.Proofs.YtcpdeenhjodmfaaDoor.QDecodeScene
open Go.RowKit Go.Proofs.YtcpdeenhjodmfaaDoorW.PrintWords Go.Proofs.YtcpdeenhjodmfaaDoorW.PrintLast Go.Proofs.YtcpdeenhjodmfaaDoorW.PrintMore
attribute [local go_sem] max2_int min2_int max_two min_two max_three min_three max_four min_four   -- for this text's walks alone
set_option maxHeartbeats 8000000
set_option maxRecDepth 100000
set_option linter.unusedVariables false
set_option linter.unusedSimpArgs false

/-- A state of type 98 at block g of W; what its slices lead to came in by w0. -/
def IsS98 (w0 W : World) (g : Nat) (f0 : List Int) (f1 : Int) : Prop := ∃ A0 c0, W.heap[g]? = some (.cells #[.slice A0 f0.length c0, .int .i64 f1] 98 (0, 0)) ∧ w0.heap.size ≤ g ∧ Kd.C (Kd.int .u8) w0 A0 f0.length f0
theorem IsS98.grown {w0 W : World} {g : Nat} {f0 : List Int} {f1 : Int} {W1 : World} {row : Option Nat} (h : IsS98 w0 W g f0 f1) (hw : W.grownBy W1 row) (hne : some g ≠ row) : IsS98 w0 W1 g f0 f1 := by
  obtain ⟨A0, c0, hb, hg, hr0⟩ := h
  exact ⟨A0, c0, blk_grown hb hw hne, hg, hr0⟩
theorem IsS98.own_neN {w0 W : World} {g : Nat} {f0 : List Int} {f1 : Int} {α : Type} {d : Kd α} {e : Nat} {base : Nat} {ok : Nat → Prop} {v : Value} {xs : List α} (h : IsS98 w0 W g f0 f1) (ho : Kd.N d e W base ok v xs) (ht : e ≠ 98) : some g ≠ v.ownBlock := by
  obtain ⟨A0, c0, hb, hg, hr0⟩ := h
  exact Kd.N_ne ho hb ht
theorem IsS98.fresh {w0 W : World} {g : Nat} {f0 : List Int} {f1 : Int} (h : IsS98 w0 W g f0 f1) : ∀ k, W.heap.size ≤ k → k ≠ g := by
  obtain ⟨A0, c0, hb, hg, hr0⟩ := h
  exact Kd.freshB hb
theorem IsS98.kept {w0 W : World} {g : Nat} {f0 : List Int} {f1 : Int} {W1 : World} {S : Nat → Prop} (h : IsS98 w0 W g f0 f1) (hk : Kept W W1 S) (hne : ¬ S g) : IsS98 w0 W1 g f0 f1 := by
  obtain ⟨A0, c0, hb, hg, hr0⟩ := h
  exact ⟨A0, c0, blk_kept hb hk hne, hg, hr0⟩
theorem IsS98.below {w0 W : World} {g : Nat} {f0 : List Int} {f1 : Int} {W1 : World} (h : IsS98 w0 W g f0 f1) (hw : Below W.heap.size W W1) : IsS98 w0 W1 g f0 f1 := h.grown (grown_of_below hw none) (by simp)
theorem IsS98.alloc {w0 W : World} {g : Nat} {f0 : List Int} {f1 : Int} (h : IsS98 w0 W g f0 f1) (o : Obj) : IsS98 w0 (W.alloc o) g f0 f1 := h.below (below_alloc (Below.refl _ _) o)
theorem IsS98.drewN {w0 W : World} {g : Nat} {f0 : List Int} {f1 : Int} (h : IsS98 w0 W g f0 f1) (m : Nat) : IsS98 w0 (W.drewN m) g f0 f1 := h
theorem IsS98.drew {w0 W : World} {g : Nat} {f0 : List Int} {f1 : Int} (h : IsS98 w0 W g f0 f1) : IsS98 w0 W.drew g f0 f1 := h
theorem IsS98.at_ {w0 W : World} {g : Nat} {f0 : List Int} {f1 : Int} {w' : World} {m : Nat} (hq : W.drewN m = w') (h : IsS98 w0 W g f0 f1) : IsS98 w0 w' g f0 f1 := by subst hq; exact IsS98.drewN h m
theorem IsS98.apart {w0 W : World} {g : Nat} {f0 : List Int} {f1 : Int} {α : Type} {d : Kd α} {e : Nat} {base : Nat} {ok : Nat → Prop} {v : Value} {xs : List α} (h : IsS98 w0 W g f0 f1) (ho : d.R e W base ok v xs) (ht : ∀ q, q ∈ e :: d.E → q ≠ 98) : d.R e W base (fun k => ok k ∧ k ≠ g) v xs := by
  obtain ⟨A0, c0, hb, hg, hr0⟩ := h
  exact Kd.R_types ho hb ht
theorem IsS98.own_ne {w0 W : World} {g : Nat} {f0 : List Int} {f1 : Int} {α : Type} {d : Kd α} {e : Nat} {base : Nat} {ok : Nat → Prop} {v : Value} {xs : List α} (h : IsS98 w0 W g f0 f1) (ho : d.R e W base ok v xs) (ht : e ≠ 98) : some g ≠ v.ownBlock := by
  obtain ⟨A0, c0, hb, hg, hr0⟩ := h
  exact Kd.R_ne ho hb ht
theorem IsS98.apartQ {w0 W : World} {g : Nat} {f0 : List Int} {f1 : Int} {α : Type} {d : Kd α} {e : Nat} {base : Nat} {ok : Nat → Prop} {v : Value} {xs : List α} (h : IsS98 w0 W g f0 f1) (ho : d.Q e W base ok v xs) (ht : ∀ q, q ∈ e :: d.E → q ≠ 98) : d.Q e W base (fun k => ok k ∧ k ≠ g) v xs := by
  obtain ⟨A0, c0, hb, hg, hr0⟩ := h
  exact Kd.Q_types ho hb ht
theorem IsS98.own_neQ {w0 W : World} {g : Nat} {f0 : List Int} {f1 : Int} {α : Type} {d : Kd α} {e : Nat} {base : Nat} {ok : Nat → Prop} {v : Value} {xs : List α} (h : IsS98 w0 W g f0 f1) (ho : d.Q e W base ok v xs) (ht : e ≠ 98) : some g ≠ v.ownBlock := by
  obtain ⟨A0, c0, hb, hg, hr0⟩ := h
  exact Kd.Q_ne ho hb ht
theorem IsS98.apartS {w0 W : World} {g : Nat} {f0 : List Int} {f1 : Int} {α : Type} {d : Kd α} {e : Nat} {base : Nat} {ok : Nat → Prop} {v : Value} {xs : List α} (h : IsS98 w0 W g f0 f1) (ho : d.S e W base ok v xs) (ht : ∀ q, q ∈ e :: d.E → q ≠ 98) : d.S e W base (fun k => ok k ∧ k ≠ g) v xs := by
  obtain ⟨A0, c0, hb, hg, hr0⟩ := h
  exact Kd.S_types ho hb ht
theorem IsS98.own_neS {w0 W : World} {g : Nat} {f0 : List Int} {f1 : Int} {α : Type} {d : Kd α} {e : Nat} {base : Nat} {ok : Nat → Prop} {v : Value} {xs : List α} (h : IsS98 w0 W g f0 f1) (ho : d.S e W base ok v xs) (ht : e ≠ 98) : some g ≠ v.ownBlock := by
  obtain ⟨A0, c0, hb, hg, hr0⟩ := h
  exact Kd.S_ne ho hb ht
theorem IsS98.lt {w0 W : World} {g : Nat} {f0 : List Int} {f1 : Int} (h : IsS98 w0 W g f0 f1) : g < W.heap.size := by
  obtain ⟨A0, c0, hb, hg, hr0⟩ := h
  exact blk_lt hb
theorem IsS98.ge {w0 W : World} {g : Nat} {f0 : List Int} {f1 : Int} (h : IsS98 w0 W g f0 f1) : w0.heap.size ≤ g := by
  obtain ⟨A0, c0, hb, hg, hr0⟩ := h
  exact hg
theorem IsS98.ne_blk {w0 W : World} {g : Nat} {f0 : List Int} {f1 : Int} {a : Nat} {cs : Array Value} {t : TypeId} {fr : Nat × Nat} (h : IsS98 w0 W g f0 f1) (hb2 : W.heap[a]? = some (.cells cs t fr)) (ht : t ≠ 98) : g ≠ a := by
  obtain ⟨A0, c0, hb, hg, hr0⟩ := h
  rintro rfl
  rw [hb] at hb2
  injection hb2 with hb2
  injection hb2 with _ ht2
  exact ht ht2.symm
theorem IsS98.far {w0 W : World} {g : Nat} {f0 : List Int} {f1 : Int} {p : Addr} (h : IsS98 w0 W g f0 f1) (hne : g ≠ p.block) (u : Value) : IsS98 w0 (W.setCell p u) g f0 f1 := by
  obtain ⟨A0, c0, hb, hg, hr0⟩ := h
  exact ⟨A0, c0, blk_far hb hne u, hg, hr0⟩
theorem cellS98_0 {W : World} {g : Nat} {A0 : Option Addr} {c0 : Nat} {f0 : List Int} {f1 : Int} (h : W.heap[g]? = some (.cells #[.slice A0 f0.length c0, .int .i64 f1] 98 (0, 0))) : W.cell? ⟨g, 0, none⟩ = some (.slice A0 f0.length c0) := (blk_cell h 0).trans rfl
theorem cellS98_1 {W : World} {g : Nat} {A0 : Option Addr} {c0 : Nat} {f0 : List Int} {f1 : Int} (h : W.heap[g]? = some (.cells #[.slice A0 f0.length c0, .int .i64 f1] 98 (0, 0))) : W.cell? ⟨g, 1, none⟩ = some (.int .i64 f1) := (blk_cell h 1).trans rfl
theorem IsS98.set_1 {w0 W : World} {g : Nat} {f0 : List Int} {f1 : Int} (h : IsS98 w0 W g f0 f1) (x : Int) : IsS98 w0 (W.setCell ⟨g, 1, none⟩ (.int .i64 x)) g f0 x := by
  obtain ⟨A0, c0, hb, hg, hr0⟩ := h
  exact ⟨A0, c0, by simpa using blk_set hb 1 (.int .i64 x), hg, hr0⟩
theorem IsS98.new (w0 W : World) (A0 : Option Addr) (c0 : Nat) (f0 : List Int) (f1 : Int) (hB : Below w0.heap.size w0 W) (hr0 : Kd.C (Kd.int .u8) w0 A0 f0.length f0) : IsS98 w0 (W.alloc (.cells #[.slice A0 f0.length c0, .int .i64 f1] 98)) W.heap.size f0 f1 := ⟨A0, c0, by simpa using heap_alloc_new W _, hB.size, hr0⟩

/-! ### impl_bytesIn_stop: function 65 -/
def impl_bytesIn_stop.f (s0_0 : List Int) (s0_1 : Int) (a1 : Int) (a2 : Int) : Option (Int) := none
theorem impl_bytesIn_stop.calls (g : Nat) (s0_0 : List Int) (s0_1 : Int) (a1 : Int) (a2 : Int) (r : Int) (w0 w : World) (hI : IsS98 w0 w g s0_0 s0_1) (hB : Below w0.heap.size w0 w) (h : impl_bytesIn_stop.f s0_0 s0_1 a1 a2 = some r) :
    Calls Tryd.prog 65 #[.pointer (some ⟨g, 0, none⟩), .int .i64 a1, .int .i64 a2] w fun e w' => e = .returned (.tuple #[]) ∧ IsS98 w0 w' g s0_0 r ∧ Below w0.heap.size w0 w' ∧ KeepBut w w' g none := absurd h (by simp [impl_bytesIn_stop.f])

/-! ### impl_bytesIn_num: function 76 -/
mutual
def impl_bytesIn_num.j0 : Nat → Int → List Int → Int → Option (Int × Int)
 | 0, _, _, _ => none
 | k + 1, x1, x1000, x1001 => impl_bytesIn_num.l0 k x1 0 x1 0 x1000 x1001
def impl_bytesIn_num.l0 : Nat → Int → Int → Int → Int → List Int → Int → Option (Int × Int)
 | 0, _, _, _, _, _, _ => none
 | k + 1, x1, x5, x26, x27, x1000, x1001 => if x27 < x26 then (if 0 ≤ (wrap64 (x1001 + x27)) then (if (wrap64 (x1001 + x27)) < (x1000.length : Int) then (if 0 ≤ (wrap64 (8 * x27)) then (impl_bytesIn_num.l0 k x1 (Go.bits .or .u32 x5 (shl .u32 ((rd x1000 (wrap64 (x1001 + x27))) % 4294967296) (wrap64 (8 * x27)))) x26 (wrap64 (x27 + 1)) x1000 x1001) else (none)) else (none)) else (none)) else (some (x5, wrap64 (x1001 + x1)))
end
def impl_bytesIn_num.f (k : Nat) (s0_0 : List Int) (s0_1 : Int) (a1 : Int) : Option (Int × Int) := if (wrap64 (s0_1 + a1)) > (s0_0.length : Int) then ((impl_bytesIn_stop.f s0_0 s0_1 5 (s0_0.length : Int)).bind fun t178 => (impl_bytesIn_num.j0 k a1 s0_0 t178)) else (impl_bytesIn_num.j0 k a1 s0_0 s0_1)
theorem impl_bytesIn_num.mono_l : ∀ k, (∀ y0 y1 y2, LeO (impl_bytesIn_num.j0 k y0 y1 y2) (impl_bytesIn_num.j0 (k + 1) y0 y1 y2)) ∧ (∀ y0 y1 y2 y3 y4 y5, LeO (impl_bytesIn_num.l0 k y0 y1 y2 y3 y4 y5) (impl_bytesIn_num.l0 (k + 1) y0 y1 y2 y3 y4 y5))
 | 0 => ⟨fun _ _ _ r h => by simp [impl_bytesIn_num.j0] at h, fun _ _ _ _ _ _ r h => by simp [impl_bytesIn_num.l0] at h⟩
 | k + 1 => by
  obtain ⟨ih0, ih1⟩ := impl_bytesIn_num.mono_l k
  refine ⟨?_, ?_⟩
  · intro y0 y1 y2
    unfold impl_bytesIn_num.j0
    repeat' with_reducible first | exact ih0 _ _ _ | exact ih1 _ _ _ _ _ _ | exact LeO.refl _ | exact LeO.none _ | refine LeO.ite ?_ ?_ | refine LeO.bind ?_ (fun _ => ?_)
  intro y0 y1 y2 y3 y4 y5
  unfold impl_bytesIn_num.l0
  repeat' with_reducible first | exact ih0 _ _ _ | exact ih1 _ _ _ _ _ _ | exact LeO.refl _ | exact LeO.none _ | refine LeO.ite ?_ ?_ | refine LeO.bind ?_ (fun _ => ?_)
theorem impl_bytesIn_num.mono : ∀ a0 a1 a2 k, LeO (impl_bytesIn_num.f k a0 a1 a2) (impl_bytesIn_num.f (k + 1) a0 a1 a2) := by
 intro a0 a1 a2 k
 obtain ⟨ih0, ih1⟩ := impl_bytesIn_num.mono_l k
 unfold impl_bytesIn_num.f
 repeat' with_reducible first | exact ih0 _ _ _ | exact ih1 _ _ _ _ _ _ | exact LeO.refl _ | exact LeO.none _ | refine LeO.ite ?_ ?_ | refine LeO.bind ?_ (fun _ => ?_)
theorem impl_bytesIn_num.calls (k : Nat) (g : Nat) (s0_0 : List Int) (s0_1 : Int) (a1 : Int) (r1 : Int) (r2 : Int) (w0 w : World) (hI : IsS98 w0 w g s0_0 s0_1) (hB : Below w0.heap.size w0 w) (h : impl_bytesIn_num.f k s0_0 s0_1 a1 = some (r1, r2)) :
 Calls Tryd.prog 76 #[.pointer (some ⟨g, 0, none⟩), .int .i64 a1] w fun e w' => e = .returned (.int .u32 r1) ∧ IsS98 w0 w' g s0_0 r2 ∧ Below w0.heap.size w0 w' ∧ KeepBut w w' g none := by
 have HI0 := AM hI; have HK := AM (KeepBut.refl w g none); have HL := AM hB.size; clear hI; have HW0 := AM hB.size; have HB := AM hB; clear hB
 have H : (if (wrap64 (s0_1 + a1)) > (s0_0.length : Int) then ((impl_bytesIn_stop.f s0_0 s0_1 5 (s0_0.length : Int)).bind fun t178 => (impl_bytesIn_num.j0 k a1 s0_0 t178)) else (impl_bytesIn_num.j0 k a1 s0_0 s0_1)) = some (r1, r2) := h
 clear h; have HC3 := AM H; clear H
 obtain ⟨ASz4_0, cSz4_0, HGz4, hgz4, HSz4_0⟩ := HI0.out
 have hcz4_0 := cellS98_0 HGz4; have hcz4_1 := cellS98_1 HGz4; have hfz4_1 := blk_frozen HGz4 1; clear HGz4 hgz4
 go_enter Tryd.func76, Tryd.ntmps76
 go_upto_if 18 with (fail)
 repeat (go_quiet (fail); go_upto_if 18 with (fail))
 go_cut [] (fun wc => ∃ (kq : Nat) (x1001_2 : Int), Aside0 (impl_bytesIn_num.j0 kq a1 s0_0 x1001_2 = some (r1, r2)) ∧ Aside0 (kq ≤ k) ∧ Aside0 (IsS98 w0 wc g s0_0 x1001_2) ∧ Aside0 (KeepBut w wc g none) ∧ Aside0 (Below w0.heap.size w0 wc))
 case first =>
  have H := HC3.out; clear HC3
  by_cases c5 : (wrap64 (s0_1 + a1)) > (s0_0.length : Int)
  rotate_left
  · rw [if_neg c5] at H
    have c5b0 : decide ((s0_0.length : Int) < (wrap64 (s0_1 + a1))) = false := decide_eq_false c5
    clear c5
    (first | rw [c5b0] | (simp only [i64_w, i32_w]; rw [c5b0]) | skip)
    have H' := AM H
    clear H
    go_wp2
    repeat (go_quiet (fail); try go_wp2)
    go_meet
    case rel => exact ⟨_, (s0_1), H', ⟨by first | omega | exact Nat.le_refl _⟩, ⟨by repeat (first | (with_reducible first | exact HI0.out | apply IsS98.alloc | apply IsS98.drewN | apply IsS98.drew | apply IsS98.set_1) | exact HI0.out)⟩, ⟨by repeat (first | (with_reducible first | exact HK.out | apply KeepBut.set_ | apply keep_drewN | apply keep_drew | apply keep_alloc) | exact HK.out)⟩, ⟨by repeat (first | (with_reducible first | exact HB.out | apply below_alloc | apply pw_below_drewN | apply below_drew1 | refine below_set ?_ (IsS98.ge HI0.out)) | exact HB.out)⟩⟩
  rw [if_pos c5] at H
  have c5b0 : decide ((s0_0.length : Int) < (wrap64 (s0_1 + a1))) = true := decide_eq_true c5
  clear c5
  (first | rw [c5b0] | (simp only [i64_w, i32_w]; rw [c5b0]) | skip)
  replace H := Option.bind_eq_some_iff.mp H
  obtain ⟨t178, A60, H⟩ := H
  (try dsimp only at H)
  have A6 := AM A60; clear A60
  have H' := AM H
  clear H
  obtain ⟨ASz7_0, cSz7_0, HGz7, hgz7, HSz7_0⟩ := HI0.out
  have hcz7_0 := cellS98_0 HGz7; have hcz7_1 := cellS98_1 HGz7; have hfz7_1 := blk_frozen HGz7 1; clear HGz7 hgz7
  go_wp2_with (first | (go_at_call 65; (with_reducible refine (impl_bytesIn_stop.calls g s0_0 s0_1 5 (s0_0.length : Int) t178 w0 _ ?side1 ?side2 A6.out).mono ?_); (case side1 => repeat (first | (with_reducible first | exact HI0.out | apply IsS98.alloc | apply IsS98.drewN | apply IsS98.drew | apply IsS98.set_1) | exact HI0.out)); (case side2 => repeat (first | (with_reducible first | exact HB.out | apply below_alloc | apply pw_below_drewN | apply below_drew1 | refine below_set ?_ (IsS98.ge HI0.out)) | exact HB.out)); rintro e w8 ⟨rfl, hi, hb, hk⟩; replace HK := AM (KeepBut.trans (by repeat (first | (with_reducible first | exact HK.out | apply KeepBut.set_ | apply keep_drewN | apply keep_drew | apply keep_alloc) | exact HK.out)) hk (.inl rfl)); replace HB := AM (hb); replace HI0 := AM (hi); (try clear hb); (try clear hb2); (try clear hk); (try clear hi)))
  repeat (go_quiet (first | (go_at_call 65; (with_reducible refine (impl_bytesIn_stop.calls g s0_0 s0_1 5 (s0_0.length : Int) t178 w0 _ ?side1 ?side2 A6.out).mono ?_); (case side1 => repeat (first | (with_reducible first | exact HI0.out | apply IsS98.alloc | apply IsS98.drewN | apply IsS98.drew | apply IsS98.set_1) | exact HI0.out)); (case side2 => repeat (first | (with_reducible first | exact HB.out | apply below_alloc | apply pw_below_drewN | apply below_drew1 | refine below_set ?_ (IsS98.ge HI0.out)) | exact HB.out)); rintro e w8 ⟨rfl, hi, hb, hk⟩; replace HK := AM (KeepBut.trans (by repeat (first | (with_reducible first | exact HK.out | apply KeepBut.set_ | apply keep_drewN | apply keep_drew | apply keep_alloc) | exact HK.out)) hk (.inl rfl)); replace HB := AM (hb); replace HI0 := AM (hi); (try clear hb); (try clear hb2); (try clear hk); (try clear hi))); try go_wp2_with (first | (go_at_call 65; (with_reducible refine (impl_bytesIn_stop.calls g s0_0 s0_1 5 (s0_0.length : Int) t178 w0 _ ?side1 ?side2 A6.out).mono ?_); (case side1 => repeat (first | (with_reducible first | exact HI0.out | apply IsS98.alloc | apply IsS98.drewN | apply IsS98.drew | apply IsS98.set_1) | exact HI0.out)); (case side2 => repeat (first | (with_reducible first | exact HB.out | apply below_alloc | apply pw_below_drewN | apply below_drew1 | refine below_set ?_ (IsS98.ge HI0.out)) | exact HB.out)); rintro e w8 ⟨rfl, hi, hb, hk⟩; replace HK := AM (KeepBut.trans (by repeat (first | (with_reducible first | exact HK.out | apply KeepBut.set_ | apply keep_drewN | apply keep_drew | apply keep_alloc) | exact HK.out)) hk (.inl rfl)); replace HB := AM (hb); replace HI0 := AM (hi); (try clear hb); (try clear hb2); (try clear hk); (try clear hi))))
  go_meet
  case rel => exact ⟨_, (t178), H', ⟨by first | omega | exact Nat.le_refl _⟩, ⟨by repeat (first | (with_reducible first | exact HI0.out | apply IsS98.alloc | apply IsS98.drewN | apply IsS98.drew | apply IsS98.set_1) | exact HI0.out)⟩, ⟨by repeat (first | (with_reducible first | exact HK.out | apply KeepBut.set_ | apply keep_drewN | apply keep_drew | apply keep_alloc) | exact HK.out)⟩, ⟨by repeat (first | (with_reducible first | exact HB.out | apply below_alloc | apply pw_below_drewN | apply below_drew1 | refine below_set ?_ (IsS98.ge HI0.out)) | exact HB.out)⟩⟩
 case rest =>
  clear HC3
  try clear p2
  try clear c5
  try clear c5b0
  try clear p6
  try clear c7
  try clear hcz4_0
  try clear hcz4_1
  try clear hcz7_0
  try clear hcz7_1
  try clear hfz4_1
  try clear hfz7_1
  obtain ⟨kq, x1001_2, HA, HJ2, HI0, HK, HB⟩ := hcut
  cases kq with
  | zero => exact absurd HA.out (by simp [impl_bytesIn_num.j0])
  | succ kj2 =>
   have H := HA.out; clear HA
   simp only [impl_bytesIn_num.j0] at H
   have H' := AM H
   clear H
   go_wp2
   repeat (go_quiet (fail); try go_wp2)
   go_loopg [5, 27] kj2 (fun kq v5 v27 w' => ∃ (x5_2 : Int) (x27_2 : Int), v5 = .int .u32 x5_2 ∧ v27 = .int .i64 x27_2 ∧ Aside0 (impl_bytesIn_num.l0 kq a1 x5_2 a1 x27_2 s0_0 x1001_2 = some (r1, r2)) ∧ Aside0 (kq ≤ kj2) ∧ Aside0 (IsS98 w0 w' g s0_0 x1001_2) ∧ Aside0 (KeepBut w w' g none) ∧ Aside0 (Below w0.heap.size w0 w'))
   case atStart => exact ⟨(0), (0), eR, eR, H', ⟨Nat.le_refl _⟩, ⟨by repeat (first | (with_reducible first | exact HI0.out | apply IsS98.alloc | apply IsS98.drewN | apply IsS98.drew | apply IsS98.set_1) | exact HI0.out)⟩, ⟨by repeat (first | (with_reducible first | exact HK.out | apply KeepBut.set_ | apply keep_drewN | apply keep_drew | apply keep_alloc) | exact HK.out)⟩, ⟨by repeat (first | (with_reducible first | exact HB.out | apply below_alloc | apply pw_below_drewN | apply below_drew1 | refine below_set ?_ (IsS98.ge HI0.out)) | exact HB.out)⟩⟩
   case round =>
    clear H'
    try clear p2
    try clear c5
    try clear c5b0
    try clear p6
    try clear c7
    try clear hcz4_0
    try clear hcz4_1
    try clear hcz7_0
    try clear hcz7_1
    try clear hfz4_1
    try clear hfz7_1
    try clear p2
    try clear p6
    obtain ⟨x5_2, x27_2, rfl, rfl, HA, HK2, HI0, HK, HB⟩ := hrel
    cases gk with
    | zero => exact absurd HA.out (by simp [impl_bytesIn_num.l0])
    | succ k2 =>
     have H := HA.out; clear HA
     simp only [impl_bytesIn_num.l0] at H
     by_cases c9 : x27_2 < a1
     rotate_left
     · rw [if_neg c9] at H
       have c9b0 : decide (x27_2 < a1) = false := decide_eq_false c9
       clear c9
       simp only [Option.some.injEq, Prod.mk.injEq] at H
       obtain ⟨rfl, rfl⟩ := H
       obtain ⟨ASz17_0, cSz17_0, HGz17, hgz17, HSz17_0⟩ := HI0.out
       have hcz17_0 := cellS98_0 HGz17; have hcz17_1 := cellS98_1 HGz17; have hfz17_1 := blk_frozen HGz17 1; clear HGz17 hgz17
       go_wp2
       repeat (go_quiet (fail); try go_wp2)
       go_ret
       exact ⟨eW, by repeat (first | (with_reducible first | exact HI0.out | apply IsS98.alloc | apply IsS98.drewN | apply IsS98.drew | apply IsS98.set_1) | exact HI0.out), by repeat (first | (with_reducible first | exact HB.out | apply below_alloc | apply pw_below_drewN | apply below_drew1 | refine below_set ?_ (IsS98.ge HI0.out)) | exact HB.out), by repeat (first | (with_reducible first | exact HK.out | apply KeepBut.set_ | apply keep_drewN | apply keep_drew | apply keep_alloc) | exact HK.out)⟩

     rw [if_pos c9] at H
     have c9b0 : decide (x27_2 < a1) = true := decide_eq_true c9
     clear c9
     obtain ⟨ji10, hji10⟩ : ∃ j_ : Int, (wrap64 (x1001_2 + x27_2)) = j_ := ⟨_, rfl⟩
     replace H : (if 0 ≤ (ji10) then (if (ji10) < (s0_0.length : Int) then (if 0 ≤ (wrap64 (8 * x27_2)) then (impl_bytesIn_num.l0 k2 a1 (Go.bits .or .u32 x5_2 (shl .u32 ((rd s0_0 (ji10)) % 4294967296) (wrap64 (8 * x27_2)))) a1 (wrap64 (x27_2 + 1)) s0_0 x1001_2) else (none)) else (none)) else (none)) = some (r1, r2) := by first | (rw [hji10] at H; exact H) | (simp only [hji10] at H ⊢; exact H)
     have hji10w : (IntKind.i64.wrap (x1001_2 + x27_2)) = ji10 := (i64_w _).trans hji10
     by_cases c11 : 0 ≤ (ji10)
     rotate_left
     · rw [if_neg c11] at H
       exact absurd H (by simp)
     rw [if_pos c11] at H
     have c11b0 : decide (0 ≤ (ji10)) = true := decide_eq_true c11
     clear c11
     by_cases c12 : (ji10) < (s0_0.length : Int)
     rotate_left
     · rw [if_neg c12] at H
       exact absurd H (by simp)
     rw [if_pos c12] at H
     have c12b0 : decide ((ji10) < (s0_0.length : Int)) = true := decide_eq_true c12
     clear c12
     obtain ⟨ji13, hji13⟩ : ∃ j_ : Int, (wrap64 (8 * x27_2)) = j_ := ⟨_, rfl⟩
     replace H : (if 0 ≤ (ji13) then (impl_bytesIn_num.l0 k2 a1 (Go.bits .or .u32 x5_2 (shl .u32 ((rd s0_0 (ji10)) % 4294967296) (ji13))) a1 (wrap64 (x27_2 + 1)) s0_0 x1001_2) else (none)) = some (r1, r2) := by first | (rw [hji13] at H; exact H) | (simp only [hji13] at H ⊢; exact H)
     have hji13w : (IntKind.i64.wrap (8 * x27_2)) = ji13 := (i64_w _).trans hji13
     by_cases c14 : 0 ≤ (ji13)
     rotate_left
     · rw [if_neg c14] at H
       exact absurd H (by simp)
     rw [if_pos c14] at H
     have c14b0 := eq_true c14
     have c14b1 : decide (0 ≤ (ji13)) = true := decide_eq_true c14
     clear c14
     obtain ⟨ji15, hji15⟩ : ∃ j_ : Int, (shl .u32 ((rd s0_0 (ji10)) % 4294967296) (ji13)) = j_ := ⟨_, rfl⟩
     replace H : (impl_bytesIn_num.l0 k2 a1 (Go.bits .or .u32 x5_2 (ji15)) a1 (wrap64 (x27_2 + 1)) s0_0 x1001_2) = some (r1, r2) := by first | (rw [hji15] at H; exact H) | (simp only [hji15] at H ⊢; exact H)
     have hji15_ : (IntKind.u32.wrap (((rd s0_0 (ji10)) % 4294967296) * 2 ^ min (ji13).toNat 32)) = ji15 := hji15
     have hji15z : (ji13) ≤ 32 → (IntKind.u32.wrap (((rd s0_0 (ji10)) % 4294967296) * 2 ^ (ji13).toNat)) = ji15 := shl_small hji15
     have H' := AM H
     clear H
     obtain ⟨ASz16_0, cSz16_0, HGz16, hgz16, HSz16_0⟩ := HI0.out
     have hcz16_0 := cellS98_0 HGz16; have hcz16_1 := cellS98_1 HGz16; have hfz16_1 := blk_frozen HGz16 1; clear HGz16 hgz16
     have p179 : 0 ≤ ((ji10) : Int) := dT
     have q179 : (ji10) < (s0_0.length : Int) := dT
     obtain ⟨ad179, e179, hx179_0⟩ := Kd.at_int HSz16_0 (ji10) p179 q179
     cases e179
     replace hx179_0 := pw_cell_below HB.out hx179_0; replace p179 := eq_true p179; replace q179 := eq_true q179
     go_wp2
     repeat (go_quiet (fail); try go_wp2)
     go_roundg k2
     case measure => have := HJ2.out; have := HK2.out; omega
     case rel => exact ⟨(Go.bits .or .u32 x5_2 (ji15)), (wrap64 (x27_2 + 1)), (by first | rfl | (simp; done) | (simp only [← hji15] <;> (first | rfl | simp)) | (simp [*]; done)), eR, H', ⟨by have := HJ2.out; have := HK2.out; omega⟩, ⟨by repeat (first | (with_reducible first | exact HI0.out | apply IsS98.alloc | apply IsS98.drewN | apply IsS98.drew | apply IsS98.set_1) | exact HI0.out)⟩, ⟨by repeat (first | (with_reducible first | exact HK.out | apply KeepBut.set_ | apply keep_drewN | apply keep_drew | apply keep_alloc) | exact HK.out)⟩, ⟨by repeat (first | (with_reducible first | exact HB.out | apply below_alloc | apply pw_below_drewN | apply below_drew1 | refine below_set ?_ (IsS98.ge HI0.out)) | exact HB.out)⟩⟩
/-! ### impl_bytesIn_count: function 66 -/
def impl_bytesIn_count.f (k : Nat) (s0_0 : List Int) (s0_1 : Int) (a1 : Int) (a2 : Int) : Option (Int × Int) := (impl_bytesIn_num.f k s0_0 s0_1 a1).bind fun bt180 => (if (wrap64 (bt180.1)) > a2 then ((impl_bytesIn_stop.f s0_0 bt180.2 2 (wrap64 (bt180.2 - a1))).bind fun t182 => (some (wrap64 (bt180.1), t182))) else (some (wrap64 (bt180.1), bt180.2)))
theorem impl_bytesIn_count.mono : ∀ a0 a1 a2 a3 k, LeO (impl_bytesIn_count.f k a0 a1 a2 a3) (impl_bytesIn_count.f (k + 1) a0 a1 a2 a3) := by
 intro a0 a1 a2 a3 k
 unfold impl_bytesIn_count.f
 repeat' with_reducible first | exact impl_bytesIn_num.mono _ _ _ _ | exact LeO.refl _ | exact LeO.none _ | refine LeO.ite ?_ ?_ | refine LeO.bind ?_ (fun _ => ?_)
theorem impl_bytesIn_count.calls (k : Nat) (g : Nat) (s0_0 : List Int) (s0_1 : Int) (a1 : Int) (a2 : Int) (r1 : Int) (r2 : Int) (w0 w : World) (hI : IsS98 w0 w g s0_0 s0_1) (hB : Below w0.heap.size w0 w) (h : impl_bytesIn_count.f k s0_0 s0_1 a1 a2 = some (r1, r2)) :
 Calls Tryd.prog 66 #[.pointer (some ⟨g, 0, none⟩), .int .i64 a1, .int .i64 a2] w fun e w' => e = .returned (.int .i64 r1) ∧ IsS98 w0 w' g s0_0 r2 ∧ Below w0.heap.size w0 w' ∧ KeepBut w w' g none := by
 have HI0 := AM hI; have HK := AM (KeepBut.refl w g none); have HL := AM hB.size; clear hI; have HW0 := AM hB.size; have HB := AM hB; clear hB
 have H : ((impl_bytesIn_num.f k s0_0 s0_1 a1).bind fun bt180 => (if (wrap64 (bt180.1)) > a2 then ((impl_bytesIn_stop.f s0_0 bt180.2 2 (wrap64 (bt180.2 - a1))).bind fun t182 => (some (wrap64 (bt180.1), t182))) else (some (wrap64 (bt180.1), bt180.2)))) = some (r1, r2) := h
 clear h
 replace H := Option.bind_eq_some_iff.mp H
 obtain ⟨⟨t180, t181⟩, A40, H⟩ := H
 (try dsimp only at H)
 have A4 := AM A40; clear A40
 by_cases c5 : (wrap64 (t180)) > a2
 rotate_left
 · rw [if_neg c5] at H
   have c5b0 : decide (a2 < (wrap64 (t180))) = false := decide_eq_false c5
   clear c5
   simp only [Option.some.injEq, Prod.mk.injEq] at H
   obtain ⟨rfl, rfl⟩ := H
   go_enter Tryd.func66, Tryd.ntmps66
   go_wp2_with (first | ((with_reducible refine gate_callee (f := 76) rfl ?_); refine goesL_ (some 10) rfl rfl Tryd.func76 (by kernel_rfl) rfl #[.pointer (some ⟨g, 0, none⟩), .int .i64 a1] rfl hM ?_; (with_reducible refine (impl_bytesIn_num.calls k g s0_0 s0_1 a1 t180 t181 w0 _ ?side1 ?side2 A4.out).mono ?_); (case side1 => repeat (first | (with_reducible first | exact HI0.out | apply IsS98.alloc | apply IsS98.drewN | apply IsS98.drew | apply IsS98.set_1) | exact HI0.out)); (case side2 => repeat (first | (with_reducible first | exact HB.out | apply below_alloc | apply pw_below_drewN | apply below_drew1 | refine below_set ?_ (IsS98.ge HI0.out)) | exact HB.out)); rintro e w10 ⟨rfl, hi, hb, hk⟩; refine ⟨_, rfl, ?_⟩; replace HK := AM (KeepBut.trans (by repeat (first | (with_reducible first | exact HK.out | apply KeepBut.set_ | apply keep_drewN | apply keep_drew | apply keep_alloc) | exact HK.out)) hk (.inl rfl)); replace HB := AM (hb); replace HI0 := AM (hi); (try clear hb); (try clear hb2); (try clear hk); (try clear hi)))
   go_ret
   exact ⟨eW, by repeat (first | (with_reducible first | exact HI0.out | apply IsS98.alloc | apply IsS98.drewN | apply IsS98.drew | apply IsS98.set_1) | exact HI0.out), by repeat (first | (with_reducible first | exact HB.out | apply below_alloc | apply pw_below_drewN | apply below_drew1 | refine below_set ?_ (IsS98.ge HI0.out)) | exact HB.out), by repeat (first | (with_reducible first | exact HK.out | apply KeepBut.set_ | apply keep_drewN | apply keep_drew | apply keep_alloc) | exact HK.out)⟩

 rw [if_pos c5] at H
 have c5b0 : decide (a2 < (wrap64 (t180))) = true := decide_eq_true c5
 clear c5
 replace H := Option.bind_eq_some_iff.mp H
 obtain ⟨t182, A60, H⟩ := H
 (try dsimp only at H)
 have A6 := AM A60; clear A60
 simp only [Option.some.injEq, Prod.mk.injEq] at H
 obtain ⟨rfl, rfl⟩ := H
 go_enter Tryd.func66, Tryd.ntmps66
 go_wp2_with (first | ((with_reducible refine gate_callee (f := 76) rfl ?_); refine goesL_ (some 10) rfl rfl Tryd.func76 (by kernel_rfl) rfl #[.pointer (some ⟨g, 0, none⟩), .int .i64 a1] rfl hM ?_; (with_reducible refine (impl_bytesIn_num.calls k g s0_0 s0_1 a1 t180 t181 w0 _ ?side1 ?side2 A4.out).mono ?_); (case side1 => repeat (first | (with_reducible first | exact HI0.out | apply IsS98.alloc | apply IsS98.drewN | apply IsS98.drew | apply IsS98.set_1) | exact HI0.out)); (case side2 => repeat (first | (with_reducible first | exact HB.out | apply below_alloc | apply pw_below_drewN | apply below_drew1 | refine below_set ?_ (IsS98.ge HI0.out)) | exact HB.out)); rintro e w7 ⟨rfl, hi, hb, hk⟩; refine ⟨_, rfl, ?_⟩; replace HK := AM (KeepBut.trans (by repeat (first | (with_reducible first | exact HK.out | apply KeepBut.set_ | apply keep_drewN | apply keep_drew | apply keep_alloc) | exact HK.out)) hk (.inl rfl)); replace HB := AM (hb); replace HI0 := AM (hi); (try clear hb); (try clear hb2); (try clear hk); (try clear hi); obtain ⟨ASz8_0, cSz8_0, HGz8, hgz8, HSz8_0⟩ := HI0.out; have hcz8_0 := cellS98_0 HGz8; have hcz8_1 := cellS98_1 HGz8; have hfz8_1 := blk_frozen HGz8 1; clear HGz8 hgz8) | ((with_reducible refine gate_callee (f := 65) rfl ?_); refine goesL_ (some 22) rfl rfl Tryd.func65 (by kernel_rfl) rfl #[.pointer (some ⟨g, 0, none⟩), .int .i64 2, .int .i64 (wrap64 (t181 - a1))] rfl hM ?_; (with_reducible refine (impl_bytesIn_stop.calls g s0_0 t181 2 (wrap64 (t181 - a1)) t182 w0 _ ?side1 ?side2 A6.out).mono ?_); (case side1 => repeat (first | (with_reducible first | exact HI0.out | apply IsS98.alloc | apply IsS98.drewN | apply IsS98.drew | apply IsS98.set_1) | exact HI0.out)); (case side2 => repeat (first | (with_reducible first | exact HB.out | apply below_alloc | apply pw_below_drewN | apply below_drew1 | refine below_set ?_ (IsS98.ge HI0.out)) | exact HB.out)); rintro e w9 ⟨rfl, hi, hb, hk⟩; refine ⟨_, rfl, ?_⟩; replace HK := AM (KeepBut.trans (by repeat (first | (with_reducible first | exact HK.out | apply KeepBut.set_ | apply keep_drewN | apply keep_drew | apply keep_alloc) | exact HK.out)) hk (.inl rfl)); replace HB := AM (hb); replace HI0 := AM (hi); (try clear hb); (try clear hb2); (try clear hk); (try clear hi)))
 go_ret
 exact ⟨eW, by repeat (first | (with_reducible first | exact HI0.out | apply IsS98.alloc | apply IsS98.drewN | apply IsS98.drew | apply IsS98.set_1) | exact HI0.out), by repeat (first | (with_reducible first | exact HB.out | apply below_alloc | apply pw_below_drewN | apply below_drew1 | refine below_set ?_ (IsS98.ge HI0.out)) | exact HB.out), by repeat (first | (with_reducible first | exact HK.out | apply KeepBut.set_ | apply keep_drewN | apply keep_drew | apply keep_alloc) | exact HK.out)⟩
/-! ### impl_finite: function 83 -/
set_option maxRecDepth 100000 in
theorem run_f32 (x : Int) (w : World) : (callFunc 86 #[.int .u32 x]).run Tryd.prog w = .ok (.value (.float .f32 x.toNat)) w := by
  rw [run_callFunc_extern (e := Extern.MathFloatBits.float32frombits) Tryd.func86 (by kernel_rfl) (by kernel_rfl) (by kernel_rfl) (by kernel_rfl)]
  rfl
set_option maxRecDepth 100000 in
theorem run_b64 (b : Nat) (w : World) : (callFunc 91 #[.float .f64 b]).run Tryd.prog w = .ok (.value (.int .u64 b)) w := by
  rw [run_callFunc_extern (e := Extern.MathFloatBits.float64bits) Tryd.func91 (by kernel_rfl) (by kernel_rfl) (by kernel_rfl) (by kernel_rfl)]
  rfl
set_option maxRecDepth 100000 in
theorem run_f64 (x : Int) (w : World) : (callFunc 90 #[.int .u64 x]).run Tryd.prog w = .ok (.value (.float .f64 x.toNat)) w := by
  rw [run_callFunc_extern (e := Extern.MathFloatBits.float64frombits) Tryd.func90 (by kernel_rfl) (by kernel_rfl) (by kernel_rfl) (by kernel_rfl)]
  rfl
set_option maxRecDepth 100000 in
theorem finite_calls (x : Int) (b : Nat) (r : Bool) (w w1 : World) (hc : (convert 152 151 (.float .f32 x.toNat)).run Tryd.prog w = .ok (.float .f64 b) w1) (hw : Drawn0 w w1)
    (hr : r = ((!(FloatKind.f64.format.order (bits .andNot .u64 b 9223372036854775808).toNat 9218868437227405311 == some .gt)) && (!(FloatKind.f64.format.order b b != some .eq)))) :
    Calls Tryd.prog 83 #[.int .u32 x] w fun e w' => e = .returned (.bool r) ∧ Drawn0 w w' := by
  obtain ⟨n1, rfl⟩ := hw
  have h1 := run_f32 x
  have h2 := run_b64 b
  have h3 := run_f64 (bits .andNot .u64 b 9223372036854775808)
  cases h4 : (FloatKind.f64.format.order (bits .andNot .u64 b 9223372036854775808).toNat 9218868437227405311 == some .gt) with
  | true =>
    rw [h4] at hr
    subst hr
    go_enter Tryd.func83, Tryd.ntmps83
    go_wp2
    go_ret
    exact ⟨rfl, by repeat (first | exact Drawn0.refl _ | apply Drawn0.step)⟩
  | false =>
    rw [h4] at hr
    subst hr
    go_enter Tryd.func83, Tryd.ntmps83
    go_wp2
    go_ret
    exact ⟨rfl, by repeat (first | exact Drawn0.refl _ | apply Drawn0.step)⟩
theorem fl_and (b : Nat) (hb : b < 18446744073709551616) : (bits .andNot .u64 (b : Int) 9223372036854775808).toNat = b % 9223372036854775808 := by
  show (IntKind.u64.wrap (((BitVec.ofInt 64 ((b : Nat) : Int) &&& ~~~ (BitVec.ofInt 64 ((9223372036854775808 : Nat) : Int))).toNat : Nat) : Int)).toNat = _
  have e : (~~~ (BitVec.ofInt 64 ((9223372036854775808 : Nat) : Int))).toNat = 2 ^ 63 - 1 := by decide
  rw [BitVec.toNat_and, e, Nat.and_two_pow_sub_one_eq_mod, BitVec.ofInt_natCast, BitVec.toNat_ofNat, Nat.mod_eq_of_lt (a := b) (by omega)]
  have h : ∀ z : Int, IntKind.u64.wrap z = z % 18446744073709551616 := fun z => by simp [IntKind.wrap, IntKind.bits, IntKind.signed]
  rw [h]
  omega
theorem fl_nearest (neg : Bool) (mag : Nat) (place : Int) (hm : mag < 16777216) (h0 : -149 ≤ place) (h1 : place ≤ 104) : ∃ rung, rung ≤ 9218868437227405311 ∧ Ieee.double.nearest neg mag place = Ieee.double.word neg rung := by
  unfold Ieee.Format.nearest
  by_cases hz : mag = 0
  · rw [if_pos hz]
    exact ⟨0, by omega, rfl⟩
  · rw [if_neg hz]
    have hlog : mag.log2 < 24 := (Nat.log2_lt hz).2 (by omega)
    have hup : mag < 2 ^ (mag.log2 + 1) := Nat.lt_log2_self
    have e1 : Ieee.double.leastPlace = -1074 := by decide
    have e2 : (Ieee.double.fractionBits : Int) = 52 := by decide
    have e3 : Ieee.double.binade = 4503599627370496 := by decide
    have e4 : Ieee.double.infRung = 9218868437227405312 := by decide
    dsimp only
    rw [e1, e2, e3, e4, Int.max_eq_left (by omega)]
    have e5 : (place - (place + (mag.log2 : Int) - 52)).toNat = 52 - mag.log2 := by omega
    have e6 : (place + (mag.log2 : Int) - 52 - place).toNat = 0 := by omega
    rw [e5, e6]
    have hk : mag <<< (52 - mag.log2) < 2 ^ 53 := by
      rw [Nat.shiftLeft_eq]
      have : 2 ^ (mag.log2 + 1) * 2 ^ (52 - mag.log2) = 2 ^ 53 := by rw [← Nat.pow_add]; congr 1; omega
      rw [← this]
      exact Nat.mul_lt_mul_of_pos_right hup (Nat.two_pow_pos _)
    have hc : Ieee.Toward.even.cut neg (mag <<< (52 - mag.log2)) 0 = mag <<< (52 - mag.log2) := by
      generalize mag <<< (52 - mag.log2) = n
      simp [Ieee.Toward.cut, Nat.mod_one]
    rw [hc]
    have hk2 : mag <<< (52 - mag.log2) ≤ 9007199254740991 := by
      rw [show (2 : Nat) ^ 53 = 9007199254740992 from by kernel_rfl] at hk
      generalize mag <<< (52 - mag.log2) = n at hk ⊢
      clear hup hlog hz e1 e2 e3 e4 e5 e6 hc
      omega
    clear hk hc
    generalize mag <<< (52 - mag.log2) = n at hk2 ⊢
    have hq : (place + (mag.log2 : Int) - 52 - -1074).toNat ≤ 1149 := by omega
    generalize (place + (mag.log2 : Int) - 52 - -1074).toNat = q at hq ⊢
    clear hup hlog hz e1 e2 e3 e4 e5 e6
    refine ⟨_, Nat.le_trans (Nat.min_le_left _ _) ?_, rfl⟩
    omega
theorem fl_word (neg : Bool) (rung : Nat) : Ieee.double.word neg rung = if neg then 9223372036854775808 + rung else rung := by
  have : Ieee.double.signWeight = 9223372036854775808 := by decide
  unfold Ieee.Format.word
  rw [this]
theorem fl_read (w : Nat) : Ieee.double.read w = (if w % 9223372036854775808 < 4503599627370496 then .number (w / 9223372036854775808 % 2 == 1) (w % 9223372036854775808) (-1074)
    else if w % 9223372036854775808 < 9218868437227405312 then .number (w / 9223372036854775808 % 2 == 1) (4503599627370496 + w % 9223372036854775808 % 4503599627370496) (-1074 + ((w % 9223372036854775808 / 4503599627370496 - 1 : Nat) : Int))
    else if w % 9223372036854775808 = 9218868437227405312 then .infinity (w / 9223372036854775808 % 2 == 1) else .nan (w / 9223372036854775808 % 2 == 1) (w % 9223372036854775808 - 9218868437227405312)) := by
  have e0 : Ieee.double.signWeight = 9223372036854775808 := by decide
  have e1 : Ieee.double.leastPlace = -1074 := by decide
  have e3 : Ieee.double.binade = 4503599627370496 := by decide
  have e4 : Ieee.double.infRung = 9218868437227405312 := by decide
  unfold Ieee.Format.read
  rw [e0, e1, e3, e4]
theorem fl_max : Ieee.double.read 9218868437227405311 = .number false 9007199254740991 971 := by rw [fl_read]; decide
theorem fl_small (rung : Nat) (h : rung ≤ 9218868437227405311) : ∃ m i, Ieee.double.read rung = .number false m i ∧ m ≤ 9007199254740991 ∧ i ≤ 971 := by
  rw [fl_read, Nat.mod_eq_of_lt (by omega), Nat.div_eq_of_lt (by omega)]
  split
  · exact ⟨_, _, rfl, by omega, by omega⟩
  · rw [if_pos (by omega)]
    exact ⟨_, _, rfl, by omega, by omega⟩
theorem fl_gt (rung : Nat) (h : rung ≤ 9218868437227405311) : (Ieee.double.order rung 9218868437227405311 == some .gt) = false := by
  obtain ⟨m, i, h1, h2, h3⟩ := fl_small rung h
  unfold Ieee.Format.order
  rw [h1, fl_max]
  simp only [Ieee.Datum.order]
  rw [Int.min_eq_left h3]
  have : Ieee.signed false m (i - i).toNat ≤ Ieee.signed false 9007199254740991 (971 - i).toNat := by
    simp only [Ieee.signed, Int.sub_self, Int.toNat_zero, Nat.shiftLeft_zero, Bool.false_eq_true, if_false]
    rw [Nat.shiftLeft_eq]
    have := Nat.two_pow_pos (971 - i).toNat
    have : 9007199254740991 * 1 ≤ 9007199254740991 * 2 ^ (971 - i).toNat := Nat.mul_le_mul_left _ this
    omega
  generalize Ieee.signed false m (i - i).toNat = a at this
  generalize Ieee.signed false 9007199254740991 (971 - i).toNat = c at this
  have : compare a c ≠ .gt := by
    rw [Ne, Int.compare_eq_gt]
    omega
  generalize compare a c = o at this ⊢
  cases o <;> simp_all
theorem fl_fin (b : Nat) (neg : Bool) (rung : Nat) (h : rung ≤ 9218868437227405311) (hb : b = Ieee.double.word neg rung) :
    b < 18446744073709551616 ∧ b % 9223372036854775808 = rung ∧ (∃ s m i, Ieee.double.read b = .number s m i) := by
  rw [fl_word] at hb
  have h1 : b < 18446744073709551616 ∧ b % 9223372036854775808 = rung := by
    cases neg <;> simp at hb <;> omega
  refine ⟨h1.1, h1.2, ?_⟩
  rw [fl_read, h1.2]
  split
  · exact ⟨_, _, _, rfl⟩
  · rw [if_pos (by omega)]
    exact ⟨_, _, _, rfl⟩
theorem fl_self (b : Nat) (s : Bool) (m : Nat) (i : Int) (h : Ieee.double.read b = .number s m i) : (Ieee.double.order b b != some .eq) = false := by
  unfold Ieee.Format.order
  rw [h]
  simp only [Ieee.Datum.order]
  rw [show compare (Ieee.signed s m (i - min i i).toNat) (Ieee.signed s m (i - min i i).toNat) = .eq from by rw [Int.compare_eq_eq]]
  rfl
theorem fl_single (x : Nat) (hx : x < 4294967296) : Ieee.single.read x = (if x % 2147483648 < 8388608 then .number (x / 2147483648 % 2 == 1) (x % 2147483648) (-149)
    else if x % 2147483648 < 2139095040 then .number (x / 2147483648 % 2 == 1) (8388608 + x % 2147483648 % 8388608) (-149 + ((x % 2147483648 / 8388608 - 1 : Nat) : Int))
    else if x % 2147483648 = 2139095040 then .infinity (x / 2147483648 % 2 == 1) else .nan (x / 2147483648 % 2 == 1) (x % 2147483648 - 2139095040)) := by
  have e0 : Ieee.single.signWeight = 2147483648 := by decide
  have e1 : Ieee.single.leastPlace = -149 := by decide
  have e3 : Ieee.single.binade = 8388608 := by decide
  have e4 : Ieee.single.infRung = 2139095040 := by decide
  unfold Ieee.Format.read
  rw [e0, e1, e3, e4]
theorem fl_single_num (x : Nat) (hx : x < 4294967296) (h : x / 8388608 % 256 ≠ 255) : ∃ s m i, Ieee.single.read x = .number s m i ∧ m < 16777216 ∧ -149 ≤ i ∧ i ≤ 104 := by
  rw [fl_single x hx]
  split
  · exact ⟨_, _, _, rfl, by omega, by omega, by omega⟩
  · rw [if_pos (by omega)]
    exact ⟨_, _, _, rfl, by omega, by omega, by omega⟩
theorem fl_inf_gt : (Ieee.double.order 9218868437227405312 9218868437227405311 == some .gt) = true := by
  unfold Ieee.Format.order
  rw [fl_max, fl_read]
  decide
theorem fl_convert (x : Nat) (hx : x < 4294967296) (w : World) : ∃ (b : Nat) (w1 : World), (convert 152 151 (.float .f32 x)).run Tryd.prog w = .ok (.float .f64 b) w1 ∧ Drawn0 w w1 ∧
    ((!(FloatKind.f64.format.order (bits .andNot .u64 b 9223372036854775808).toNat 9218868437227405311 == some .gt)) && (!(FloatKind.f64.format.order b b != some .eq))) = (x / 8388608 % 256 != 255) := by
  have ha : (Tryd.prog.underlying 152).isSome = true := by kernel_rfl
  have hb : Tryd.prog.underlying 151 = some (.float .f64) := by kernel_rfl
  show ∃ (b : Nat) (w1 : World), _ ∧ _ ∧ ((!(Ieee.double.order (bits .andNot .u64 b 9223372036854775808).toNat 9218868437227405311 == some .gt)) && (!(Ieee.double.order b b != some .eq))) = _
  by_cases h : x / 8388608 % 256 = 255
  · have hr : (x / 8388608 % 256 != 255) = false := by simp [h]
    rw [hr]
    by_cases h1 : x % 2147483648 = 2139095040
    · have hd : FloatKind.f32.decode x = .infinity (x / 2147483648 % 2 == 1) := by
        show Ieee.single.read x = _
        rw [fl_single x hx, if_neg (by omega), if_neg (by omega), if_pos h1]
      refine ⟨_, w, run_convert_float_float w 152 151 .f32 .f64 x (FloatKind.f64.encode (.infinity (x / 2147483648 % 2 == 1))) ha hb (by unfold floatToFloatBits; rw [if_neg (by decide), hd]), Drawn0.refl w, ?_⟩
      have e : FloatKind.f64.encode (.infinity (x / 2147483648 % 2 == 1)) = Ieee.double.word (x / 2147483648 % 2 == 1) 9218868437227405312 := by
        show Ieee.double.word _ Ieee.double.infRung = _
        rw [show Ieee.double.infRung = 9218868437227405312 from by decide]
      rw [e, fl_word]
      have h2 : ∀ s : Bool, (bits .andNot .u64 (((if s then 9223372036854775808 + 9218868437227405312 else 9218868437227405312 : Nat)) : Int) 9223372036854775808).toNat = 9218868437227405312 := by decide
      rw [h2, fl_inf_gt]
      rfl
    · have hd : ∃ s f, FloatKind.f32.decode x = .nan s f := by
        refine ⟨x / 2147483648 % 2 == 1, x % 2147483648 - 2139095040, ?_⟩
        show Ieee.single.read x = _
        rw [fl_single x hx, if_neg (by omega), if_neg (by omega), if_neg h1]
      obtain ⟨s, f, hd⟩ := hd
      obtain ⟨u, hs'⟩ := Option.isSome_iff_exists.1 ha
      refine ⟨(Question.nanConv .f64 x).cut (w.tape w.drawn (.nanConv .f64 x)), w.drew, ?_, ⟨1, rfl⟩, ?_⟩
      · cases u <;> simp [convert, run_underlying hs', run_underlying hb, Conv.floatToFloat, hd, Question.forced]
      · generalize w.tape w.drawn (.nanConv .f64 x) = t
        have hb2 : (Question.nanConv .f64 x).cut t = t % 2 * 9223372036854775808 + 9218868437227405312 + 1 + t / 2 % 4503599627370495 := rfl
        rw [hb2]
        have hz : t / 2 % 4503599627370495 < 4503599627370495 := Nat.mod_lt _ (by omega)
        have ht : t % 2 < 2 := Nat.mod_lt _ (by omega)
        generalize t / 2 % 4503599627370495 = z at hz ⊢
        generalize t % 2 = s2 at ht ⊢
        have hr1 : ∀ q : Nat, q % 9223372036854775808 = 9218868437227405313 + z → ∃ s f, Ieee.double.read q = .nan s f := by
          intro q hq
          rw [fl_read, hq, if_neg (by omega), if_neg (by omega), if_neg (by omega)]
          exact ⟨_, _, rfl⟩
        obtain ⟨s3, f3, h3⟩ := hr1 (s2 * 9223372036854775808 + 9218868437227405312 + 1 + z) (by omega)
        rw [fl_and _ (by omega)]
        obtain ⟨s4, f4, h4⟩ := hr1 ((s2 * 9223372036854775808 + 9218868437227405312 + 1 + z) % 9223372036854775808) (by omega)
        unfold Ieee.Format.order
        rw [h3, h4]
        rfl
  · have hr : (x / 8388608 % 256 != 255) = true := by simp [h]
    rw [hr]
    obtain ⟨s, m, i, hd, hm, hi0, hi1⟩ := fl_single_num x hx h
    obtain ⟨rung, hrg, hw⟩ := fl_nearest s m i hm hi0 hi1
    obtain ⟨f1, f2, s5, m5, i5, f3⟩ := fl_fin (Ieee.double.nearest s m i) s rung hrg hw
    refine ⟨Ieee.double.nearest s m i, w, run_convert_float_float w 152 151 .f32 .f64 x _ ha hb ?_, Drawn0.refl w, ?_⟩
    · have hd' : FloatKind.f32.decode x = .number s m i := hd
      unfold floatToFloatBits
      rw [if_neg (by decide), hd']
      have he : FloatKind.f64.encode (.number s m i) = Ieee.double.nearest s m i := rfl
      have hf : (FloatKind.f64.decode (Ieee.double.nearest s m i)).isInfinity = false := by
        have : FloatKind.f64.decode (Ieee.double.nearest s m i) = .number s5 m5 i5 := f3
        rw [this]
        rfl
      dsimp only
      rw [he, hf]
      rfl
    · rw [fl_and _ f1, f2, fl_gt rung hrg, fl_self _ _ _ _ f3]
      rfl
def impl_finite.f (a0 : Int) : Option Bool := if 0 ≤ a0 ∧ a0 < 4294967296 then some (a0 / 8388608 % 256 != 255) else none
theorem impl_finite.calls (a0 : Int) (r : Bool) (w : World) (h : impl_finite.f a0 = some r) :
    Calls Tryd.prog 83 #[.int .u32 a0] w fun e w' => e = .returned (.bool r) ∧ Drawn0 w w' := by
  unfold impl_finite.f at h
  by_cases hr : 0 ≤ a0 ∧ a0 < 4294967296
  · rw [if_pos hr] at h
    obtain rfl := Option.some.inj h
    obtain ⟨n, rfl⟩ := Int.eq_ofNat_of_zero_le hr.1
    obtain ⟨b, w1, h1, h2, h3⟩ := fl_convert n (by omega) w
    refine finite_calls (n : Int) b _ w w1 (by simpa using h1) h2 ?_
    rw [h3]
    have e : (((n : Nat) : Int) / 8388608 % 256 != 255) = (n / 8388608 % 256 != 255) := by
      by_cases hn : n / 8388608 % 256 = 255
      · rw [bne_eq_false_iff_eq.2 hn, bne_eq_false_iff_eq.2 (by omega)]
      · rw [bne_iff_ne.2 hn, bne_iff_ne.2 (by omega)]
    exact e
  · rw [if_neg hr] at h
    cases h

/-! ### impl_bytesIn_float: function 77 -/
def impl_bytesIn_float.f (k : Nat) (s0_0 : List Int) (s0_1 : Int) : Option (Int × Int) := (impl_bytesIn_num.f k s0_0 s0_1 4).bind fun bt183 => ((impl_finite.f bt183.1).bind fun t185 => (if t185 = true then (some (bt183.1, bt183.2)) else ((impl_bytesIn_stop.f s0_0 bt183.2 6 (wrap64 (bt183.2 - 4))).bind fun t186 => (some (bt183.1, t186)))))
theorem impl_bytesIn_float.mono : ∀ a0 a1 k, LeO (impl_bytesIn_float.f k a0 a1) (impl_bytesIn_float.f (k + 1) a0 a1) := by
 intro a0 a1 k
 unfold impl_bytesIn_float.f
 repeat' with_reducible first | exact impl_bytesIn_num.mono _ _ _ _ | exact LeO.refl _ | exact LeO.none _ | refine LeO.ite ?_ ?_ | refine LeO.bind ?_ (fun _ => ?_)
theorem impl_bytesIn_float.calls (k : Nat) (g : Nat) (s0_0 : List Int) (s0_1 : Int) (r1 : Int) (r2 : Int) (w0 w : World) (hI : IsS98 w0 w g s0_0 s0_1) (hB : Below w0.heap.size w0 w) (h : impl_bytesIn_float.f k s0_0 s0_1 = some (r1, r2)) :
 Calls Tryd.prog 77 #[.pointer (some ⟨g, 0, none⟩)] w fun e w' => e = .returned (.int .u32 r1) ∧ IsS98 w0 w' g s0_0 r2 ∧ Below w0.heap.size w0 w' ∧ KeepBut w w' g none := by
 have HI0 := AM hI; have HK := AM (KeepBut.refl w g none); have HL := AM hB.size; clear hI; have HW0 := AM hB.size; have HB := AM hB; clear hB
 have H : ((impl_bytesIn_num.f k s0_0 s0_1 4).bind fun bt183 => ((impl_finite.f bt183.1).bind fun t185 => (if t185 = true then (some (bt183.1, bt183.2)) else ((impl_bytesIn_stop.f s0_0 bt183.2 6 (wrap64 (bt183.2 - 4))).bind fun t186 => (some (bt183.1, t186)))))) = some (r1, r2) := h
 clear h
 replace H := Option.bind_eq_some_iff.mp H
 obtain ⟨⟨t183, t184⟩, A20, H⟩ := H
 (try dsimp only at H)
 have A2 := AM A20; clear A20
 replace H := Option.bind_eq_some_iff.mp H
 obtain ⟨t185, A30, H⟩ := H
 (try dsimp only at H)
 have A3 := AM A30; clear A30
 by_cases c4 : t185 = true
 · subst c4
   have H1 : (some (t183, t184)) = some (r1, r2) := by rw [if_pos rfl] at H; exact H
   clear H; have H := H1; clear H1
   simp only [Option.some.injEq, Prod.mk.injEq] at H
   obtain ⟨rfl, rfl⟩ := H
   go_enter Tryd.func77, Tryd.ntmps77
   go_wp2_with (first | ((with_reducible refine gate_callee (f := 76) rfl ?_); refine goesL_ (some 5) rfl rfl Tryd.func76 (by kernel_rfl) rfl #[.pointer (some ⟨g, 0, none⟩), .int .i64 4] rfl hM ?_; (with_reducible refine (impl_bytesIn_num.calls k g s0_0 s0_1 4 t183 t184 w0 _ ?side1 ?side2 A2.out).mono ?_); (case side1 => repeat (first | (with_reducible first | exact HI0.out | apply IsS98.alloc | apply IsS98.drewN | apply IsS98.drew | apply IsS98.set_1) | exact HI0.out)); (case side2 => repeat (first | (with_reducible first | exact HB.out | apply below_alloc | apply pw_below_drewN | apply below_drew1 | refine below_set ?_ (IsS98.ge HI0.out)) | exact HB.out)); rintro e w5 ⟨rfl, hi, hb, hk⟩; refine ⟨_, rfl, ?_⟩; replace HK := AM (KeepBut.trans (by repeat (first | (with_reducible first | exact HK.out | apply KeepBut.set_ | apply keep_drewN | apply keep_drew | apply keep_alloc) | exact HK.out)) hk (.inl rfl)); replace HB := AM (hb); replace HI0 := AM (hi); (try clear hb); (try clear hb2); (try clear hk); (try clear hi)) | ((with_reducible refine gate_callee (f := 83) rfl ?_); refine goesL_ (some 7) rfl rfl Tryd.func83 (by kernel_rfl) rfl #[.int .u32 t183] rfl hM ?_; (with_reducible refine (impl_finite.calls t183 true _ A3.out).mono ?_); rintro e w' ⟨rfl, ⟨nd, rfl⟩⟩; refine ⟨_, rfl, ?_⟩))
   go_ret
   exact ⟨eW, by repeat (first | (with_reducible first | exact HI0.out | apply IsS98.alloc | apply IsS98.drewN | apply IsS98.drew | apply IsS98.set_1) | exact HI0.out), by repeat (first | (with_reducible first | exact HB.out | apply below_alloc | apply pw_below_drewN | apply below_drew1 | refine below_set ?_ (IsS98.ge HI0.out)) | exact HB.out), by repeat (first | (with_reducible first | exact HK.out | apply KeepBut.set_ | apply keep_drewN | apply keep_drew | apply keep_alloc) | exact HK.out)⟩
 replace c4 := Bool.eq_false_iff.mpr c4
 subst c4
 have H1 : ((impl_bytesIn_stop.f s0_0 t184 6 (wrap64 (t184 - 4))).bind fun t186 => (some (t183, t186))) = some (r1, r2) := by rw [if_neg (show ¬ (false = true) by decide)] at H; exact H
 clear H; have H := H1; clear H1
 replace H := Option.bind_eq_some_iff.mp H
 obtain ⟨t186, A60, H⟩ := H
 (try dsimp only at H)
 have A6 := AM A60; clear A60
 simp only [Option.some.injEq, Prod.mk.injEq] at H
 obtain ⟨rfl, rfl⟩ := H
 go_enter Tryd.func77, Tryd.ntmps77
 go_wp2_with (first | ((with_reducible refine gate_callee (f := 76) rfl ?_); refine goesL_ (some 5) rfl rfl Tryd.func76 (by kernel_rfl) rfl #[.pointer (some ⟨g, 0, none⟩), .int .i64 4] rfl hM ?_; (with_reducible refine (impl_bytesIn_num.calls k g s0_0 s0_1 4 t183 t184 w0 _ ?side1 ?side2 A2.out).mono ?_); (case side1 => repeat (first | (with_reducible first | exact HI0.out | apply IsS98.alloc | apply IsS98.drewN | apply IsS98.drew | apply IsS98.set_1) | exact HI0.out)); (case side2 => repeat (first | (with_reducible first | exact HB.out | apply below_alloc | apply pw_below_drewN | apply below_drew1 | refine below_set ?_ (IsS98.ge HI0.out)) | exact HB.out)); rintro e w7 ⟨rfl, hi, hb, hk⟩; refine ⟨_, rfl, ?_⟩; replace HK := AM (KeepBut.trans (by repeat (first | (with_reducible first | exact HK.out | apply KeepBut.set_ | apply keep_drewN | apply keep_drew | apply keep_alloc) | exact HK.out)) hk (.inl rfl)); replace HB := AM (hb); replace HI0 := AM (hi); (try clear hb); (try clear hb2); (try clear hk); (try clear hi)) | ((with_reducible refine gate_callee (f := 83) rfl ?_); refine goesL_ (some 7) rfl rfl Tryd.func83 (by kernel_rfl) rfl #[.int .u32 t183] rfl hM ?_; (with_reducible refine (impl_finite.calls t183 false _ A3.out).mono ?_); rintro e w' ⟨rfl, ⟨nd, rfl⟩⟩; refine ⟨_, rfl, ?_⟩; obtain ⟨ASz8_0, cSz8_0, HGz8, hgz8, HSz8_0⟩ := HI0.out; have hcz8_0 := cellS98_0 HGz8; have hcz8_1 := cellS98_1 HGz8; have hfz8_1 := blk_frozen HGz8 1; clear HGz8 hgz8) | ((with_reducible refine gate_callee (f := 65) rfl ?_); refine goesL_ (some 15) rfl rfl Tryd.func65 (by kernel_rfl) rfl #[.pointer (some ⟨g, 0, none⟩), .int .i64 6, .int .i64 (wrap64 (t184 - 4))] rfl hM ?_; (with_reducible refine (impl_bytesIn_stop.calls g s0_0 t184 6 (wrap64 (t184 - 4)) t186 w0 _ ?side1 ?side2 A6.out).mono ?_); (case side1 => repeat (first | (with_reducible first | exact HI0.out | apply IsS98.alloc | apply IsS98.drewN | apply IsS98.drew | apply IsS98.set_1) | exact HI0.out)); (case side2 => repeat (first | (with_reducible first | exact HB.out | apply below_alloc | apply pw_below_drewN | apply below_drew1 | refine below_set ?_ (IsS98.ge HI0.out)) | exact HB.out)); rintro e w9 ⟨rfl, hi, hb, hk⟩; refine ⟨_, rfl, ?_⟩; replace HK := AM (KeepBut.trans (by repeat (first | (with_reducible first | exact HK.out | apply KeepBut.set_ | apply keep_drewN | apply keep_drew | apply keep_alloc) | exact HK.out)) hk (.inl rfl)); replace HB := AM (hb); replace HI0 := AM (hi); (try clear hb); (try clear hb2); (try clear hk); (try clear hi)))
 go_ret
 exact ⟨eW, by repeat (first | (with_reducible first | exact HI0.out | apply IsS98.alloc | apply IsS98.drewN | apply IsS98.drew | apply IsS98.set_1) | exact HI0.out), by repeat (first | (with_reducible first | exact HB.out | apply below_alloc | apply pw_below_drewN | apply below_drew1 | refine below_set ?_ (IsS98.ge HI0.out)) | exact HB.out), by repeat (first | (with_reducible first | exact HK.out | apply KeepBut.set_ | apply keep_drewN | apply keep_drew | apply keep_alloc) | exact HK.out)⟩

/-! ### impl_bytesIn_point: function 67 -/
def impl_bytesIn_point.f (k : Nat) (s0_0 : List Int) (s0_1 : Int) : Option (Int × Int × Int × Int) := (impl_bytesIn_float.f k s0_0 s0_1).bind fun bt188 => ((impl_bytesIn_float.f k s0_0 bt188.2).bind fun bt190 => ((impl_bytesIn_float.f k s0_0 bt190.2).bind fun bt192 => (some (bt188.1, bt190.1, bt192.1, bt192.2))))
theorem impl_bytesIn_point.mono : ∀ a0 a1 k, LeO (impl_bytesIn_point.f k a0 a1) (impl_bytesIn_point.f (k + 1) a0 a1) := by
 intro a0 a1 k
 unfold impl_bytesIn_point.f
 repeat' with_reducible first | exact impl_bytesIn_float.mono _ _ _ | exact LeO.refl _ | exact LeO.none _ | refine LeO.ite ?_ ?_ | refine LeO.bind ?_ (fun _ => ?_)
theorem impl_bytesIn_point.calls (k : Nat) (g : Nat) (s0_0 : List Int) (s0_1 : Int) (r1 : Int) (r2 : Int) (r3 : Int) (r4 : Int) (w0 w : World) (hI : IsS98 w0 w g s0_0 s0_1) (hB : Below w0.heap.size w0 w) (h : impl_bytesIn_point.f k s0_0 s0_1 = some (r1, r2, r3, r4)) :
 Calls Tryd.prog 67 #[.pointer (some ⟨g, 0, none⟩)] w fun e w' => e = .returned (.agg #[.int .u32 r1, .int .u32 r2, .int .u32 r3]) ∧ IsS98 w0 w' g s0_0 r4 ∧ Below w0.heap.size w0 w' ∧ KeepBut w w' g none := by
 have hu67 := Tryd.underlying67; have HI0 := AM hI; have HK := AM (KeepBut.refl w g none); have HL := AM hB.size; clear hI; have HW0 := AM hB.size; have HB := AM hB; clear hB
 have H : ((impl_bytesIn_float.f k s0_0 s0_1).bind fun bt188 => ((impl_bytesIn_float.f k s0_0 bt188.2).bind fun bt190 => ((impl_bytesIn_float.f k s0_0 bt190.2).bind fun bt192 => (some (bt188.1, bt190.1, bt192.1, bt192.2))))) = some (r1, r2, r3, r4) := h
 clear h
 replace H := Option.bind_eq_some_iff.mp H
 obtain ⟨⟨t188, t189⟩, A20, H⟩ := H
 (try dsimp only at H)
 have A2 := AM A20; clear A20
 replace H := Option.bind_eq_some_iff.mp H
 obtain ⟨⟨t190, t191⟩, A30, H⟩ := H
 (try dsimp only at H)
 have A3 := AM A30; clear A30
 replace H := Option.bind_eq_some_iff.mp H
 obtain ⟨⟨t192, t193⟩, A40, H⟩ := H
 (try dsimp only at H)
 have A4 := AM A40; clear A40
 simp only [Option.some.injEq, Prod.mk.injEq] at H
 obtain ⟨rfl, rfl, rfl, rfl⟩ := H
 go_enter Tryd.func67, Tryd.ntmps67
 go_wp2_with (first | ((with_reducible refine gate_dst (N := 2) rfl ?_); refine box_event ?hg (N := 2) ?hd (cs := #[.int .u32 0, .int .u32 0, .int .u32 0]) (t := 67) ?hr ?_; (case hd => rfl); (case hg => rfl); (case hr => first | (go_simp; done) | (go_simp; rfl)); intro gb187 hg w5 hbox hb; replace HB := AM (below_step (by repeat (first | (with_reducible first | exact HB.out | apply below_alloc | apply pw_below_drewN | apply below_drew1 | refine below_set ?_ (IsS98.ge HI0.out)) | exact HB.out)) hb); have BK187 := AM (hbox); have GW187 := AM ((by rw [hg]; exact (keep_size (w := w) (g := g) (row := none) (by repeat (first | (with_reducible first | exact HK.out | apply KeepBut.set_ | apply keep_drewN | apply keep_drew | apply keep_alloc) | exact HK.out))) : w.heap.size ≤ gb187)); have GE187 := AM ((Nat.le_trans HW0.out (by rw [hg]; exact (keep_size (w := w) (g := g) (row := none) (by repeat (first | (with_reducible first | exact HK.out | apply KeepBut.set_ | apply keep_drewN | apply keep_drew | apply keep_alloc) | exact HK.out))) : w.heap.size ≤ gb187) : w0.heap.size ≤ gb187)); replace HK := AM (KeepBut.trans (by repeat (first | (with_reducible first | exact HK.out | apply KeepBut.set_ | apply keep_drewN | apply keep_drew | apply keep_alloc) | exact HK.out)) (KeepBut.of_below hb g none) (.inl rfl)); have NB0_187 := AM ((by rw [hg]; exact Nat.ne_of_lt (IsS98.lt (show IsS98 w0 _ g s0_0 s0_1 from by repeat (first | (with_reducible first | exact HI0.out | apply IsS98.alloc | apply IsS98.drewN | apply IsS98.drew | apply IsS98.set_1) | exact HI0.out))) : g ≠ gb187)); have NB187_0 := AM ((by rw [hg]; exact Nat.ne_of_gt (IsS98.lt (show IsS98 w0 _ g s0_0 s0_1 from by repeat (first | (with_reducible first | exact HI0.out | apply IsS98.alloc | apply IsS98.drewN | apply IsS98.drew | apply IsS98.set_1) | exact HI0.out))) : gb187 ≠ g)); replace HI0 := AM (IsS98.below (by repeat (first | (with_reducible first | exact HI0.out | apply IsS98.alloc | apply IsS98.drewN | apply IsS98.drew | apply IsS98.set_1) | exact HI0.out)) hb); clear hb hbox hg) | ((with_reducible refine gate_callee (f := 77) rfl ?_); refine goesL_ (some 6) rfl rfl Tryd.func77 (by kernel_rfl) rfl #[.pointer (some ⟨g, 0, none⟩)] rfl hM ?_; (with_reducible refine (impl_bytesIn_float.calls k g s0_0 s0_1 t188 t189 w0 _ ?side1 ?side2 A2.out).mono ?_); (case side1 => repeat (first | (with_reducible first | exact HI0.out | apply IsS98.alloc | apply IsS98.drewN | apply IsS98.drew | apply IsS98.set_1 | refine IsS98.far ?_ NB0_187.out _) | exact HI0.out)); (case side2 => repeat (first | (with_reducible first | exact HB.out | apply below_alloc | apply pw_below_drewN | apply below_drew1 | refine below_set ?_ (IsS98.ge HI0.out) | refine below_set ?_ GE187.out) | exact HB.out)); rintro e w6 ⟨rfl, hi, hb, hk⟩; refine ⟨_, rfl, ?_⟩; replace BK187 := AM (KeepBut.blk hk (g' := gb187) (o := .cells #[.int .u32 0, .int .u32 0, .int .u32 0] 67 (0, 0)) (pB BK187) NB187_0.out (by simp)); replace HK := AM (KeepBut.trans (by repeat (first | (with_reducible first | exact HK.out | apply KeepBut.set_ | apply keep_drewN | apply keep_drew | apply keep_alloc | refine keep_far ?_ GW187.out _) | exact HK.out)) hk (.inl rfl)); replace HB := AM (hb); replace HI0 := AM (hi); (try clear hb); (try clear hb2); (try clear hk); (try clear hi)) | ((with_reducible refine gate_callee (f := 77) rfl ?_); refine goesL_ (some 8) rfl rfl Tryd.func77 (by kernel_rfl) rfl #[.pointer (some ⟨g, 0, none⟩)] rfl hM ?_; (with_reducible refine (impl_bytesIn_float.calls k g s0_0 t189 t190 t191 w0 _ ?side1 ?side2 A3.out).mono ?_); (case side1 => repeat (first | (with_reducible first | exact HI0.out | apply IsS98.alloc | apply IsS98.drewN | apply IsS98.drew | apply IsS98.set_1 | refine IsS98.far ?_ NB0_187.out _) | exact HI0.out)); (case side2 => repeat (first | (with_reducible first | exact HB.out | apply below_alloc | apply pw_below_drewN | apply below_drew1 | refine below_set ?_ (IsS98.ge HI0.out) | refine below_set ?_ GE187.out) | exact HB.out)); rintro e w7 ⟨rfl, hi, hb, hk⟩; refine ⟨_, rfl, ?_⟩; replace BK187 := AM (KeepBut.blk hk (g' := gb187) (o := .cells #[.int .u32 0, .int .u32 0, .int .u32 0] 67 (0, 0)) (pB BK187) NB187_0.out (by simp)); replace HK := AM (KeepBut.trans (by repeat (first | (with_reducible first | exact HK.out | apply KeepBut.set_ | apply keep_drewN | apply keep_drew | apply keep_alloc | refine keep_far ?_ GW187.out _) | exact HK.out)) hk (.inl rfl)); replace HB := AM (hb); replace HI0 := AM (hi); (try clear hb); (try clear hb2); (try clear hk); (try clear hi)) | ((with_reducible refine gate_callee (f := 77) rfl ?_); refine goesL_ (some 12) rfl rfl Tryd.func77 (by kernel_rfl) rfl #[.pointer (some ⟨g, 0, none⟩)] rfl hM ?_; (with_reducible refine (impl_bytesIn_float.calls k g s0_0 t191 t192 t193 w0 _ ?side1 ?side2 A4.out).mono ?_); (case side1 => repeat (first | (with_reducible first | exact HI0.out | apply IsS98.alloc | apply IsS98.drewN | apply IsS98.drew | apply IsS98.set_1 | refine IsS98.far ?_ NB0_187.out _) | exact HI0.out)); (case side2 => repeat (first | (with_reducible first | exact HB.out | apply below_alloc | apply pw_below_drewN | apply below_drew1 | refine below_set ?_ (IsS98.ge HI0.out) | refine below_set ?_ GE187.out) | exact HB.out)); rintro e w8 ⟨rfl, hi, hb, hk⟩; refine ⟨_, rfl, ?_⟩; replace BK187 := AM (KeepBut.blk hk (g' := gb187) (o := .cells #[.int .u32 0, .int .u32 0, .int .u32 0] 67 (0, 0)) (pB BK187) NB187_0.out (by simp)); replace HK := AM (KeepBut.trans (by repeat (first | (with_reducible first | exact HK.out | apply KeepBut.set_ | apply keep_drewN | apply keep_drew | apply keep_alloc | refine keep_far ?_ GW187.out _) | exact HK.out)) hk (.inl rfl)); replace HB := AM (hb); replace HI0 := AM (hi); (try clear hb); (try clear hb2); (try clear hk); (try clear hi); have hnb9 := NB187_0.out; have hnc9 := NB0_187.out; have ⟨hcz10_0, hcz10_1, hcz10_2, hfz10_0, hfz10_1, hfz10_2⟩ := z3 BK187))
 refine bodyPost_ret (results_cell_row rfl _ _ gb187 67 #[.int .u32 t188, .int .u32 t190, .int .u32 t192] (0, 0) _ rfl (by refine sB ?_; refine blk_put (cs := #[.int .u32 t188, .int .u32 t190, .int .u32 0]) ?_ 2 _ rfl; refine sB ?_; refine blk_put (cs := #[.int .u32 t188, .int .u32 0, .int .u32 0]) ?_ 1 _ rfl; refine sB ?_; refine blk_put (cs := #[.int .u32 0, .int .u32 0, .int .u32 0]) ?_ 0 _ rfl; refine sB ?_; exact BK187.out) Tryd.underlying67 rfl (by kernel_rfl)) rfl ?_
 exact ⟨eW, by repeat (first | (with_reducible first | exact HI0.out | apply IsS98.alloc | apply IsS98.drewN | apply IsS98.drew | apply IsS98.set_1 | refine IsS98.far ?_ NB0_187.out _) | exact HI0.out), by repeat (first | (with_reducible first | exact HB.out | apply below_alloc | apply pw_below_drewN | apply below_drew1 | refine below_set ?_ (IsS98.ge HI0.out) | refine below_set ?_ GE187.out) | exact HB.out), by repeat (first | (with_reducible first | exact HK.out | apply KeepBut.set_ | apply keep_drewN | apply keep_drew | apply keep_alloc | refine keep_far ?_ GW187.out _) | exact HK.out)⟩

/-! ### impl_Point_zero: function 68 -/
def impl_Point_zero.f (a0_0 : Int) (a0_1 : Int) (a0_2 : Int) : Option (Bool) := some ((((Go.bits .or .u32 (Go.bits .or .u32 a0_0 a0_1) a0_2) * 2) % 4294967296) == 0)
theorem impl_Point_zero.calls (a0_0 : Int) (a0_1 : Int) (a0_2 : Int) (r : Bool) (w : World) (h : impl_Point_zero.f a0_0 a0_1 a0_2 = some r) :
 Calls Tryd.prog 68 #[.agg #[.int .u32 a0_0, .int .u32 a0_1, .int .u32 a0_2]] w fun e w' => e = .returned (.bool r) ∧ Below w.heap.size w w' := by
 have hu67 := Tryd.underlying67; have HB := AM (Below.refl w.heap.size w)
 have H : (some ((((Go.bits .or .u32 (Go.bits .or .u32 a0_0 a0_1) a0_2) * 2) % 4294967296) == 0)) = some r := h
 clear h
 obtain rfl := Option.some.inj H
 go_enter Tryd.func68, Tryd.ntmps68
 go_wp2_with (first | ((with_reducible refine gate_dst (N := 1) rfl ?_); refine box_event ?hg (N := 1) ?hd (cs := #[.int .u32 a0_0, .int .u32 a0_1, .int .u32 a0_2]) (t := 67) ?hr ?_; (case hd => rfl); (case hg => rfl); (case hr => first | (go_simp; done) | (go_simp; rfl)); intro gb194 hg w2 hbox hb; have BK194 := AM (hbox); have GW194 := gH HB hg; have GE194 := gH HB hg; replace HB := AM (below_step (pH HB) hb); clear hb hbox hg; have ⟨hcz3_0, hcz3_1, hcz3_2, hfz3_0, hfz3_1, hfz3_2⟩ := z3 BK194))
 go_ret
 exact ⟨eW, pH HB⟩

end Go.Proofs.YtcpdeenhjodmfaaDoor.QDecodeScene
