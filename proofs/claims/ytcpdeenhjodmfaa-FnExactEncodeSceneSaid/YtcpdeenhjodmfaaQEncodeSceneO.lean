-- Written by wip/tools/mkprint.py (my program) out of the translation, for this claim. Not trusted: Lean checks it.
import Derived.Test.YtcpdeenhjodmfaaQEncodeScenex8
import Derived.ChangeArms
import Derived.DataReads
namespace Go.Proofs.Ytcpdeenhjodmfaa.QEncodeScene
open Go.RowKit Go.Proofs.YtcpdeenhjodmfaaW.PrintWords Go.Proofs.YtcpdeenhjodmfaaW.PrintLast Go.Proofs.YtcpdeenhjodmfaaW.PrintMore
set_option linter.unusedVariables false
set_option linter.unusedSimpArgs false
theorem add_of_add_ (a : Addr) (i j : Nat) : (a.add i).add j = a.add (i + j) := by
  unfold Addr.add
  by_cases hi : i = 0 <;> by_cases hj : j = 0 <;> simp [hi, hj, Nat.add_assoc]
/-- Whatever memory reads as data of type t is of the kind d, and fits. -/
def Opens {α : Type} (P : Program) (t : TypeId) (d : Kd α) (F : α → Prop) : Prop :=
  ∀ (H : Type) (enc : TypeId × Value → H) (w : World) (base : Nat) (spare : Nat → Bool) (held : Bool) (fuel : Nat) (cs : List Value) (x : DataW H × List MemPlace),
    DataW.trod enc P w base spare held fuel t cs = some x → ∃ y : α, d.K w y cs ∧ F y
theorem opens_int {P : Program} {t : TypeId} {k : IntKind} (ht : P.underlying t = some (.int k)) : Opens P t (Kd.int k) (fun y => (Lit.int k y).wf = true) := by
  intro H enc w base spare held fuel cs x h
  obtain ⟨n, rfl, _, hn⟩ := DataW.trod_int ht h
  exact ⟨n, rfl, hn⟩
theorem opens_bool {P : Program} {t : TypeId} (ht : P.underlying t = some .bool) : Opens P t Kd.bool (fun _ => True) := by
  intro H enc w base spare held fuel cs x h
  obtain ⟨b, rfl, _⟩ := DataW.trod_bool ht h
  exact ⟨b, rfl, trivial⟩
theorem choose_list {α : Type} {R : Nat → α → Prop} : ∀ n : Nat, (∀ i, i < n → ∃ y, R i y) → ∃ ys : List α, ys.length = n ∧ ∀ i y, ys[i]? = some y → R i y
  | 0, _ => ⟨[], rfl, fun i y h => by simp at h⟩
  | n + 1, h => by
    obtain ⟨ys, hl, hr⟩ := choose_list n (fun i hi => h i (by omega))
    obtain ⟨y, hy⟩ := h n (by omega)
    refine ⟨ys ++ [y], by simp [hl], fun i z hz => ?_⟩
    rcases Nat.lt_or_ge i ys.length with hi | hi
    · rw [List.getElem?_append_left hi] at hz
      exact hr i z hz
    · have hlt := (List.getElem?_eq_some_iff.1 hz).1
      rw [List.length_append, List.length_singleton] at hlt
      obtain rfl : i = ys.length := by omega
      have : y = z := by simpa using hz
      subst this
      rw [hl]
      exact hy
theorem opens_slice {α : Type} {P : Program} {t e : TypeId} {d : Kd α} {F : α → Prop} (ht : P.underlying t = some (.slice e)) (hsz : P.cellsOf e = d.sz) (h0 : 0 < d.sz) (ho : Opens P e d F) :
    Opens P t (Kd.slice e d) (fun ys => ys.length ≤ 9223372036854775807 ∧ ∀ y ∈ ys, F y) := by
  intro H enc w base spare held fuel cs x h
  rcases DataW.trod_slice ht h with ⟨rfl, _⟩ | ⟨a, len, cap, elems, rest, n, _, rfl, _, hb, hl, hm, hlen, hel, _, _⟩
  · exact ⟨[], ⟨none, 0, rfl, Nat.le_refl _, rfl, by simp, fun h => absurd h (Nat.lt_irrefl 0)⟩, by simp, by simp⟩
  · have hx : ∀ i, i < len → ∃ y, (∃ c : List Value, c.length = d.sz ∧ d.K w y c ∧ ∀ (j : Nat) (u : Value), c[j]? = some u → w.cell? (a.add (i * d.sz + j)) = some u) ∧ F y := by
      intro i hi
      have h1 := hel i hi
      rw [List.getElem?_eq_getElem (by omega)] at h1
      simp only [Option.bind_eq_some_iff] at h1
      obtain ⟨c, hc, htr⟩ := h1
      obtain ⟨y, hK, hF⟩ := ho H enc w base spare held n c _ htr
      obtain ⟨_, hcl, hcc⟩ := World.cells?_some hc
      rw [hsz] at hcl hcc
      refine ⟨y, ⟨c, hcl, hK, fun j u hu => ?_⟩, hF⟩
      have hj : j < d.sz := by have := (List.getElem?_eq_some_iff.1 hu).1; omega
      have := hcc j hj
      rw [add_of_add_] at this
      exact this.trans hu
    obtain ⟨ys, hyl, hy⟩ := choose_list len hx
    have hmx : ys.length ≤ 9223372036854775807 := by
      simp only [maxLen] at hm
      omega
    refine ⟨ys, ⟨some a, cap, by rw [hyl], by omega, rfl, hmx, fun _ => ⟨a, rfl, fun j p hj => (hy j p hj).1⟩⟩, hmx, fun y hyy => ?_⟩
    obtain ⟨i, hi, rfl⟩ := List.mem_iff_getElem.1 hyy
    exact (hy i _ (List.getElem?_eq_getElem hi)).2

theorem list3 {α : Type} {l : List α} (h : l.length = 3) : ∃ a0 a1 a2, l = [a0, a1, a2] := by
  match l, h with
  | [a0, a1, a2], _ => exact ⟨a0, a1, a2, rfl⟩
theorem list6 {α : Type} {l : List α} (h : l.length = 6) : ∃ a0 a1 a2 a3 a4 a5, l = [a0, a1, a2, a3, a4, a5] := by
  match l, h with
  | [a0, a1, a2, a3, a4, a5], _ => exact ⟨a0, a1, a2, a3, a4, a5, rfl⟩
theorem list9 {α : Type} {l : List α} (h : l.length = 9) : ∃ a0 a1 a2 a3 a4 a5 a6 a7 a8, l = [a0, a1, a2, a3, a4, a5, a6, a7, a8] := by
  match l, h with
  | [a0, a1, a2, a3, a4, a5, a6, a7, a8], _ => exact ⟨a0, a1, a2, a3, a4, a5, a6, a7, a8, rfl⟩
def W173 (x : S173) : Prop := (Lit.int .u32 x.f0).wf = true ∧ (Lit.int .u32 x.f1).wf = true ∧ (Lit.int .u32 x.f2).wf = true
theorem opens173 : Opens Try.prog 173 k173 W173 := by
  intro H enc w base spare held fuel cs x h
  obtain ⟨xs, n, _, _, hlen, hxl, hf⟩ := DataW.trod_struct Try.underlying173 h
  have hl : cs.length = 3 := hlen.trans (by kernel_rfl)
  obtain ⟨c0, c1, c2, rfl⟩ := list3 hl
  have g0 : DataW.trod enc Try.prog w base spare held n 50 (([c0, c1, c2].drop 0).take (Try.prog.cellsOf 50)) = xs[0]? := by
    have g := hf 0 _ rfl
    exact g
  rw [show Try.prog.cellsOf 50 = 1 from by kernel_rfl] at g0
  obtain ⟨z0, hz0⟩ : ∃ z, xs[0]? = some z := ⟨_, List.getElem?_eq_getElem (by rw [hxl]; decide)⟩
  obtain ⟨y0, K0, w0⟩ := (opens_int (k := .u32) Try.underlying50) _ _ _ _ _ _ _ _ _ (show DataW.trod enc Try.prog w base spare held n 50 [c0] = some z0 from g0.trans hz0)
  have g1 : DataW.trod enc Try.prog w base spare held n 50 (([c0, c1, c2].drop 1).take (Try.prog.cellsOf 50)) = xs[1]? := by
    have g := hf 1 _ rfl
    exact g
  rw [show Try.prog.cellsOf 50 = 1 from by kernel_rfl] at g1
  obtain ⟨z1, hz1⟩ : ∃ z, xs[1]? = some z := ⟨_, List.getElem?_eq_getElem (by rw [hxl]; decide)⟩
  obtain ⟨y1, K1, w1⟩ := (opens_int (k := .u32) Try.underlying50) _ _ _ _ _ _ _ _ _ (show DataW.trod enc Try.prog w base spare held n 50 [c1] = some z1 from g1.trans hz1)
  have g2 : DataW.trod enc Try.prog w base spare held n 50 (([c0, c1, c2].drop 2).take (Try.prog.cellsOf 50)) = xs[2]? := by
    have g := hf 2 _ rfl
    exact g
  rw [show Try.prog.cellsOf 50 = 1 from by kernel_rfl] at g2
  obtain ⟨z2, hz2⟩ : ∃ z, xs[2]? = some z := ⟨_, List.getElem?_eq_getElem (by rw [hxl]; decide)⟩
  obtain ⟨y2, K2, w2⟩ := (opens_int (k := .u32) Try.underlying50) _ _ _ _ _ _ _ _ _ (show DataW.trod enc Try.prog w base spare held n 50 [c2] = some z2 from g2.trans hz2)
  exact ⟨⟨y0, y1, y2⟩, ⟨[c0], [c1, c2], rfl, K0, ⟨[c1], [c2], rfl, K1, K2⟩⟩, ⟨w0, w1, w2⟩⟩
def W175 (x : S175) : Prop := W173 x.f0 ∧ W173 x.f1 ∧ W173 x.f2
theorem opens175 : Opens Try.prog 175 k175 W175 := by
  intro H enc w base spare held fuel cs x h
  obtain ⟨xs, n, _, _, hlen, hxl, hf⟩ := DataW.trod_struct Try.underlying175 h
  have hl : cs.length = 9 := hlen.trans (by kernel_rfl)
  obtain ⟨c0, c1, c2, c3, c4, c5, c6, c7, c8, rfl⟩ := list9 hl
  have g0 : DataW.trod enc Try.prog w base spare held n 173 (([c0, c1, c2, c3, c4, c5, c6, c7, c8].drop 0).take (Try.prog.cellsOf 173)) = xs[0]? := by
    have g := hf 0 _ rfl
    exact g
  rw [show Try.prog.cellsOf 173 = 3 from by kernel_rfl] at g0
  obtain ⟨z0, hz0⟩ : ∃ z, xs[0]? = some z := ⟨_, List.getElem?_eq_getElem (by rw [hxl]; decide)⟩
  obtain ⟨y0, K0, w0⟩ := opens173 _ _ _ _ _ _ _ _ _ (show DataW.trod enc Try.prog w base spare held n 173 [c0, c1, c2] = some z0 from g0.trans hz0)
  have g1 : DataW.trod enc Try.prog w base spare held n 173 (([c0, c1, c2, c3, c4, c5, c6, c7, c8].drop 3).take (Try.prog.cellsOf 173)) = xs[1]? := by
    have g := hf 1 _ rfl
    exact g
  rw [show Try.prog.cellsOf 173 = 3 from by kernel_rfl] at g1
  obtain ⟨z1, hz1⟩ : ∃ z, xs[1]? = some z := ⟨_, List.getElem?_eq_getElem (by rw [hxl]; decide)⟩
  obtain ⟨y1, K1, w1⟩ := opens173 _ _ _ _ _ _ _ _ _ (show DataW.trod enc Try.prog w base spare held n 173 [c3, c4, c5] = some z1 from g1.trans hz1)
  have g2 : DataW.trod enc Try.prog w base spare held n 173 (([c0, c1, c2, c3, c4, c5, c6, c7, c8].drop 6).take (Try.prog.cellsOf 173)) = xs[2]? := by
    have g := hf 2 _ rfl
    exact g
  rw [show Try.prog.cellsOf 173 = 3 from by kernel_rfl] at g2
  obtain ⟨z2, hz2⟩ : ∃ z, xs[2]? = some z := ⟨_, List.getElem?_eq_getElem (by rw [hxl]; decide)⟩
  obtain ⟨y2, K2, w2⟩ := opens173 _ _ _ _ _ _ _ _ _ (show DataW.trod enc Try.prog w base spare held n 173 [c6, c7, c8] = some z2 from g2.trans hz2)
  exact ⟨⟨y0, y1, y2⟩, ⟨[c0, c1, c2], [c3, c4, c5, c6, c7, c8], rfl, K0, ⟨[c3, c4, c5], [c6, c7, c8], rfl, K1, K2⟩⟩, ⟨w0, w1, w2⟩⟩
def W178 (x : S178) : Prop := W173 x.f0 ∧ W173 x.f1
theorem opens178 : Opens Try.prog 178 k178 W178 := by
  intro H enc w base spare held fuel cs x h
  obtain ⟨xs, n, _, _, hlen, hxl, hf⟩ := DataW.trod_struct Try.underlying178 h
  have hl : cs.length = 6 := hlen.trans (by kernel_rfl)
  obtain ⟨c0, c1, c2, c3, c4, c5, rfl⟩ := list6 hl
  have g0 : DataW.trod enc Try.prog w base spare held n 173 (([c0, c1, c2, c3, c4, c5].drop 0).take (Try.prog.cellsOf 173)) = xs[0]? := by
    have g := hf 0 _ rfl
    exact g
  rw [show Try.prog.cellsOf 173 = 3 from by kernel_rfl] at g0
  obtain ⟨z0, hz0⟩ : ∃ z, xs[0]? = some z := ⟨_, List.getElem?_eq_getElem (by rw [hxl]; decide)⟩
  obtain ⟨y0, K0, w0⟩ := opens173 _ _ _ _ _ _ _ _ _ (show DataW.trod enc Try.prog w base spare held n 173 [c0, c1, c2] = some z0 from g0.trans hz0)
  have g1 : DataW.trod enc Try.prog w base spare held n 173 (([c0, c1, c2, c3, c4, c5].drop 3).take (Try.prog.cellsOf 173)) = xs[1]? := by
    have g := hf 1 _ rfl
    exact g
  rw [show Try.prog.cellsOf 173 = 3 from by kernel_rfl] at g1
  obtain ⟨z1, hz1⟩ : ∃ z, xs[1]? = some z := ⟨_, List.getElem?_eq_getElem (by rw [hxl]; decide)⟩
  obtain ⟨y1, K1, w1⟩ := opens173 _ _ _ _ _ _ _ _ _ (show DataW.trod enc Try.prog w base spare held n 173 [c3, c4, c5] = some z1 from g1.trans hz1)
  exact ⟨⟨y0, y1⟩, ⟨[c0, c1, c2], [c3, c4, c5], rfl, K0, K1⟩, ⟨w0, w1⟩⟩
def W62 (x : S62) : Prop := (x.f0.length ≤ 9223372036854775807 ∧ ∀ y_ ∈ x.f0, W175 y_) ∧ (x.f1.length ≤ 9223372036854775807 ∧ ∀ y_ ∈ x.f1, W178 y_) ∧ (x.f2.length ≤ 9223372036854775807 ∧ ∀ y_ ∈ x.f2, W173 y_)
theorem opens62 : Opens Try.prog 62 k62 W62 := by
  intro H enc w base spare held fuel cs x h
  obtain ⟨xs, n, _, _, hlen, hxl, hf⟩ := DataW.trod_struct Try.underlying62 h
  have hl : cs.length = 3 := hlen.trans (by kernel_rfl)
  obtain ⟨c0, c1, c2, rfl⟩ := list3 hl
  have g0 : DataW.trod enc Try.prog w base spare held n 58 (([c0, c1, c2].drop 0).take (Try.prog.cellsOf 58)) = xs[0]? := by
    have g := hf 0 _ rfl
    exact g
  rw [show Try.prog.cellsOf 58 = 1 from by kernel_rfl] at g0
  obtain ⟨z0, hz0⟩ : ∃ z, xs[0]? = some z := ⟨_, List.getElem?_eq_getElem (by rw [hxl]; decide)⟩
  obtain ⟨y0, K0, w0⟩ := (opens_slice Try.underlying58 (by kernel_rfl) (by decide) opens175) _ _ _ _ _ _ _ _ _ (show DataW.trod enc Try.prog w base spare held n 58 [c0] = some z0 from g0.trans hz0)
  have g1 : DataW.trod enc Try.prog w base spare held n 59 (([c0, c1, c2].drop 1).take (Try.prog.cellsOf 59)) = xs[1]? := by
    have g := hf 1 _ rfl
    exact g
  rw [show Try.prog.cellsOf 59 = 1 from by kernel_rfl] at g1
  obtain ⟨z1, hz1⟩ : ∃ z, xs[1]? = some z := ⟨_, List.getElem?_eq_getElem (by rw [hxl]; decide)⟩
  obtain ⟨y1, K1, w1⟩ := (opens_slice Try.underlying59 (by kernel_rfl) (by decide) opens178) _ _ _ _ _ _ _ _ _ (show DataW.trod enc Try.prog w base spare held n 59 [c1] = some z1 from g1.trans hz1)
  have g2 : DataW.trod enc Try.prog w base spare held n 60 (([c0, c1, c2].drop 2).take (Try.prog.cellsOf 60)) = xs[2]? := by
    have g := hf 2 _ rfl
    exact g
  rw [show Try.prog.cellsOf 60 = 1 from by kernel_rfl] at g2
  obtain ⟨z2, hz2⟩ : ∃ z, xs[2]? = some z := ⟨_, List.getElem?_eq_getElem (by rw [hxl]; decide)⟩
  obtain ⟨y2, K2, w2⟩ := (opens_slice Try.underlying60 (by kernel_rfl) (by decide) opens173) _ _ _ _ _ _ _ _ _ (show DataW.trod enc Try.prog w base spare held n 60 [c2] = some z2 from g2.trans hz2)
  exact ⟨⟨y0, y1, y2⟩, ⟨[c0], [c1, c2], rfl, K0, ⟨[c1], [c2], rfl, K1, K2⟩⟩, ⟨w0, w1, w2⟩⟩
/-- THE PURE STATEMENT of laws_FnExactEncodeScene. -/
def laws_FnExactEncodeScene.Pure : Prop := ∀ (x0 : S62), W62 x0 → ∃ k, laws_FnExactEncodeScene.f k x0.f0 x0.f1 x0.f2 = some true
end Go.Proofs.Ytcpdeenhjodmfaa.QEncodeScene
