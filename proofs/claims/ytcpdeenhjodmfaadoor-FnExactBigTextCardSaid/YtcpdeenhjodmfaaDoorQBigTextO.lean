-- Written by wip/tools/mkprint.py (my program) out of the translation, for this claim. Not trusted: Lean checks it.
import Derived.Test.YtcpdeenhjodmfaaDoorQBigTextx4
import Derived.ChangeArms
import Derived.DataReads
namespace Go.Proofs.YtcpdeenhjodmfaaDoor.QBigText
open Go.RowKit Go.Proofs.YtcpdeenhjodmfaaDoorW.PrintWords Go.Proofs.YtcpdeenhjodmfaaDoorW.PrintLast Go.Proofs.YtcpdeenhjodmfaaDoorW.PrintMore
set_option linter.unusedVariables false
set_option linter.unusedSimpArgs false
theorem add_of_add_ (a : Addr) (i j : Nat) : (a.add i).add j = a.add (i + j) := by
  unfold Addr.add
  by_cases hi : i = 0 <;> by_cases hj : j = 0 <;> simp [hi, hj, Nat.add_assoc]
/-- Whatever memory reads as data of type t is of the kind d, and fits. -/
def Opens {α : Type} (P : Program) (t : TypeId) (d : Kd α) (F : α → Prop) : Prop :=
  ∀ (H : Type) (enc : TypeId × Value → H) (w : World) (base : Nat) (spare : Nat → Bool) (held : Bool) (fuel : Nat) (cs : List Value) (x : DataW H × List MemPlace),
    DataW.trod enc P w base spare held fuel t cs = some x → ∃ y : α, d.K w y cs ∧ F y
theorem opens_int {P : Program} {t : TypeId} {k : IntKind} (ht : P.underlying t = some (.int k)) : Opens P t (Kd.int k) (fun y => (Lit.int k y).wf = true) := by
  intro H enc w base spare held fuel cs x h
  obtain ⟨n, rfl, _, hn⟩ := DataW.trod_int ht h
  exact ⟨n, rfl, hn⟩
theorem opens_bool {P : Program} {t : TypeId} (ht : P.underlying t = some .bool) : Opens P t Kd.bool (fun _ => True) := by
  intro H enc w base spare held fuel cs x h
  obtain ⟨b, rfl, _⟩ := DataW.trod_bool ht h
  exact ⟨b, rfl, trivial⟩
theorem choose_list {α : Type} {R : Nat → α → Prop} : ∀ n : Nat, (∀ i, i < n → ∃ y, R i y) → ∃ ys : List α, ys.length = n ∧ ∀ i y, ys[i]? = some y → R i y
  | 0, _ => ⟨[], rfl, fun i y h => by simp at h⟩
  | n + 1, h => by
    obtain ⟨ys, hl, hr⟩ := choose_list n (fun i hi => h i (by omega))
    obtain ⟨y, hy⟩ := h n (by omega)
    refine ⟨ys ++ [y], by simp [hl], fun i z hz => ?_⟩
    rcases Nat.lt_or_ge i ys.length with hi | hi
    · rw [List.getElem?_append_left hi] at hz
      exact hr i z hz
    · have hlt := (List.getElem?_eq_some_iff.1 hz).1
      rw [List.length_append, List.length_singleton] at hlt
      obtain rfl : i = ys.length := by omega
      have : y = z := by simpa using hz
      subst this
      rw [hl]
      exact hy
theorem opens_slice {α : Type} {P : Program} {t e : TypeId} {d : Kd α} {F : α → Prop} (ht : P.underlying t = some (.slice e)) (hsz : P.cellsOf e = d.sz) (h0 : 0 < d.sz) (ho : Opens P e d F) :
    Opens P t (Kd.slice e d) (fun ys => ys.length ≤ 9223372036854775807 ∧ ∀ y ∈ ys, F y) := by
  intro H enc w base spare held fuel cs x h
  rcases DataW.trod_slice ht h with ⟨rfl, _⟩ | ⟨a, len, cap, elems, rest, n, _, rfl, _, hb, hl, hm, hlen, hel, _, _⟩
  · exact ⟨[], ⟨none, 0, rfl, Nat.le_refl _, rfl, by simp, fun h => absurd h (Nat.lt_irrefl 0)⟩, by simp, by simp⟩
  · have hx : ∀ i, i < len → ∃ y, (∃ c : List Value, c.length = d.sz ∧ d.K w y c ∧ ∀ (j : Nat) (u : Value), c[j]? = some u → w.cell? (a.add (i * d.sz + j)) = some u) ∧ F y := by
      intro i hi
      have h1 := hel i hi
      rw [List.getElem?_eq_getElem (by omega)] at h1
      simp only [Option.bind_eq_some_iff] at h1
      obtain ⟨c, hc, htr⟩ := h1
      obtain ⟨y, hK, hF⟩ := ho H enc w base spare held n c _ htr
      obtain ⟨_, hcl, hcc⟩ := World.cells?_some hc
      rw [hsz] at hcl hcc
      refine ⟨y, ⟨c, hcl, hK, fun j u hu => ?_⟩, hF⟩
      have hj : j < d.sz := by have := (List.getElem?_eq_some_iff.1 hu).1; omega
      have := hcc j hj
      rw [add_of_add_] at this
      exact this.trans hu
    obtain ⟨ys, hyl, hy⟩ := choose_list len hx
    have hmx : ys.length ≤ 9223372036854775807 := by
      simp only [maxLen] at hm
      omega
    refine ⟨ys, ⟨some a, cap, by rw [hyl], by omega, rfl, hmx, fun _ => ⟨a, rfl, fun j p hj => (hy j p hj).1⟩⟩, hmx, fun y hyy => ?_⟩
    obtain ⟨i, hi, rfl⟩ := List.mem_iff_getElem.1 hyy
    exact (hy i _ (List.getElem?_eq_getElem hi)).2

theorem list2 {α : Type} {l : List α} (h : l.length = 2) : ∃ a0 a1, l = [a0, a1] := by
  match l, h with
  | [a0, a1], _ => exact ⟨a0, a1, rfl⟩
def W24 (x : S24) : Prop := True ∧ (x.f1.length ≤ 9223372036854775807 ∧ ∀ y_ ∈ x.f1, (Lit.int .u32 y_).wf = true)
theorem opens24 : Opens Tryd.prog 24 k24 W24 := by
  intro H enc w base spare held fuel cs x h
  obtain ⟨xs, n, _, _, hlen, hxl, hf⟩ := DataW.trod_struct Tryd.underlying24 h
  have hl : cs.length = 2 := hlen.trans (by kernel_rfl)
  obtain ⟨c0, c1, rfl⟩ := list2 hl
  have g0 : DataW.trod enc Tryd.prog w base spare held n 4 (([c0, c1].drop 0).take (Tryd.prog.cellsOf 4)) = xs[0]? := by
    have g := hf 0 _ rfl
    exact g
  rw [show Tryd.prog.cellsOf 4 = 1 from by kernel_rfl] at g0
  obtain ⟨z0, hz0⟩ : ∃ z, xs[0]? = some z := ⟨_, List.getElem?_eq_getElem (by rw [hxl]; decide)⟩
  obtain ⟨y0, K0, w0⟩ := (opens_bool Tryd.underlying4) _ _ _ _ _ _ _ _ _ (show DataW.trod enc Tryd.prog w base spare held n 4 [c0] = some z0 from g0.trans hz0)
  have g1 : DataW.trod enc Tryd.prog w base spare held n 22 (([c0, c1].drop 1).take (Tryd.prog.cellsOf 22)) = xs[1]? := by
    have g := hf 1 _ rfl
    exact g
  rw [show Tryd.prog.cellsOf 22 = 1 from by kernel_rfl] at g1
  obtain ⟨z1, hz1⟩ : ∃ z, xs[1]? = some z := ⟨_, List.getElem?_eq_getElem (by rw [hxl]; decide)⟩
  obtain ⟨y1, K1, w1⟩ := (opens_slice Tryd.underlying22 (by kernel_rfl) (by decide) (opens_int (k := .u32) Tryd.underlying59)) _ _ _ _ _ _ _ _ _ (show DataW.trod enc Tryd.prog w base spare held n 22 [c1] = some z1 from g1.trans hz1)
  exact ⟨⟨y0, y1⟩, ⟨[c0], [c1], rfl, K0, K1⟩, ⟨w0, w1⟩⟩
/-- THE PURE STATEMENT of laws_FnExactBigText. -/
def laws_FnExactBigText.Pure : Prop := ∀ (x0 : S24), W24 x0 → ∃ k, laws_FnExactBigText.f k x0.f0 x0.f1 = some true
end Go.Proofs.YtcpdeenhjodmfaaDoor.QBigText
