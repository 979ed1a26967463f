/- The plain law behind FnExactFloatOrderSaid: the pure functions that the program's Go functions come to answer as the statement says, for every input that the row lets in. -/
import Derived.Test.YtcpdeenhjodmfaaQFloatOrderx5
namespace Go.Proofs.Ytcpdeenhjodmfaa.Pure
open Go.RowKit Go.Proofs.Ytcpdeenhjodmfaa.QFloatOrder Go.Proofs.YtcpdeenhjodmfaaW.PrintWords Go.Proofs.YtcpdeenhjodmfaaW.PrintLast Go.Proofs.YtcpdeenhjodmfaaW.PrintMore
set_option linter.unusedVariables false
set_option linter.unusedSimpArgs false
/-! ### rounds, and lists by index -/
theorem ev_const {α : Type} {a : Option α} {r : α} (h : a = some r) : Ev (fun _ => a) r := ⟨0, fun _ _ => h⟩
theorem ev_bindc {α β : Type} {g : Nat → Option α} {f : α → Option β} {a : α} {r : β} (h : Ev g a) (k : f a = some r) : Ev (fun n => (g n).bind f) r :=
  Ev.bind (f := fun _ => f) h (ev_const k)
theorem ev_cbind {α β : Type} {g : Option α} {f : Nat → α → Option β} {a : α} {r : β} (h : g = some a) (k : Ev (fun n => f n a) r) : Ev (fun n => g.bind (f n)) r :=
  Ev.bind (g := fun _ => g) (ev_const h) k
theorem rd_nat (xs : List Int) (i : Nat) : rd xs (i : Int) = xs.getD i 0 := by simp [rd]
theorem rd_at (pre rest : List Int) (r : Int) : rd (pre ++ r :: rest) ((pre.length : Nat) : Int) = r := by simp [rd]
theorem rdb_at (pre rest : List Bool) (r : Bool) : rdOf false (pre ++ r :: rest) ((pre.length : Nat) : Int) = r := by simp [rdOf]
theorem set_at {α : Type} (pre rest : List α) (r v : α) : (pre ++ r :: rest).set (((pre.length : Nat) : Int)).toNat v = (pre ++ [v]) ++ rest := by simp
theorem w64 {x : Int} (h0 : -9223372036854775808 ≤ x) (h1 : x ≤ 9223372036854775807) : wrap64 x = x := by unfold wrap64; omega
theorem len_snoc {α : Type} (pre : List α) (v : α) : (((pre ++ [v]).length : Nat) : Int) = ((pre.length : Nat) : Int) + 1 := by simp
def marks {α : Type} (M : Int → α) : Int → Nat → List α
  | _, 0 => []
  | k, n + 1 => M k :: marks M (k + 1) n
theorem marks_length {α : Type} (M : Int → α) : ∀ (n : Nat) (k : Int), (marks M k n).length = n
  | 0, _ => rfl
  | n + 1, k => by simp [marks, marks_length M n]

/-! ### digits to a base -/
def dv (B : Int) : List Int → Int
  | [] => 0
  | d :: ds => d + B * dv B ds
def Dg (B : Int) (l : List Int) : Prop := ∀ d ∈ l, 0 ≤ d ∧ d < B
def Cn (l : List Int) : Prop := l = [] ∨ l.getD (l.length - 1) 0 ≠ 0
theorem dv_append (B : Int) (xs ys : List Int) : dv B (xs ++ ys) = dv B xs + B ^ xs.length * dv B ys := by
  induction xs with
  | nil => simp [dv]
  | cons d ds ih => simp only [List.cons_append, dv, ih, List.length_cons]; grind
theorem dv_nonneg {B : Int} (hB : 0 < B) : ∀ {l : List Int}, Dg B l → 0 ≤ dv B l
  | [], _ => by simp [dv]
  | d :: ds, h => by
    have h1 := h d (by simp)
    have h2 := dv_nonneg hB (l := ds) (fun x hx => h x (by simp [hx]))
    have h3 : 0 ≤ B * dv B ds := Int.mul_nonneg (by omega) h2
    simp only [dv]
    omega
theorem dv_lt {B : Int} (hB : 0 < B) : ∀ {l : List Int}, Dg B l → dv B l < B ^ l.length
  | [], _ => by simp [dv]
  | d :: ds, h => by
    have h1 := h d (by simp)
    have h2 := dv_lt hB (l := ds) (fun x hx => h x (by simp [hx]))
    have h3 : B * (dv B ds + 1) ≤ B * B ^ ds.length := Int.mul_le_mul_of_nonneg_left (by omega) (by omega)
    simp only [dv, List.length_cons, Int.pow_succ]
    rw [Int.mul_add, Int.mul_one] at h3
    rw [Int.mul_comm (B ^ ds.length) B]
    omega
theorem dv_set (B : Int) : ∀ (l : List Int) (p : Nat) (v : Int), p < l.length → dv B (l.set p v) = dv B l + B ^ p * (v - l.getD p 0)
  | [], _, _, h => by simp at h
  | d :: ds, 0, v, _ => by simp [dv]; omega
  | d :: ds, p + 1, v, h => by
    have := dv_set B ds p v (by simpa using h)
    simp only [List.set_cons_succ, dv, this, List.getD_cons_succ]
    grind
theorem take_succ_getD (l : List Int) (p : Nat) (h : p < l.length) : l.take (p + 1) = l.take p ++ [l.getD p 0] := by
  rw [List.take_succ_eq_append_getElem h]
  simp [List.getD_eq_getElem?_getD, h]
theorem dv_take_succ (B : Int) (l : List Int) (p : Nat) (h : p < l.length) : dv B (l.take (p + 1)) = dv B (l.take p) + B ^ p * l.getD p 0 := by
  rw [take_succ_getD l p h, dv_append, List.length_take, Nat.min_eq_left (Nat.le_of_lt h)]
  simp [dv]
theorem dv_zeros (B : Int) : ∀ n : Nat, dv B (List.replicate n 0) = 0
  | 0 => rfl
  | n + 1 => by simp [List.replicate_succ, dv, dv_zeros B n]
theorem Dg.set {B : Int} {l : List Int} (h : Dg B l) {p : Nat} {v : Int} (h0 : 0 ≤ v) (h1 : v < B) : Dg B (l.set p v) := by
  intro d hd
  rcases List.mem_or_eq_of_mem_set hd with hd | rfl
  · exact h d hd
  · exact ⟨h0, h1⟩
theorem Dg.take {B : Int} {l : List Int} (h : Dg B l) (n : Nat) : Dg B (l.take n) := fun d hd => h d (List.mem_of_mem_take hd)
theorem Dg.zeros {B : Int} (hB : 0 < B) (n : Nat) : Dg B (List.replicate n 0) := fun d hd => by rw [List.eq_of_mem_replicate hd]; omega
theorem Dg.append {B : Int} {xs ys : List Int} (h : Dg B xs) (k : Dg B ys) : Dg B (xs ++ ys) := fun d hd => (List.mem_append.1 hd).elim (h d) (k d)
theorem Dg.get {B : Int} {l : List Int} (h : Dg B l) (hB : 0 < B) (p : Nat) : 0 ≤ l.getD p 0 ∧ l.getD p 0 < B := by
  rcases Nat.lt_or_ge p l.length with hp | hp
  · have : l.getD p 0 = l[p] := by simp [List.getD_eq_getElem?_getD, hp]
    rw [this]
    exact h _ (List.getElem_mem hp)
  · have : l.getD p 0 = 0 := by simp [List.getD_eq_getElem?_getD, hp]
    rw [this]
    omega
theorem dv_inj {B : Int} (hB : 0 < B) : ∀ {x y : List Int}, Dg B x → Dg B y → x.length = y.length → dv B x = dv B y → x = y
  | [], [], _, _, _, _ => rfl
  | [], _ :: _, _, _, h, _ => by simp at h
  | _ :: _, [], _, _, h, _ => by simp at h
  | a :: x, b :: y, hx, hy, hl, hv => by
    have h1 := hx a (by simp)
    have h2 := hy b (by simp)
    simp only [dv] at hv
    have hab : a = b := by
      have e1 : (a + B * dv B x) % B = a := by rw [Int.add_mul_emod_self_left]; exact Int.emod_eq_of_lt h1.1 h1.2
      have e2 : (b + B * dv B y) % B = b := by rw [Int.add_mul_emod_self_left]; exact Int.emod_eq_of_lt h2.1 h2.2
      rw [← e1, ← e2, hv]
    subst hab
    have hd : dv B x = dv B y := by
      have : B * dv B x = B * dv B y := by omega
      exact Int.eq_of_mul_eq_mul_left (by omega) this
    rw [dv_inj hB (fun d hd => hx d (by simp [hd])) (fun d hd => hy d (by simp [hd])) (by simpa using hl) hd]
theorem one_le_ipow {B : Int} (hB : 1 ≤ B) : ∀ d : Nat, 1 ≤ B ^ d
  | 0 => by simp
  | d + 1 => by
    have h1 := one_le_ipow hB d
    have h2 : B ^ d * 1 ≤ B ^ d * B := Int.mul_le_mul_of_nonneg_left hB (by omega)
    rw [Int.pow_succ]
    omega
theorem ipow_le {B : Int} (hB : 1 ≤ B) {m n : Nat} (h : m ≤ n) : B ^ m ≤ B ^ n := by
  obtain ⟨d, rfl⟩ : ∃ d, n = m + d := ⟨n - m, by omega⟩
  have h1 := one_le_ipow hB d
  have h0 := one_le_ipow hB m
  have h2 : B ^ m * 1 ≤ B ^ m * B ^ d := Int.mul_le_mul_of_nonneg_left h1 (by omega)
  rw [Int.pow_add]
  omega
theorem cn_low {B : Int} (hB : 0 < B) {l : List Int} (h : Dg B l) (hc : Cn l) (h0 : l ≠ []) : B ^ (l.length - 1) ≤ dv B l := by
  have hl : 0 < l.length := List.length_pos_iff.2 h0
  have ht : l.take (l.length - 1 + 1) = l := by rw [Nat.sub_add_cancel hl]; exact List.take_length
  have h1 := dv_take_succ B l (l.length - 1) (by omega)
  rw [ht] at h1
  have h2 := dv_nonneg hB (h.take (l.length - 1))
  have h3 := h.get hB (l.length - 1)
  have h4 : l.getD (l.length - 1) 0 ≠ 0 := hc.resolve_left h0
  have h5 : B ^ (l.length - 1) * 1 ≤ B ^ (l.length - 1) * l.getD (l.length - 1) 0 := Int.mul_le_mul_of_nonneg_left (by omega) (Int.le_of_lt (Int.pow_pos hB))
  rw [Int.mul_one] at h5
  omega
theorem cn_len {B : Int} (hB : 1 < B) {x y : List Int} (hx : Dg B x) (hy : Dg B y) (hcy : Cn y) (hv : dv B x = dv B y) : y.length ≤ x.length := by
  rcases Nat.lt_or_ge x.length y.length with h | h
  · have hy0 : y ≠ [] := by rintro rfl; simp at h
    have h1 := dv_lt (by omega) hx
    have h2 := cn_low (by omega) hy hcy hy0
    have h3 : B ^ x.length ≤ B ^ (y.length - 1) := ipow_le (by omega) (by omega)
    omega
  · exact h
theorem cn_uniq {B : Int} (hB : 1 < B) {x y : List Int} (hx : Dg B x) (hy : Dg B y) (hcx : Cn x) (hcy : Cn y) (hv : dv B x = dv B y) : x = y :=
  dv_inj (by omega) hx hy (Nat.le_antisymm (cn_len hB hy hx hcx hv.symm) (cn_len hB hx hy hcy hv)) hv
theorem rd_nat_add (xs : List Int) (i j : Nat) : rd xs ((i : Int) + (j : Int)) = xs.getD (i + j) 0 := by rw [← rd_nat]; simp
theorem dv_ne_nil {B : Int} {l : List Int} (h : dv B l ≠ 0) : l ≠ [] := by rintro rfl; exact h rfl

/-! ### the reference's product -/
structure Norm (l t : List Int) : Prop where
  val : ∀ B, dv B t = dv B l
  top : Cn t
  mem : ∀ d ∈ t, d ∈ l
  len : t.length ≤ l.length
theorem Norm.dg {B : Int} {l t : List Int} (h : Norm l t) (hd : Dg B l) : Dg B t := fun d hh => hd d (h.mem d hh)
theorem w64n {n : Nat} (h : n ≤ 9223372036854775807) : wrap64 (n : Int) = n := w64 (by omega) (by omega)
theorem getD_set_eq (l : List Int) (p : Nat) (v : Int) (h : p < l.length) : (l.set p v).getD p 0 = v := by simp [List.getD_eq_getElem?_getD, h]
theorem getD_set_ne (l : List Int) (p q : Nat) (v : Int) (h : p ≠ q) : (l.set p v).getD q 0 = l.getD q 0 := by simp [List.getD_eq_getElem?_getD, List.getElem?_set, h]
theorem mul_bound16 {x y : Int} (hx : 0 ≤ x) (hx1 : x < 65536) (hy : 0 ≤ y) (hy1 : y < 65536) : 0 ≤ x * y ∧ x * y ≤ 4294836225 := by
  refine ⟨Int.mul_nonneg hx hy, ?_⟩
  have h : x * y ≤ 65535 * 65535 := Int.mul_le_mul (by omega) (by omega) hy (by omega)
  simpa using h
theorem mul_bound32 {x y : Int} (hx : 0 ≤ x) (hx1 : x < 4294967296) (hy : 0 ≤ y) (hy1 : y < 4294967296) : 0 ≤ x * y ∧ x * y ≤ 18446744065119617025 := by
  refine ⟨Int.mul_nonneg hx hy, ?_⟩
  have h : x * y ≤ 4294967295 * 4294967295 := Int.mul_le_mul (by omega) (by omega) hy (by omega)
  simpa using h
theorem l1trim_l0 (l : List Int) (hl : l.length ≤ 4611686018427387904) : ∀ n : Nat, n ≤ l.length →
    ∃ m, m ≤ n ∧ Ev (fun k => spec_l1trim.l0 k l (n : Int)) (l.take m) ∧ (∀ B, dv B (l.take m) = dv B (l.take n)) ∧ Cn (l.take m)
  | 0, _ => ⟨0, Nat.le_refl _, ⟨1, fun k hk => by
      obtain ⟨k, rfl⟩ : ∃ m, k = m + 1 := ⟨k - 1, by omega⟩
      simp only [spec_l1trim.l0]
      rw [if_neg (by omega), if_pos (by omega), if_pos (by omega)]
      rfl⟩, fun _ => rfl, Or.inl (by simp)⟩
  | n + 1, hn => by
    have hw : wrap64 (((n + 1 : Nat) : Int) - 1) = (n : Int) := by rw [w64 (by omega) (by omega)]; omega
    by_cases h0 : l.getD n 0 = 0
    · obtain ⟨m, hm, hev, hv, hc⟩ := l1trim_l0 l hl n (by omega)
      refine ⟨m, by omega, Ev.step (fun k => ?_) hev, fun B => ?_, hc⟩
      · simp only [spec_l1trim.l0]
        rw [hw, if_pos (by omega), if_pos (by omega), if_pos (by omega), rd_nat, if_pos h0]
      · rw [hv B, dv_take_succ B l n (by omega), h0]
        omega
    · refine ⟨n + 1, Nat.le_refl _, ⟨1, fun k hk => ?_⟩, fun _ => rfl, Or.inr ?_⟩
      · obtain ⟨k, rfl⟩ : ∃ m, k = m + 1 := ⟨k - 1, by omega⟩
        simp only [spec_l1trim.l0]
        rw [hw, if_pos (by omega), if_pos (by omega), if_pos (by omega), rd_nat, if_neg h0, if_pos (by omega), if_pos (by omega), Int.toNat_natCast]
      · rw [List.length_take, Nat.min_eq_left hn]
        simpa [List.getD_eq_getElem?_getD, List.getElem?_take] using h0
theorem l1trim_ev (l : List Int) (hl : l.length ≤ 4611686018427387904) : ∃ t, Norm l t ∧ Ev (fun k => spec_l1trim.f k l) t := by
  obtain ⟨m, hm, hev, hv, hc⟩ := l1trim_l0 l hl l.length (Nat.le_refl _)
  exact ⟨_, ⟨fun B => by rw [hv B, List.take_length], hc, fun d hd => List.mem_of_mem_take hd, by simp; omega⟩, hev⟩
theorem l1make_ev (a : Bool) (l : List Int) (hl : l.length ≤ 4611686018427387904) : ∃ t, Norm l t ∧ Ev (fun k => spec_l1make.f k a l) (a && decide (0 < t.length), t) := by
  obtain ⟨t, ht, hev⟩ := l1trim_ev l hl
  refine ⟨t, ht, ev_bindc hev ?_⟩
  cases a <;> simp
theorem u64w {x : Int} (h0 : 0 ≤ x) (h1 : x < 18446744073709551616) : IntKind.u64.wrap x = x := by
  have : IntKind.u64.wrap x = x % 18446744073709551616 := by simp [IntKind.wrap, IntKind.bits, IntKind.signed]
  rw [this]
  exact Int.emod_eq_of_lt h0 h1

/-! ### dyadic numbers: halving, shifting down -/
def Tw (V : Int) (t : Nat) (q : Int) : Prop := V = 2 ^ t * (2 * q + 1) ∧ 0 ≤ q
theorem tw_uniq : ∀ (t s : Nat) (q p : Int), (2 : Int) ^ t * (2 * q + 1) = 2 ^ s * (2 * p + 1) → t = s ∧ q = p
  | 0, 0, q, p, h => ⟨rfl, by simp at h; omega⟩
  | 0, s + 1, q, p, h => by
    rw [Int.pow_succ, Int.mul_assoc, Int.mul_left_comm] at h
    generalize 2 ^ s * (2 * p + 1) = P at h
    simp at h
    omega
  | t + 1, 0, q, p, h => by
    rw [Int.pow_succ, Int.mul_assoc, Int.mul_left_comm] at h
    generalize 2 ^ t * (2 * q + 1) = P at h
    simp at h
    omega
  | t + 1, s + 1, q, p, h => by
    rw [Int.pow_succ, Int.mul_assoc, Int.mul_left_comm, Int.pow_succ, Int.mul_assoc, Int.mul_left_comm (2 ^ s)] at h
    have h2 : (2 : Int) ^ t * (2 * q + 1) = 2 ^ s * (2 * p + 1) := by
      generalize 2 ^ t * (2 * q + 1) = P at h ⊢
      generalize 2 ^ s * (2 * p + 1) = Q at h ⊢
      omega
    obtain ⟨h3, h4⟩ := tw_uniq t s q p h2
    exact ⟨by omega, h4⟩
theorem Tw.uniq {V : Int} {t s : Nat} {q p : Int} (h : Tw V t q) (k : Tw V s p) : t = s ∧ q = p := tw_uniq t s q p (h.1.symm.trans k.1)
theorem tw_ex : ∀ (n : Nat) (V : Int), 0 < V → V ≤ n → ∃ t q, Tw V t q
  | 0, V, h, k => by omega
  | n + 1, V, h, k => by
    rcases Int.emod_two_eq V with h0 | h1
    · obtain ⟨t, q, e, hq⟩ := tw_ex n (V / 2) (by omega) (by omega)
      refine ⟨t + 1, q, ?_, hq⟩
      rw [Int.pow_succ, Int.mul_assoc, Int.mul_left_comm, ← e]
      omega
    · exact ⟨0, V / 2, by simp; omega, by omega⟩
theorem Tw.ex {V : Int} (h : 0 < V) : ∃ t q, Tw V t q := tw_ex V.toNat V h (by omega)
theorem Tw.half {V : Int} {t : Nat} {q : Int} (h : Tw V (t + 1) q) : V % 2 = 0 ∧ Tw (V / 2) t q := by
  obtain ⟨e, hq⟩ := h
  rw [Int.pow_succ, Int.mul_assoc, Int.mul_left_comm] at e
  refine ⟨?_, ?_, hq⟩ <;> generalize 2 ^ t * (2 * q + 1) = P at e ⊢ <;> omega
theorem Tw.odd {V : Int} {q : Int} (h : Tw V 0 q) : V % 2 = 1 := by
  obtain ⟨e, hq⟩ := h
  simp at e
  omega
theorem pow2_pos (s : Nat) : (0 : Int) < 2 ^ s := Int.pow_pos (by omega)
theorem Tw.div {V : Int} {t : Nat} {q : Int} (h : Tw V t q) : V / 2 ^ t = 2 * q + 1 := by
  rw [h.1]
  exact Int.mul_ediv_cancel_left _ (by have := pow2_pos t; omega)
/-- The bit n of V is 0 below t, and 1 at t. -/
theorem Tw.bit : ∀ {t : Nat} {V q : Int}, Tw V t q → ∀ n : Nat, n < t → V / 2 ^ n % 2 = 0
  | 0, _, _, _, n, hn => by omega
  | t + 1, V, q, h, 0, _ => by simpa using h.half.1
  | t + 1, V, q, h, n + 1, hn => by
    have := Tw.bit h.half.2 n (by omega)
    rwa [Int.ediv_ediv_of_nonneg (by omega), Int.mul_comm, ← Int.pow_succ] at this
theorem Tw.bit_at {t : Nat} {V q : Int} (h : Tw V t q) : V / 2 ^ t % 2 = 1 := by rw [h.div]; omega
theorem Tw.pos {V : Int} {t : Nat} {q : Int} (h : Tw V t q) : 0 < V := by
  have h1 := pow2_pos t
  have h2 : (0 : Int) < 2 ^ t * (2 * q + 1) := Int.mul_pos h1 (by have := h.2; omega)
  rw [h.1]; exact h2
theorem Tw.le {V : Int} {t : Nat} {q : Int} (h : Tw V t q) : 2 ^ t ≤ V := by
  have h1 := pow2_pos t
  have h2 : (2 : Int) ^ t * 1 ≤ 2 ^ t * (2 * q + 1) := Int.mul_le_mul_of_nonneg_left (by have := h.2; omega) (by omega)
  rw [h.1]; omega
theorem Tw.lt {V : Int} {t : Nat} {q : Int} (h : Tw V t q) {n : Nat} (k : V < 2 ^ n) : t < n := by
  rcases Nat.lt_or_ge t n with g | g
  · exact g
  · have h1 : (2 : Int) ^ n ≤ 2 ^ t := ipow_le (by omega) g
    have := h.le
    omega
theorem Tw.shift {V : Int} {t : Nat} {q : Int} (h : Tw V t q) (n : Nat) : Tw (2 ^ n * V) (n + t) q := ⟨by rw [h.1, Int.pow_add, Int.mul_assoc], h.2⟩
/-- A sum of a number and a multiple of a higher power of two. -/
theorem Tw.add {x : Int} {t : Nat} {q : Int} (h : Tw x t q) {n : Nat} (hn : t < n) {r : Int} (hr : 0 ≤ r) : Tw (x + 2 ^ n * r) t (q + 2 ^ (n - t - 1) * r) := by
  have e : (2 : Int) ^ n = 2 ^ t * (2 * 2 ^ (n - t - 1)) := by
    have : n = t + ((n - t - 1) + 1) := by omega
    conv => lhs; rw [this, Int.pow_add, Int.pow_succ]
    rw [Int.mul_comm (2 ^ (n - t - 1)) 2]
  have hp := Int.mul_nonneg (Int.le_of_lt (pow2_pos (n - t - 1))) hr
  refine ⟨?_, by have := h.2; omega⟩
  rw [h.1, e]
  generalize (2 : Int) ^ (n - t - 1) = u
  generalize (2 : Int) ^ t = v
  grind
/-- The digits behind a shift to the right by less than a digit: c is two to the shift, d two to the rest of the digit. -/
def sh (c d : Int) : List Int → List Int
  | [] => []
  | [x] => [x / c]
  | x :: y :: r => (x / c + y % c * d) :: sh c d (y :: r)
theorem sh_len (c d : Int) : ∀ l : List Int, (sh c d l).length = l.length
  | [] => rfl
  | [x] => rfl
  | x :: y :: r => by have := sh_len c d (y :: r); simp only [sh, List.length_cons] at this ⊢; omega
theorem sh_dv {c d B : Int} (hB : B = c * d) : ∀ (x : Int) (r : List Int), c * dv B (sh c d (x :: r)) + x % c = dv B (x :: r)
  | x, [] => by
    have := Int.mul_ediv_add_emod x c
    simp only [sh, dv, Int.mul_zero, Int.add_zero]
    exact this
  | x, y :: r => by
    have ih := sh_dv hB y r
    have h := Int.mul_ediv_add_emod x c
    rw [show dv B (x :: y :: r) = x + B * dv B (y :: r) from rfl, show sh c d (x :: y :: r) = (x / c + y % c * d) :: sh c d (y :: r) from rfl, show dv B ((x / c + y % c * d) :: sh c d (y :: r)) = (x / c + y % c * d) + B * dv B (sh c d (y :: r)) from rfl, ← ih]
    generalize dv B (sh c d (y :: r)) = D
    generalize x / c = u at *
    generalize x % c = v at *
    generalize y % c = w at *
    subst hB
    grind
theorem sh_digit {c d x y : Int} (hc : 0 < c) (hd : 0 < d) (hx : 0 ≤ x ∧ x < c * d) : 0 ≤ x / c ∧ x / c < d ∧ 0 ≤ y % c * d ∧ y % c * d ≤ c * d - d := by
  have h1 := Int.ediv_nonneg hx.1 (Int.le_of_lt hc)
  have h2 : x / c < d := Int.ediv_lt_of_lt_mul hc (by rw [Int.mul_comm]; exact hx.2)
  have h3 := Int.emod_nonneg y (show c ≠ 0 by omega)
  have h4 := Int.emod_lt_of_pos y hc
  have h5 : y % c * d ≤ (c - 1) * d := Int.mul_le_mul_of_nonneg_right (by omega) (by omega)
  rw [Int.sub_mul, Int.one_mul] at h5
  exact ⟨h1, h2, Int.mul_nonneg h3 (by omega), h5⟩
theorem sh_dg {c d B : Int} (hB : B = c * d) (hc : 0 < c) (hd : 0 < d) : ∀ {l : List Int}, Dg B l → Dg B (sh c d l)
  | [], h => h
  | [x], h => by
    have hx := h x (by simp)
    intro z hz
    simp only [sh, List.mem_singleton] at hz
    subst hz
    have := sh_digit (y := 0) hc hd (by rw [← hB]; exact hx)
    rw [hB]
    omega
  | x :: y :: r, h => by
    have hx := h x (by simp)
    have ih := sh_dg hB hc hd (l := y :: r) (fun z hz => h z (by simp at hz ⊢; right; exact hz))
    intro z hz
    simp only [sh, List.mem_cons] at hz
    rcases hz with rfl | hz
    · have := sh_digit (y := y) hc hd (by rw [← hB]; exact hx)
      rw [hB]
      omega
    · exact ih z hz
/-- What shifting down leaves: the number divided. -/
theorem sh_value {c d B : Int} (hB : B = c * d) (hc : 0 < c) (hd : 0 < d) {l : List Int} (hl : Dg B l) (w : Nat) (hw : w < l.length) : dv B (sh c d (l.drop w)) = dv B l / (B ^ w * c) := by
  have hB0 : 0 < B := by rw [hB]; exact Int.mul_pos hc hd
  have hBw : 0 < B ^ w := Int.pow_pos hB0
  obtain ⟨x, r, hxr⟩ : ∃ x r, l.drop w = x :: r := by
    rw [List.drop_eq_getElem_cons hw]
    exact ⟨_, _, rfl⟩
  have h1 := sh_dv hB x r
  rw [← hxr] at h1
  have h2 := dv_append B (l.take w) (l.drop w)
  rw [List.take_append_drop, List.length_take, Nat.min_eq_left (Nat.le_of_lt hw), ← h1] at h2
  have h3 := dv_nonneg hB0 (hl.take w)
  have h4 := dv_lt hB0 (hl.take w)
  rw [List.length_take, Nat.min_eq_left (Nat.le_of_lt hw)] at h4
  have h5 := Int.emod_nonneg x (show c ≠ 0 by omega)
  have h6 := Int.emod_lt_of_pos x hc
  generalize dv B (sh c d (l.drop w)) = D at *
  generalize dv B (l.take w) = L at *
  have h7 : B ^ w * (x % c) ≤ B ^ w * (c - 1) := Int.mul_le_mul_of_nonneg_left (by omega) (by omega)
  have h8 : 0 ≤ B ^ w * (x % c) := Int.mul_nonneg (by omega) h5
  rw [Int.mul_sub, Int.mul_one] at h7
  have h9 : dv B l = (L + B ^ w * (x % c)) + B ^ w * c * D := by rw [h2]; grind
  rw [h9, Int.add_mul_ediv_left _ _ (by have := Int.mul_pos hBw hc; omega), Int.ediv_eq_zero_of_lt (by omega) (by omega), Int.zero_add]
/-- One bit of a number, read out of its digit. -/
theorem dv_bit {B : Int} {W : Nat} (hB : B = 2 ^ W) {l : List Int} (hl : Dg B l) (w s : Nat) (hw : w < l.length) (hs : s < W) : dv B l / 2 ^ (W * w + s) % 2 = l.getD w 0 / 2 ^ s % 2 := by
  have hB0 : 0 < B := by rw [hB]; exact pow2_pos W
  have h2 := dv_append B (l.take w) (l.drop w)
  have h3 := dv_nonneg hB0 (hl.take w)
  have h4 := dv_lt hB0 (hl.take w)
  rw [List.take_append_drop, List.length_take, Nat.min_eq_left (Nat.le_of_lt hw)] at h2
  rw [List.length_take, Nat.min_eq_left (Nat.le_of_lt hw)] at h4
  have hd : l.drop w = l.getD w 0 :: l.drop (w + 1) := by
    rw [List.drop_eq_getElem_cons hw]
    simp [List.getD_eq_getElem?_getD, hw]
  have hBw : (2 : Int) ^ (W * w) = B ^ w := by rw [hB, Int.pow_mul]
  rw [Int.pow_add, hBw, ← Int.ediv_ediv_of_nonneg (Int.le_of_lt (Int.pow_pos hB0)), h2, Int.add_mul_ediv_left _ _ (by have : 0 < B ^ w := Int.pow_pos hB0; omega), Int.ediv_eq_zero_of_lt h3 h4, Int.zero_add, hd]
  simp only [dv]
  have hBs : B = 2 ^ s * (2 * 2 ^ (W - s - 1)) := by
    rw [hB, ← Int.mul_comm (2 ^ (W - s - 1)) 2, ← Int.pow_succ, ← Int.pow_add]
    congr 1
    omega
  generalize dv B (l.drop (w + 1)) = D
  generalize l.getD w 0 = x
  rw [hBs, Int.mul_assoc, Int.add_mul_ediv_left _ _ (by have := pow2_pos s; omega)]
  generalize x / 2 ^ s = X
  rw [Int.mul_assoc, Int.add_mul_emod_self_left]

/-! ### the reference's l1twos and l1down -/
theorem shr_eq (k : IntKind) (x : Int) (s : Nat) (h : s ≤ k.bits) : shr k x ((s : Nat) : Int) = x / 2 ^ s := by
  unfold shr
  rw [Int.toNat_natCast, Nat.min_eq_left h]
theorem shl_eq (k : IntKind) (x : Int) (s : Nat) (h : s ≤ k.bits) : shl k x ((s : Nat) : Int) = k.wrap (x * 2 ^ s) := by
  unfold shl
  rw [Int.toNat_natCast, Nat.min_eq_left h]
theorem tdn (n m : Nat) : Int.tdiv ((n : Nat) : Int) ((m : Nat) : Int) = ((n / m : Nat) : Int) := by
  rw [Int.tdiv_eq_ediv_of_nonneg (by omega)]; rfl
theorem tmn (n m : Nat) : Int.tmod ((n : Nat) : Int) ((m : Nat) : Int) = ((n % m : Nat) : Int) := by
  rw [Int.tmod_eq_emod_of_nonneg (by omega)]; rfl
theorem l1twos_l1 : ∀ (t : Nat) (v q : Int) (n c : Nat), Tw v t q → n ≤ 1048576 → c + t ≤ 64 → v < 65536 → Ev (fun k => spec_l1twos.l1 k (n : Int) v (c : Int)) (((16 * n + c + t : Nat)) : Int)
  | 0, v, q, n, c, h, hn, hc, hv => ⟨1, fun k hk => by
    obtain ⟨k, rfl⟩ : ∃ m, k = m + 1 := ⟨k - 1, by omega⟩
    have h0 := h.pos
    have h1 := h.odd
    simp only [spec_l1twos.l1]
    rw [if_neg (by rw [Int.tmod_eq_emod_of_nonneg (by omega)]; omega), w64 (x := (n : Int) * 16) (by omega) (by omega), w64 (by omega) (by omega)]
    congr 1
    omega⟩
  | t + 1, v, q, n, c, h, hn, hc, hv => by
    have h0 := h.pos
    have ⟨h1, h2⟩ := h.half
    have ih := l1twos_l1 t (v / 2) q n (c + 1) h2 hn (by omega) (by omega)
    rw [show 16 * n + (c + 1) + t = 16 * n + c + (t + 1) from by omega] at ih
    refine Ev.step (fun k => ?_) ih
    simp only [spec_l1twos.l1]
    rw [if_pos (by rw [Int.tmod_eq_emod_of_nonneg (by omega)]; omega), Int.tdiv_eq_ediv_of_nonneg (by omega), w64 (x := v / 2) (by omega) (by omega), w64 (x := (c : Int) + 1) (by omega) (by omega)]
    rfl
theorem l1twos_l0 (a : Bool) {t : Nat} {q : Int} : ∀ (rest pre : List Int), Dg 65536 (pre ++ rest) → (pre ++ rest).length ≤ 1048576 → dv 65536 pre = 0 → Tw (dv 65536 (pre ++ rest)) t q →
    Ev (fun k => spec_l1twos.l0 k ((pre.length : Nat) : Int) a (pre ++ rest)) (t : Int)
  | [], pre, hd, hl, hz, h => by
    have := h.pos
    rw [List.append_nil, hz] at this
    omega
  | x :: r, pre, hd, hl, hz, h => by
    have hx := hd x (by simp)
    have hlen : (pre ++ x :: r).length = pre.length + (r.length + 1) := by simp
    by_cases h0 : x = 0
    · subst h0
      have ih := l1twos_l0 a (t := t) (q := q) r (pre ++ [0]) (by simpa using hd) (by simpa using hl) (by rw [dv_append, hz]; simp [dv]) (by simpa using h)
      rw [List.append_assoc, List.singleton_append, len_snoc] at ih
      refine Ev.step (fun k => ?_) ih
      simp only [spec_l1twos.l0]
      rw [if_pos (by omega), if_pos (by rw [hlen]; omega), rd_at, if_pos rfl, w64 (by omega) (by omega)]
    · obtain ⟨t', q', h1⟩ := Tw.ex (V := x) (by omega)
      have h2 : t' < 16 := h1.lt (n := 16) (by have : (2 : Int) ^ 16 = 65536 := by decide
                                               omega)
      have hr : 0 ≤ dv 65536 r := dv_nonneg (by omega) (fun z hz' => hd z (by simp [hz']))
      have h3 := (h1.add h2 hr).shift (16 * pre.length)
      have h4 : (2 : Int) ^ (16 * pre.length) * (x + 2 ^ 16 * dv 65536 r) = dv 65536 (pre ++ x :: r) := by
        rw [dv_append, hz, Int.zero_add, Int.pow_mul]
        rfl
      rw [h4] at h3
      obtain ⟨h5, _⟩ := h.uniq h3
      have h6 := l1twos_l1 t' x q' pre.length 0 h1 (by omega) (by omega) hx.2
      rw [show 16 * pre.length + 0 + t' = t from by omega] at h6
      refine Ev.step (fun k => ?_) h6
      simp only [spec_l1twos.l0]
      rw [if_pos (by omega), if_pos (by rw [hlen]; omega), rd_at, if_neg h0]
      rfl
theorem l1twos_ev (a : Bool) {l : List Int} {t : Nat} {q : Int} (hd : Dg 65536 l) (hl : l.length ≤ 1048576) (h : Tw (dv 65536 l) t q) : Ev (fun k => spec_l1twos.f k a l) (t : Int) :=
  Ev.congr (fun _ => rfl) (l1twos_l0 a l [] hd hl rfl h)
theorem u64m (n m : Nat) (hm : 0 < m) (h : m ≤ 64) : IntKind.u64.wrap (Int.tmod ((n : Nat) : Int) ((m : Nat) : Int)) = ((n % m : Nat) : Int) := by
  have := Nat.mod_lt n hm
  rw [tmn, u64w (by omega) (by omega)]
theorem two16 (s : Nat) (h : s ≤ 16) : (65536 : Int) = 2 ^ s * 2 ^ (16 - s) := by
  rw [← Int.pow_add, show s + (16 - s) = 16 from by omega]
  decide
theorem two32 (s : Nat) (h : s ≤ 32) : (4294967296 : Int) = 2 ^ s * 2 ^ (32 - s) := by
  rw [← Int.pow_add, show s + (32 - s) = 32 from by omega]
  decide
theorem i64k (x : Int) (h0 : -9223372036854775808 ≤ x) (h1 : x ≤ 9223372036854775807) : IntKind.i64.wrap x = x := by rw [i64_w, w64 h0 h1]
theorem shl_hi {y d : Int} (hy : 0 ≤ y ∧ y < 65536) (hd : 0 < d) (hd1 : d ≤ 65536) : 0 ≤ y * d ∧ y * d ≤ 4294901760 := by
  refine ⟨Int.mul_nonneg hy.1 (by omega), ?_⟩
  have h : y * d ≤ 65535 * 65536 := Int.mul_le_mul (by omega) hd1 (by omega) (by omega)
  simpa using h
theorem spec_digit1 {x : Int} (n : Nat) (hx : 0 ≤ x ∧ x < 65536) : Int.tmod (shr .i64 x (IntKind.u64.wrap (Int.tmod ((n : Nat) : Int) 16))) 65536 = x / 2 ^ (n % 16) := by
  have hs := Nat.mod_lt n (show 16 > 0 by omega)
  rw [show (16 : Int) = ((16 : Nat) : Int) from rfl, u64m n 16 (by omega) (by omega), shr_eq _ _ _ (by simp [IntKind.bits]; omega)]
  have hc := pow2_pos (n % 16)
  have h1 := two16 (n % 16) (by omega)
  have h2 := sh_digit (y := 0) hc (pow2_pos (16 - n % 16)) (x := x) (by rw [← h1]; exact hx)
  have h3 : (2 : Int) ^ (16 - n % 16) ≤ 2 ^ 16 := ipow_le (by omega) (by omega)
  rw [show (2 : Int) ^ 16 = 65536 from by decide] at h3
  rw [Int.tmod_eq_emod_of_nonneg h2.1, Int.emod_eq_of_lt h2.1 (by omega)]
theorem spec_digit2 {x y : Int} (n : Nat) (hx : 0 ≤ x ∧ x < 65536) (hy : 0 ≤ y ∧ y < 65536) :
    Int.tmod (wrap64 ((shr .i64 x (IntKind.u64.wrap (Int.tmod ((n : Nat) : Int) 16))) + (Int.tmod (shl .i64 y (IntKind.u64.wrap (wrap64 (16 - (Int.tmod ((n : Nat) : Int) 16))))) 65536))) 65536 = x / 2 ^ (n % 16) + y % 2 ^ (n % 16) * 2 ^ (16 - n % 16) := by
  have hs := Nat.mod_lt n (show 16 > 0 by omega)
  have hc := pow2_pos (n % 16)
  have hd := pow2_pos (16 - n % 16)
  have h1 := two16 (n % 16) (by omega)
  have h2 := sh_digit (y := y) hc hd (x := x) (by rw [← h1]; exact hx)
  have h3 : (2 : Int) ^ (16 - n % 16) ≤ 2 ^ 16 := ipow_le (by omega) (by omega)
  rw [show (2 : Int) ^ 16 = 65536 from by decide] at h3
  have h4 := shl_hi hy hd h3
  have e1 : IntKind.u64.wrap (wrap64 (16 - Int.tmod ((n : Nat) : Int) 16)) = ((16 - n % 16 : Nat) : Int) := by
    rw [show (16 : Int) = ((16 : Nat) : Int) from rfl, tmn, w64 (by omega) (by omega), u64w (by omega) (by omega)]
    omega
  have e2 : IntKind.u64.wrap (Int.tmod ((n : Nat) : Int) 16) = ((n % 16 : Nat) : Int) := u64m n 16 (by omega) (by omega)
  rw [e1, e2, shr_eq _ _ _ (by simp [IntKind.bits]; omega), shl_eq _ _ _ (by simp [IntKind.bits]; omega), i64k _ (by omega) (by omega), Int.tmod_eq_emod_of_nonneg h4.1]
  have e3 : y * 2 ^ (16 - n % 16) % 65536 = y % 2 ^ (n % 16) * 2 ^ (16 - n % 16) := by
    conv => lhs; rw [h1, Int.mul_comm y, Int.mul_comm (2 ^ (n % 16)), Int.mul_emod_mul_of_pos _ _ hd]
    rw [Int.mul_comm]
  rw [e3, w64 (by omega) (by omega), Int.tmod_eq_emod_of_nonneg (by omega), Int.emod_eq_of_lt (by omega) (by omega)]
theorem l1down_l1 (n : Nat) (hn : n ≤ 1073741824) (a lost : Bool) : ∀ (rest pre out : List Int), Dg 65536 (pre ++ rest) → (pre ++ rest).length ≤ 1048576 → n / 16 < (pre ++ rest).length → out.length ≤ pre.length →
    ∃ t lost', Norm (out ++ sh (2 ^ (n % 16)) (2 ^ (16 - n % 16)) rest) t ∧ Ev (fun k => spec_l1down.l1 k (n : Int) lost out ((pre.length : Nat) : Int) a (pre ++ rest)) (a && decide (0 < t.length), t, lost')
  | [], pre, out, hd, hl, hw, ho => by
    rw [List.append_nil] at hd hl hw ⊢
    obtain ⟨t, ht, hev⟩ := l1make_ev a out (by omega)
    cases lost with
    | true =>
      refine ⟨t, true, by simpa [sh] using ht, Ev.step (fun k => ?_) (ev_bindc (f := fun bt => some (bt.1, bt.2, true)) hev rfl)⟩
      simp only [spec_l1down.l1]
      rw [if_neg (by omega), if_pos trivial]
    | false =>
      have hs := Nat.mod_lt n (show 16 > 0 by omega)
      have hp := pow2_pos (n % 16)
      have hp1 : (2 : Int) ^ (n % 16) ≤ 2 ^ 16 := ipow_le (by omega) (by omega)
      rw [show (2 : Int) ^ 16 = 65536 from by decide] at hp1
      refine ⟨t, _, by simpa [sh] using ht, Ev.step (fun k => ?_) (ev_bindc (f := fun bt => some (bt.1, bt.2, ((Int.tmod (rd pre (wrap64 (Int.tdiv ((n : Nat) : Int) 16))) (shl .i64 1 (IntKind.u64.wrap (Int.tmod ((n : Nat) : Int) 16)))) != 0))) hev rfl)⟩
      simp only [spec_l1down.l1]
      have e2 : IntKind.u64.wrap (Int.tmod ((n : Nat) : Int) 16) = ((n % 16 : Nat) : Int) := u64m n 16 (by omega) (by omega)
      have e3 : wrap64 (Int.tdiv ((n : Nat) : Int) 16) = ((n / 16 : Nat) : Int) := by
        rw [show (16 : Int) = ((16 : Nat) : Int) from rfl, tdn, w64 (by omega) (by omega)]
      have e4 : shl .i64 1 (((n % 16 : Nat)) : Int) ≠ 0 := by
        rw [shl_eq _ _ _ (by simp [IntKind.bits]; omega), Int.one_mul, i64k _ (by omega) (by omega)]
        omega
      rw [if_neg (by omega), if_neg (by simp), e2, e3, if_pos (by omega), if_pos (by omega), if_pos (by omega), if_neg e4]
  | [x], pre, out, hd, hl, hw, ho => by
    have hx := hd x (by simp)
    have hlen : (pre ++ [x]).length = pre.length + 1 := by simp
    obtain ⟨t, lost', ht, hev⟩ := l1down_l1 n hn a lost [] (pre ++ [x]) (out ++ [x / 2 ^ (n % 16)]) (by simpa using hd) (by simpa using hl) (by simpa using hw) (by simp; omega)
    rw [List.append_nil, len_snoc] at hev
    have e2 : IntKind.u64.wrap (Int.tmod ((n : Nat) : Int) 16) = ((n % 16 : Nat) : Int) := u64m n 16 (by omega) (by omega)
    refine ⟨t, lost', by simpa [sh] using ht, Ev.step (fun k => ?_) hev⟩
    simp only [spec_l1down.l1]
    rw [if_pos (by rw [hlen]; omega), if_pos (by omega), if_pos (by rw [e2]; omega), w64 (x := ((pre.length : Nat) : Int) + 1) (by omega) (by omega), if_neg (by rw [hlen]; omega), if_pos (by omega), rd_at, spec_digit1 n hx]
  | x :: y :: r, pre, out, hd, hl, hw, ho => by
    have hx := hd x (by simp)
    have hy := hd y (by simp)
    have hlen : (pre ++ x :: y :: r).length = pre.length + (r.length + 2) := by simp
    obtain ⟨t, lost', ht, hev⟩ := l1down_l1 n hn a lost (y :: r) (pre ++ [x]) (out ++ [x / 2 ^ (n % 16) + y % 2 ^ (n % 16) * 2 ^ (16 - n % 16)]) (by simpa using hd) (by simpa using hl) (by simpa using hw) (by simp; omega)
    rw [List.append_assoc, List.singleton_append, len_snoc] at hev
    have hr2 : rd (pre ++ x :: y :: r) (((pre.length : Nat) : Int) + 1) = y := by
      have := rd_at (pre ++ [x]) r y
      rw [len_snoc, List.append_assoc, List.singleton_append] at this
      exact this
    have hs := Nat.mod_lt n (show 16 > 0 by omega)
    have e2 : IntKind.u64.wrap (Int.tmod ((n : Nat) : Int) 16) = ((n % 16 : Nat) : Int) := u64m n 16 (by omega) (by omega)
    have e1 : IntKind.u64.wrap (wrap64 (16 - Int.tmod ((n : Nat) : Int) 16)) = ((16 - n % 16 : Nat) : Int) := by
      rw [show (16 : Int) = ((16 : Nat) : Int) from rfl, tmn, w64 (by omega) (by omega), u64w (by omega) (by omega)]
      omega
    refine ⟨t, lost', by simpa [sh] using ht, Ev.step (fun k => ?_) hev⟩
    simp only [spec_l1down.l1]
    rw [if_pos (by rw [hlen]; omega), if_pos (by omega), if_pos (by rw [e2]; omega), w64 (x := ((pre.length : Nat) : Int) + 1) (by omega) (by omega), if_pos (by rw [hlen]; omega), if_pos (by omega), if_pos (by rw [e1]; omega), if_pos (by omega), rd_at, hr2, spec_digit2 n hx hy]
theorem l1down_j1 (n : Nat) (hn : n ≤ 1073741824) (a lost : Bool) (l : List Int) (hd : Dg 65536 l) (hl : l.length ≤ 1048576) (hw : n / 16 < l.length) :
    ∃ t lost', Norm (sh (2 ^ (n % 16)) (2 ^ (16 - n % 16)) (l.drop (n / 16))) t ∧ Ev (fun k => spec_l1down.j1 k (n : Int) lost a l) (a && decide (0 < t.length), t, lost') := by
  obtain ⟨t, lost', ht, hev⟩ := l1down_l1 n hn a lost (l.drop (n / 16)) (l.take (n / 16)) [] (by rw [List.take_append_drop]; exact hd) (by rw [List.take_append_drop]; exact hl) (by rw [List.take_append_drop]; exact hw) (by simp)
  rw [List.take_append_drop, List.nil_append, List.length_take, Nat.min_eq_left (Nat.le_of_lt hw)] at *
  refine ⟨t, lost', ht, Ev.step (fun k => ?_) hev⟩
  simp only [spec_l1down.j1]
  have e3 : wrap64 (Int.tdiv ((n : Nat) : Int) 16) = ((n / 16 : Nat) : Int) := by
    rw [show (16 : Int) = ((16 : Nat) : Int) from rfl, tdn, w64 (by omega) (by omega)]
  rw [e3, if_neg (by omega)]
theorem l1down_l0 (n : Nat) (hn : n ≤ 1073741824) (a : Bool) (l : List Int) (hd : Dg 65536 l) (hl : l.length ≤ 1048576) (hw : n / 16 < l.length) :
    ∀ (d i : Nat) (lost : Bool), i + d = n / 16 → ∃ t lost', Norm (sh (2 ^ (n % 16)) (2 ^ (16 - n % 16)) (l.drop (n / 16))) t ∧ Ev (fun k => spec_l1down.l0 k (n : Int) lost (i : Int) a l) (a && decide (0 < t.length), t, lost')
  | 0, i, lost, hi => by
    obtain ⟨t, lost', ht, hev⟩ := l1down_j1 n hn a lost l hd hl hw
    have e3 : wrap64 (Int.tdiv ((n : Nat) : Int) 16) = ((n / 16 : Nat) : Int) := by
      rw [show (16 : Int) = ((16 : Nat) : Int) from rfl, tdn, w64 (by omega) (by omega)]
    refine ⟨t, lost', ht, Ev.step (fun k => ?_) hev⟩
    simp only [spec_l1down.l0]
    rw [e3, if_neg (by omega)]
  | d + 1, i, lost, hi => by
    have e3 : wrap64 (Int.tdiv ((n : Nat) : Int) 16) = ((n / 16 : Nat) : Int) := by
      rw [show (16 : Int) = ((16 : Nat) : Int) from rfl, tdn, w64 (by omega) (by omega)]
    cases lost with
    | true =>
      obtain ⟨t, lost', ht, hev⟩ := l1down_l0 n hn a l hd hl hw d (i + 1) true (by omega)
      refine ⟨t, lost', ht, Ev.step (fun k => ?_) hev⟩
      simp only [spec_l1down.l0]
      rw [e3, if_pos (by omega), if_pos (by omega), if_pos trivial, w64 (by omega) (by omega)]
      rfl
    | false =>
      obtain ⟨t, lost', ht, hev⟩ := l1down_l0 n hn a l hd hl hw d (i + 1) (rd l (i : Int) != 0) (by omega)
      refine ⟨t, lost', ht, Ev.step (fun k => ?_) hev⟩
      simp only [spec_l1down.l0]
      rw [e3, if_pos (by omega), if_pos (by omega), if_neg (by simp), if_pos (by omega), w64 (by omega) (by omega)]
      rfl
theorem l1down_ev (n : Nat) (hn : n ≤ 1073741824) (a : Bool) (l : List Int) (hd : Dg 65536 l) (hl : l.length ≤ 1048576) (hw : n / 16 < l.length) :
    ∃ t lost', Cn t ∧ Dg 65536 t ∧ dv 65536 t = dv 65536 l / 2 ^ n ∧ t.length ≤ l.length ∧ Ev (fun k => spec_l1down.f k a l (n : Int)) (a && decide (0 < t.length), t, lost') := by
  obtain ⟨t, lost', ht, hev⟩ := l1down_l0 n hn a l hd hl hw (n / 16) 0 false (by omega)
  have hs := Nat.mod_lt n (show 16 > 0 by omega)
  have hB := two16 (n % 16) (by omega)
  refine ⟨t, lost', ht.top, ht.dg (sh_dg hB (pow2_pos _) (pow2_pos _) (fun x hx => hd x (List.mem_of_mem_drop hx))), ?_, ?_, Ev.congr (fun _ => rfl) hev⟩
  · rw [ht.val, sh_value hB (pow2_pos _) (pow2_pos _) hd _ hw]
    congr 1
    rw [show (65536 : Int) = 2 ^ 16 from by decide, ← Int.pow_mul, ← Int.pow_add]
    congr 1
    omega
  · have := ht.len
    rw [sh_len, List.length_drop] at this
    omega
theorem l2norm_ev (a : Bool) (l : List Int) (e : Int) (hd : Dg 65536 l) (hc : Cn l) (hl : l.length ≤ 8192) (he0 : -1000000 ≤ e) (he1 : e ≤ 1000000) :
    (l = [] ∧ Ev (fun k => spec_l2norm.f k a l e) (false, [], 0)) ∨
    ∃ t q r, Tw (dv 65536 l) t q ∧ t ≤ 131072 ∧ Cn r ∧ Dg 65536 r ∧ dv 65536 r = 2 * q + 1 ∧ r.length ≤ l.length ∧ Ev (fun k => spec_l2norm.f k a l e) (a, r, e + t) := by
  by_cases h0 : l = []
  · subst h0
    exact Or.inl ⟨rfl, ev_const rfl⟩
  · right
    have hlow := cn_low (by omega) hd hc h0
    have hhigh := dv_lt (by omega) hd
    have hone := one_le_ipow (B := 65536) (by omega) (l.length - 1)
    have hpos : 0 < l.length := List.length_pos_iff.2 h0
    obtain ⟨t, q, h⟩ := Tw.ex (V := dv 65536 l) (by omega)
    have ht : t < 16 * l.length := h.lt (by rw [Int.pow_mul]; exact hhigh)
    obtain ⟨r, lost', c1, c2, c3, c4, c5⟩ := l1down_ev t (by omega) a l hd (by omega) (by omega)
    rw [h.div] at c3
    have hr : 0 < r.length := List.length_pos_iff.2 (dv_ne_nil (B := 65536) (by rw [c3]; have := h.2; omega))
    rw [decide_eq_true hr, Bool.and_true] at c5
    refine ⟨t, q, r, h, by omega, c1, c2, c3, c4, ?_⟩
    refine Ev.congr (fun k => ?_) (Ev.bind (l1twos_ev a hd (by omega) h) (f := fun k t => (spec_l1down.f k a l t).bind fun bt => some (bt.1, bt.2.1, wrap64 (e + t))) (ev_bindc c5 (r := (a, r, e + t)) (by rw [w64 (by omega) (by omega)])))
    unfold spec_l2norm.f
    rw [if_neg (by omega)]

/-! ### the reference's sums -/
theorem wsucc (i : Nat) (h : i ≤ 9223372036854775806) : wrap64 ((i : Int) + 1) = ((i + 1 : Nat) : Int) := by rw [w64 (by omega) (by omega)]; rfl
theorem u64m16 (n : Nat) : IntKind.u64.wrap (Int.tmod ((n : Nat) : Int) 16) = ((n % 16 : Nat) : Int) := u64m n 16 (by omega) (by omega)
def tv (a : List Int) (i : Nat) : Int := dv 65536 (a.take i)
theorem tv_zero (a : List Int) : tv a 0 = 0 := by simp [tv, dv]
theorem tv_all (a : List Int) {i : Nat} (h : a.length ≤ i) : tv a i = dv 65536 a := by simp [tv, List.take_of_length_le h]
theorem getD_ge (a : List Int) {i : Nat} (h : a.length ≤ i) : a.getD i 0 = 0 := by simp [List.getD_eq_getElem?_getD, List.getElem?_eq_none h]
theorem tv_succ (a : List Int) (i : Nat) : tv a (i + 1) = tv a i + 65536 ^ i * a.getD i 0 := by
  rcases Nat.lt_or_ge i a.length with h | h
  · exact dv_take_succ _ _ _ h
  · rw [tv_all a (Nat.le_succ_of_le h), tv_all a h, getD_ge a h]
    simp
theorem dv_snoc (B : Int) (out : List Int) (x : Int) : dv B (out ++ [x]) = dv B out + B ^ out.length * x := by
  rw [dv_append]
  simp [dv]
theorem dg_snoc {out : List Int} {x : Int} (h : Dg 65536 out) (h0 : 0 ≤ x) (h1 : x < 65536) : Dg 65536 (out ++ [x]) :=
  h.append (fun d hd => by simp at hd; subst hd; exact ⟨h0, h1⟩)
theorem carry_step (P c v : Int) (h : v = c) : P * 65536 * (v / 65536) + P * (v % 65536) = P * c := by
  subst h
  have := Int.mul_ediv_add_emod v 65536
  generalize v / 65536 = q at *
  generalize v % 65536 = r at *
  subst this
  grind
def AInv (a b out : List Int) (c : Int) (i : Nat) : Prop := dv 65536 out + 65536 ^ i * c = tv a i + tv b i
theorem AInv.fin {a b out : List Int} {i : Nat} (h : AInv a b out 0 i) (ha : a.length ≤ i) (hb : b.length ≤ i) : dv 65536 out = dv 65536 a + dv 65536 b := by
  unfold AInv at h
  rwa [tv_all a ha, tv_all b hb, Int.mul_zero, Int.add_zero] at h
theorem AInv.next {a b out : List Int} {c v : Int} {i : Nat} (h : AInv a b out c i) (ho : out.length = i) (hv : v = c + a.getD i 0 + b.getD i 0) : AInv a b (out ++ [v % 65536]) (v / 65536) (i + 1) := by
  unfold AInv at h ⊢
  rw [dv_snoc, ho, tv_succ, tv_succ, Int.pow_succ]
  have := carry_step (65536 ^ i) _ v rfl
  generalize v / 65536 = q at *
  generalize v % 65536 = r at *
  generalize (65536 : Int) ^ i = P at *
  subst hv
  grind
def SInv (a b out : List Int) (c : Int) (i : Nat) : Prop := dv 65536 out - 65536 ^ i * c = tv a i - tv b i
theorem SInv.fin {a b out : List Int} {c : Int} {i : Nat} (h : SInv a b out c i) (ha : a.length ≤ i) (hb : b.length ≤ i) (hd : Dg 65536 out) (ho : out.length = i) (hab : dv 65536 b ≤ dv 65536 a) (hc : c = 0 ∨ c = 1) : dv 65536 out = dv 65536 a - dv 65536 b := by
  unfold SInv at h
  rw [tv_all a ha, tv_all b hb] at h
  have hlt := dv_lt (by omega) hd
  rw [ho] at hlt
  generalize (65536 : Int) ^ i = P at *
  rcases hc with rfl | rfl
  · omega
  · omega
theorem SInv.neg {a b out : List Int} {c : Int} {i : Nat} (h : SInv a b out c i) (ho : out.length = i) : SInv a b (out ++ [a.getD i 0 - c - b.getD i 0 + 65536]) 1 (i + 1) := by
  unfold SInv at h ⊢
  rw [dv_snoc, ho, tv_succ, tv_succ, Int.pow_succ]
  generalize (65536 : Int) ^ i = P at *
  grind
theorem SInv.pos {a b out : List Int} {c : Int} {i : Nat} (h : SInv a b out c i) (ho : out.length = i) : SInv a b (out ++ [a.getD i 0 - c - b.getD i 0]) 0 (i + 1) := by
  unfold SInv at h ⊢
  rw [dv_snoc, ho, tv_succ, tv_succ]
  generalize (65536 : Int) ^ i = P at *
  grind
theorem l1addMag_l0 (a b : List Int) (ha : Dg 65536 a) (hb : Dg 65536 b) (hla : a.length ≤ 100000) (hlb : b.length ≤ 100000) :
    ∀ (d i : Nat) (out : List Int) (c : Int), i + d = max a.length b.length + 1 → out.length = i → Dg 65536 out → 0 ≤ c → c ≤ 1 → (d = 0 → c = 0) → AInv a b out c i →
    ∃ t, Dg 65536 t ∧ dv 65536 t = dv 65536 a + dv 65536 b ∧ t.length ≤ max a.length b.length + 1 ∧ Ev (fun k => spec_l1addMag.l0 k a b out c (i : Int)) t := by
  intro d
  induction d with
  | zero =>
    intro i out c hi ho hd h0 h1 hz hv
    obtain rfl := hz rfl
    refine ⟨out, hd, hv.fin (by omega) (by omega), by omega, ⟨2, fun k hk => ?_⟩⟩
    obtain ⟨k, rfl⟩ : ∃ m, k = m + 2 := ⟨k - 2, by omega⟩
    simp only [spec_l1addMag.l0, spec_l1addMag.j1]
    rw [if_neg (by omega), if_neg (by omega)]
    simp
  | succ d ih =>
    intro i out c hi ho hd h0 h1 hz hv
    have ga := ha.get (by omega) i
    have gb := hb.get (by omega) i
    by_cases hend : max a.length b.length ≤ i ∧ c = 0
    · obtain ⟨he, rfl⟩ := hend
      refine ⟨out, hd, hv.fin (by omega) (by omega), by omega, ⟨2, fun k hk => ?_⟩⟩
      obtain ⟨k, rfl⟩ : ∃ m, k = m + 2 := ⟨k - 2, by omega⟩
      simp only [spec_l1addMag.l0, spec_l1addMag.j1]
      rw [if_neg (by omega), if_neg (by omega)]
      simp
    · have hzero : d = 0 → a.getD i 0 = 0 ∧ b.getD i 0 = 0 := fun h => ⟨getD_ge a (by omega), getD_ge b (by omega)⟩
      obtain ⟨t, t1, t2, t3, t4⟩ := ih (i + 1) (out ++ [(c + a.getD i 0 + b.getD i 0) % 65536]) ((c + a.getD i 0 + b.getD i 0) / 65536) (by omega) (by simp; omega) (dg_snoc hd (by omega) (by omega)) (by omega) (by omega) (fun h => by have := hzero h; omega)
        (hv.next ho rfl)
      refine ⟨t, t1, t2, t3, ?_⟩
      have hj : Ev (fun k => spec_l1addMag.j1 k a b out c (i : Int) true) t := by
        refine Ev.step (fun k => ?_) t4
        simp only [spec_l1addMag.j1]
        rw [if_pos trivial]
        rcases Nat.lt_or_ge i a.length with h2 | h2 <;> rcases Nat.lt_or_ge i b.length with h3 | h3
        · rw [if_pos (by omega), if_pos (by omega), if_pos (by omega), if_pos (by omega), rd_nat, rd_nat, w64 (x := c + _) (by omega) (by omega), w64 (x := c + _ + _) (by omega) (by omega), Int.tmod_eq_emod_of_nonneg (by omega), Int.tdiv_eq_ediv_of_nonneg (by omega), w64 (x := _ / _) (by omega) (by omega), wsucc i (by omega)]
        · have z := getD_ge b h3
          rw [if_pos (by omega), if_pos (by omega), if_neg (by omega), if_pos (by omega), rd_nat, w64 (x := c + _) (by omega) (by omega), Int.tmod_eq_emod_of_nonneg (by omega), Int.tdiv_eq_ediv_of_nonneg (by omega), w64 (x := _ / _) (by omega) (by omega), wsucc i (by omega), z, Int.add_zero]
        · have z := getD_ge a h2
          rw [if_neg (by omega), if_pos (by omega), if_pos (by omega), if_pos (by omega), rd_nat, w64 (x := c + _) (by omega) (by omega), Int.tmod_eq_emod_of_nonneg (by omega), Int.tdiv_eq_ediv_of_nonneg (by omega), w64 (x := _ / _) (by omega) (by omega), wsucc i (by omega), z, Int.add_zero]
        · have z := getD_ge a h2
          have z2 := getD_ge b h3
          rw [if_neg (by omega), if_neg (by omega), if_pos (by omega), Int.tmod_eq_emod_of_nonneg (by omega), Int.tdiv_eq_ediv_of_nonneg (by omega), w64 (x := _ / _) (by omega) (by omega), wsucc i (by omega), z, z2, Int.add_zero, Int.add_zero]
      refine Ev.step (f := fun k => spec_l1addMag.j1 k a b out c (i : Int) true) (fun k => ?_) hj
      simp only [spec_l1addMag.l0]
      by_cases h2 : (i : Int) < (a.length : Int)
      · rw [if_pos h2]
      · rw [if_neg h2]
        by_cases h3 : (i : Int) < (b.length : Int)
        · rw [if_pos h3]
        · rw [if_neg h3, decide_eq_true (by omega)]
theorem l1addMag_ev (a b : List Int) (ha : Dg 65536 a) (hb : Dg 65536 b) (hla : a.length ≤ 100000) (hlb : b.length ≤ 100000) :
    ∃ t, Dg 65536 t ∧ dv 65536 t = dv 65536 a + dv 65536 b ∧ t.length ≤ max a.length b.length + 1 ∧ Ev (fun k => spec_l1addMag.f k a b) t := by
  obtain ⟨t, h1, h2, h3, h4⟩ := l1addMag_l0 a b ha hb hla hlb (max a.length b.length + 1) 0 [] 0 (by omega) rfl (fun _ h => by simp at h) (by omega) (by omega) (fun _ => rfl) (by simp [AInv, tv_zero, dv])
  exact ⟨t, h1, h2, h3, Ev.congr (fun _ => rfl) h4⟩
theorem l1subMag_l0 (a b : List Int) (ha : Dg 65536 a) (hb : Dg 65536 b) (hla : a.length ≤ 100000) (hlb : b.length ≤ a.length) (hab : dv 65536 b ≤ dv 65536 a) :
    ∀ (d i : Nat) (out : List Int) (c : Int), i + d = a.length → out.length = i → Dg 65536 out → 0 ≤ c → c ≤ 1 → SInv a b out c i →
    ∃ t, Dg 65536 t ∧ dv 65536 t = dv 65536 a - dv 65536 b ∧ t.length = a.length ∧ Ev (fun k => spec_l1subMag.l0 k a b out c (i : Int)) t := by
  intro d
  induction d with
  | zero =>
    intro i out c hi ho hd h0 h1 hv
    refine ⟨out, hd, hv.fin (by omega) (by omega) hd ho hab (by omega), by omega, ⟨1, fun k hk => ?_⟩⟩
    obtain ⟨k, rfl⟩ : ∃ m, k = m + 1 := ⟨k - 1, by omega⟩
    simp only [spec_l1subMag.l0]
    rw [if_neg (by omega)]
  | succ d ih =>
    intro i out c hi ho hd h0 h1 hv
    have ga := ha.get (by omega) i
    have gb := hb.get (by omega) i
    by_cases hneg : a.getD i 0 - c - b.getD i 0 < 0
    · obtain ⟨t, t1, t2, t3, t4⟩ := ih (i + 1) (out ++ [a.getD i 0 - c - b.getD i 0 + 65536]) 1 (by omega) (by simp; omega) (dg_snoc hd (by omega) (by omega)) (by omega) (by omega)
        (hv.neg ho)
      refine ⟨t, t1, t2, t3, Ev.step (fun k => ?_) t4⟩
      simp only [spec_l1subMag.l0]
      rw [if_pos (by omega), if_pos (by omega)]
      rcases Nat.lt_or_ge i b.length with h3 | h3
      · rw [if_pos (by omega), rd_nat, rd_nat, w64 (x := _ - c) (by omega) (by omega), w64 (x := _ - c - _) (by omega) (by omega), if_pos hneg, if_pos (by omega), w64 (by omega) (by omega), wsucc i (by omega)]
      · have z := getD_ge b h3
        rw [z, Int.sub_zero] at hneg
        rw [if_neg (by omega), rd_nat, w64 (x := _ - c) (by omega) (by omega), if_pos hneg, if_pos (by omega), w64 (by omega) (by omega), wsucc i (by omega), z, Int.sub_zero]
    · obtain ⟨t, t1, t2, t3, t4⟩ := ih (i + 1) (out ++ [a.getD i 0 - c - b.getD i 0]) 0 (by omega) (by simp; omega) (dg_snoc hd (by omega) (by omega)) (by omega) (by omega)
        (hv.pos ho)
      refine ⟨t, t1, t2, t3, Ev.step (fun k => ?_) t4⟩
      simp only [spec_l1subMag.l0]
      rw [if_pos (by omega), if_pos (by omega)]
      rcases Nat.lt_or_ge i b.length with h3 | h3
      · rw [if_pos (by omega), rd_nat, rd_nat, w64 (x := _ - c) (by omega) (by omega), w64 (x := _ - c - _) (by omega) (by omega), if_neg hneg, if_pos (by omega), wsucc i (by omega)]
      · have z := getD_ge b h3
        rw [z, Int.sub_zero] at hneg
        rw [if_neg (by omega), rd_nat, w64 (x := _ - c) (by omega) (by omega), if_neg hneg, if_pos (by omega), wsucc i (by omega), z, Int.sub_zero]
theorem l1subMag_ev (a b : List Int) (ha : Dg 65536 a) (hb : Dg 65536 b) (hla : a.length ≤ 100000) (hlb : b.length ≤ a.length) (hab : dv 65536 b ≤ dv 65536 a) :
    ∃ t, Dg 65536 t ∧ dv 65536 t = dv 65536 a - dv 65536 b ∧ t.length = a.length ∧ Ev (fun k => spec_l1subMag.f k a b) t := by
  obtain ⟨t, h1, h2, h3, h4⟩ := l1subMag_l0 a b ha hb hla hlb hab a.length 0 [] 0 (by omega) rfl (fun _ h => by simp at h) (by omega) (by omega) (by simp [SInv, tv_zero, dv])
  exact ⟨t, h1, h2, h3, Ev.congr (fun _ => rfl) h4⟩
theorem cn_lt {a b : List Int} (ha : Dg 65536 a) (hb : Dg 65536 b) (hcb : Cn b) (h : a.length < b.length) : dv 65536 a < dv 65536 b := by
  have h0 : b ≠ [] := by rintro rfl; simp at h
  have h1 := dv_lt (by omega) ha
  have h2 := cn_low (by omega) hb hcb h0
  have h3 : (65536 : Int) ^ a.length ≤ 65536 ^ (b.length - 1) := ipow_le (by omega) (by omega)
  omega
def sgn (x : Int) : Int := if x < 0 then -1 else if x = 0 then 0 else 1
theorem tv_top (a b : List Int) (ha : Dg 65536 a) (hb : Dg 65536 b) (i : Nat) (hla : i < a.length) (hlb : i < b.length) (h : a.getD i 0 < b.getD i 0) : tv a (i + 1) < tv b (i + 1) := by
  have pa := dv_lt (by omega) (ha.take i)
  have nb := dv_nonneg (by omega) (hb.take i)
  rw [List.length_take, Nat.min_eq_left (by omega)] at pa
  rw [tv_succ, tv_succ]
  change tv a i < _ at pa
  change 0 ≤ tv b i at nb
  have hP := one_le_ipow (B := 65536) (by omega) i
  have hm : 65536 ^ i * (a.getD i 0 + 1) ≤ 65536 ^ i * b.getD i 0 := Int.mul_le_mul_of_nonneg_left (by omega) (by omega)
  rw [Int.mul_add, Int.mul_one] at hm
  generalize 65536 ^ i * a.getD i 0 = x at *
  generalize 65536 ^ i * b.getD i 0 = y at *
  generalize (65536 : Int) ^ i = P at *
  omega
theorem l1cmp_l0 (a b : List Int) (ha : Dg 65536 a) (hb : Dg 65536 b) (hla : a.length ≤ 100000) (hlb : a.length = b.length) :
    ∀ i : Nat, i ≤ a.length → Ev (fun k => spec_l1cmpMag.l0 k a b ((i : Int) - 1)) (sgn (tv a i - tv b i))
  | 0, _ => ⟨1, fun k hk => by
    obtain ⟨k, rfl⟩ : ∃ m, k = m + 1 := ⟨k - 1, by omega⟩
    simp only [spec_l1cmpMag.l0]
    rw [if_neg (by omega), tv_zero, tv_zero]
    rfl⟩
  | i + 1, hi => by
    have ih := l1cmp_l0 a b ha hb hla hlb i (by omega)
    have ga := ha.get (by omega) i
    have gb := hb.get (by omega) i
    have e : ((i + 1 : Nat) : Int) - 1 = (i : Int) := by omega
    have hb0 : a.getD i 0 < b.getD i 0 → sgn (tv a (i + 1) - tv b (i + 1)) = -1 := fun h => by
      have := tv_top a b ha hb i (by omega) (by omega) h
      unfold sgn
      rw [if_pos (by omega)]
    have hb1 : b.getD i 0 < a.getD i 0 → sgn (tv a (i + 1) - tv b (i + 1)) = 1 := fun h => by
      have := tv_top b a hb ha i (by omega) (by omega) h
      unfold sgn
      rw [if_neg (by omega), if_neg (by omega)]
    have hb2 : a.getD i 0 = b.getD i 0 → tv a (i + 1) - tv b (i + 1) = tv a i - tv b i := fun h => by
      rw [tv_succ, tv_succ, h]
      generalize 65536 ^ i * b.getD i 0 = P
      omega
    rw [e]
    by_cases h1 : a.getD i 0 < b.getD i 0
    · rw [hb0 h1]
      exact ⟨1, fun k hk => by
        obtain ⟨k, rfl⟩ : ∃ m, k = m + 1 := ⟨k - 1, by omega⟩
        simp only [spec_l1cmpMag.l0]
        rw [if_pos (by omega), if_pos (by omega), if_pos (by omega), if_pos (by omega), rd_nat, rd_nat, if_pos h1]⟩
    · by_cases h2 : a.getD i 0 > b.getD i 0
      · rw [hb1 h2]
        exact ⟨1, fun k hk => by
          obtain ⟨k, rfl⟩ : ∃ m, k = m + 1 := ⟨k - 1, by omega⟩
          simp only [spec_l1cmpMag.l0]
          rw [if_pos (by omega), if_pos (by omega), if_pos (by omega), if_pos (by omega), rd_nat, rd_nat, if_neg h1, if_pos h2]⟩
      · have h3 : a.getD i 0 = b.getD i 0 := by omega
        rw [hb2 h3]
        refine Ev.step (fun k => ?_) ih
        simp only [spec_l1cmpMag.l0]
        rw [if_pos (by omega), if_pos (by omega), if_pos (by omega), if_pos (by omega), rd_nat, rd_nat, if_neg h1, if_neg h2, w64 (by omega) (by omega)]
theorem l1cmp_ev (a b : List Int) (ha : Dg 65536 a) (hb : Dg 65536 b) (hca : Cn a) (hcb : Cn b) (hla : a.length ≤ 100000) (hlb : b.length ≤ 100000) : Ev (fun k => spec_l1cmpMag.f k a b) (sgn (dv 65536 a - dv 65536 b)) := by
  unfold spec_l1cmpMag.f
  by_cases h : a.length = b.length
  · simp only [show (a.length : Int) = (b.length : Int) from by omega, if_true]
    have h1 := l1cmp_l0 a b ha hb hla h a.length (Nat.le_refl _)
    rw [tv_all a (Nat.le_refl _), tv_all b (by omega)] at h1
    refine Ev.congr (fun k => ?_) h1
    rw [w64 (by omega) (by omega), h]
  · simp only [show ¬ (a.length : Int) = (b.length : Int) from by omega, if_false]
    by_cases h2 : a.length < b.length
    · have := cn_lt ha hb hcb h2
      simp only [show (a.length : Int) < (b.length : Int) from by omega, if_true]
      exact ev_const (by unfold sgn; rw [if_pos (by omega)])
    · have := cn_lt hb ha hca (by omega)
      simp only [show ¬ (a.length : Int) < (b.length : Int) from by omega, if_false]
      exact ev_const (by unfold sgn; rw [if_neg (by omega), if_neg (by omega)])
/-- The signed number of a sign and digits. -/
def sv (s : Bool) (m : List Int) : Int := if s then -dv 65536 m else dv 65536 m
structure Good1 (s : Bool) (m : List Int) : Prop where
  c : Cn m
  d : Dg 65536 m
  s : s = true → m ≠ []
theorem make1 (a : Bool) (l : List Int) (hd : Dg 65536 l) (hl : l.length ≤ 1000000) : ∃ s t, Good1 s t ∧ sv s t = sv a l ∧ t.length ≤ l.length ∧ Ev (fun k => spec_l1make.f k a l) (s, t) := by
  obtain ⟨t, ht, hev⟩ := l1make_ev a l (by omega)
  refine ⟨_, t, ⟨ht.top, ht.dg hd, ?_⟩, ?_, ht.len, hev⟩
  · intro h
    rintro rfl
    simp at h
  · unfold sv
    rw [ht.val]
    cases a with
    | false => rfl
    | true =>
      by_cases h : 0 < t.length
      · simp [h]
      · have : t = [] := List.eq_nil_of_length_eq_zero (by omega)
        have h2 := ht.val 65536
        rw [this] at h2
        simp only [dv] at h2
        rw [← h2]
        simp
theorem l1add_ev (s s' : Bool) (a b : List Int) (ha : Good1 s a) (hb : Good1 s' b) (hla : a.length ≤ 90000) (hlb : b.length ≤ 90000) :
    ∃ r t, Good1 r t ∧ sv r t = sv s a + sv s' b ∧ t.length ≤ max a.length b.length + 1 ∧ Ev (fun k => spec_l1add.f k s a s' b) (r, t) := by
  unfold spec_l1add.f
  by_cases h : (s == s') = true
  · simp only [h, if_true]
    obtain rfl : s = s' := by simpa using h
    obtain ⟨t, h1, h2, h3, h4⟩ := l1addMag_ev a b ha.d hb.d (by omega) (by omega)
    obtain ⟨r, u, g1, g2, g3, g4⟩ := make1 s t h1 (by omega)
    refine ⟨r, u, g1, ?_, by omega, ?_⟩
    · rw [g2]
      unfold sv
      rw [h2]
      cases s <;> simp <;> omega
    · refine Ev.bind h4 ?_
      refine Ev.bind g4 ?_
      exact ev_const rfl
  · simp only [h, if_false]
    have hs : s' = !s := by cases s <;> cases s' <;> simp_all
    have hc := l1cmp_ev a b ha.d hb.d ha.c hb.c (by omega) (by omega)
    by_cases hge : dv 65536 b ≤ dv 65536 a
    · have hlen : b.length ≤ a.length := by
        apply Classical.byContradiction
        intro h9
        have := cn_lt ha.d hb.d hb.c (by omega)
        omega
      obtain ⟨t, h1, h2, h3, h4⟩ := l1subMag_ev a b ha.d hb.d (by omega) hlen hge
      obtain ⟨r, u, g1, g2, g3, g4⟩ := make1 s t h1 (by omega)
      refine ⟨r, u, g1, ?_, by omega, ?_⟩
      · rw [g2, hs]
        unfold sv
        rw [h2]
        cases s <;> simp <;> omega
      · refine Ev.bind hc ?_
        simp only [show sgn (dv 65536 a - dv 65536 b) ≥ 0 from by unfold sgn; rw [if_neg (by omega)]; split <;> omega, if_true]
        refine Ev.bind h4 ?_
        refine Ev.bind g4 ?_
        exact ev_const rfl
    · have hlen : a.length ≤ b.length := by
        apply Classical.byContradiction
        intro h9
        have := cn_lt hb.d ha.d ha.c (by omega)
        omega
      obtain ⟨t, h1, h2, h3, h4⟩ := l1subMag_ev b a hb.d ha.d (by omega) hlen (by omega)
      obtain ⟨r, u, g1, g2, g3, g4⟩ := make1 s' t h1 (by omega)
      refine ⟨r, u, g1, ?_, by omega, ?_⟩
      · rw [g2, hs]
        unfold sv
        rw [h2]
        cases s <;> simp <;> omega
      · refine Ev.bind hc ?_
        simp only [show ¬ sgn (dv 65536 a - dv 65536 b) ≥ 0 from by unfold sgn; rw [if_pos (by omega)]; omega, if_false]
        refine Ev.bind h4 ?_
        refine Ev.bind g4 ?_
        exact ev_const rfl

/-! ### the reference's l1up, l1small, l1neg -/
theorem up_value {d x : Int} (hx : 0 ≤ x ∧ x < 65536) (hd : 0 < d) (hd1 : d ≤ 65536) : 0 ≤ x * d ∧ x * d ≤ 4294901760 := shl_hi hx hd hd1
def UInv (l out : List Int) (c : Int) (n i : Nat) : Prop := dv 65536 out + 65536 ^ (n / 16 + i) * c = 65536 ^ (n / 16) * 2 ^ (n % 16) * tv l i
theorem pow16 (n : Nat) : (65536 : Int) ^ (n / 16) * 2 ^ (n % 16) = 2 ^ n := by
  rw [show (65536 : Int) = 2 ^ 16 from by decide, ← Int.pow_mul, ← Int.pow_add, Nat.div_add_mod]
theorem UInv.fin {l out : List Int} {n i : Nat} (h : UInv l out 0 n i) (hi : l.length ≤ i) : dv 65536 out = 2 ^ n * dv 65536 l := by
  unfold UInv at h
  rwa [tv_all l hi, pow16, Int.mul_zero, Int.add_zero] at h
theorem UInv.next {l out : List Int} {c v : Int} {n i : Nat} (h : UInv l out c n i) (ho : out.length = n / 16 + i) (hv : v = c + l.getD i 0 * 2 ^ (n % 16)) : UInv l (out ++ [v % 65536]) (v / 65536) n (i + 1) := by
  unfold UInv at h ⊢
  rw [dv_snoc, ho, tv_succ, ← Nat.add_assoc, Int.pow_succ]
  have := carry_step (65536 ^ (n / 16 + i)) _ v rfl
  generalize v / 65536 = q at *
  generalize v % 65536 = r at *
  have hp2 : (65536 : Int) ^ (n / 16 + i) = 65536 ^ (n / 16) * 65536 ^ i := Int.pow_add _ _ _
  rw [hp2] at this h ⊢
  generalize (65536 : Int) ^ (n / 16) = P at *
  generalize (65536 : Int) ^ i = Q at *
  generalize (2 : Int) ^ (n % 16) = S at *
  subst hv
  grind
theorem l1up_l0 (a : Bool) (l : List Int) (n : Nat) (hd : Dg 65536 l) (hl : l.length ≤ 100000) (hn : n ≤ 100000) :
    ∀ (d i : Nat) (out : List Int) (c : Int), i + d = l.length + 1 → out.length = n / 16 + i → Dg 65536 out → 0 ≤ c → c < 65536 → (d = 0 → c = 0) → UInv l out c n i →
    ∃ s t, Good1 s t ∧ sv s t = (if a then -(2 ^ n * dv 65536 l) else 2 ^ n * dv 65536 l) ∧ t.length ≤ n / 16 + l.length + 1 ∧ Ev (fun k => spec_l1up.l0 k (n : Int) out c (i : Int) a l) (s, t) := by
  have hs := Nat.mod_lt n (show 16 > 0 by omega)
  have hp := pow2_pos (n % 16)
  have hp1 : (2 : Int) ^ (n % 16) ≤ 2 ^ 15 := ipow_le (by omega) (by omega)
  rw [show (2 : Int) ^ 15 = 32768 from by decide] at hp1
  have fin : ∀ (i : Nat) (out : List Int), l.length ≤ i → Dg 65536 out → out.length = n / 16 + i → i ≤ l.length + 1 → UInv l out 0 n i →
      ∃ s t, Good1 s t ∧ sv s t = (if a then -(2 ^ n * dv 65536 l) else 2 ^ n * dv 65536 l) ∧ t.length ≤ n / 16 + l.length + 1 ∧ Ev (fun k => spec_l1up.l0 k (n : Int) out 0 (i : Int) a l) (s, t) := by
    intro i out hi hdo ho hi2 hv
    obtain ⟨s, t, g1, g2, g3, g4⟩ := make1 a out hdo (by omega)
    refine ⟨s, t, g1, ?_, by omega, ?_⟩
    · rw [g2]
      unfold sv
      rw [hv.fin hi]
    · refine Ev.step (f := fun k => spec_l1up.j1 k (n : Int) out 0 (i : Int) false a l) (fun k => ?_) (Ev.step (fun k => ?_) (ev_bindc g4 (f := fun bt => some (bt.1, bt.2)) rfl))
      · simp only [spec_l1up.l0]
        rw [if_neg (by omega)]
        rfl
      · simp only [spec_l1up.j1]
        rfl
  intro d
  induction d with
  | zero =>
    intro i out c hi ho hdo h0 h1 hz hv
    obtain rfl := hz rfl
    exact fin i out (by omega) hdo ho (by omega) hv
  | succ d ih =>
    intro i out c hi ho hdo h0 h1 hz hv
    by_cases hend : l.length ≤ i ∧ c = 0
    · obtain ⟨he, rfl⟩ := hend
      exact fin i out he hdo ho (by omega) hv
    · have gl := hd.get (by omega) i
      have hb := up_value gl hp (by omega)
      have hbb : l.getD i 0 * 2 ^ (n % 16) ≤ 65535 * 32768 := Int.mul_le_mul (by omega) hp1 (by omega) (by omega)
      have hzero : d = 0 → l.getD i 0 = 0 := fun h => getD_ge l (by omega)
      obtain ⟨s, t, t1, t2, t3, t4⟩ := ih (i + 1) (out ++ [(c + l.getD i 0 * 2 ^ (n % 16)) % 65536]) ((c + l.getD i 0 * 2 ^ (n % 16)) / 65536) (by omega) (by simp; omega) (dg_snoc hdo (by omega) (by omega)) (by omega) (by omega)
        (fun h => by rw [hzero h, Int.zero_mul]; omega)
        (hv.next ho rfl)
      refine ⟨s, t, t1, t2, t3, ?_⟩
      have hj : Ev (fun k => spec_l1up.j1 k (n : Int) out c (i : Int) true a l) (s, t) := by
        refine Ev.step (fun k => ?_) t4
        simp only [spec_l1up.j1]
        rw [if_pos trivial]
        rcases Nat.lt_or_ge i l.length with h2 | h2
        · rw [if_pos (by omega), if_pos (by omega), if_pos (by rw [u64m16]; omega), if_pos (by omega), rd_nat, u64m16, shl_eq _ _ _ (by simp [IntKind.bits]; omega), i64k _ (by omega) (by omega), w64 (x := c + _) (by omega) (by omega), Int.tmod_eq_emod_of_nonneg (by omega), Int.tdiv_eq_ediv_of_nonneg (by omega), w64 (x := _ / _) (by omega) (by omega), wsucc i (by omega)]
        · have z := getD_ge l h2
          rw [if_neg (by omega), if_pos (by omega), Int.tmod_eq_emod_of_nonneg (by omega), Int.tdiv_eq_ediv_of_nonneg (by omega), w64 (x := _ / _) (by omega) (by omega), wsucc i (by omega), z, Int.zero_mul, Int.add_zero]
      refine Ev.step (f := fun k => spec_l1up.j1 k (n : Int) out c (i : Int) true a l) (fun k => ?_) hj
      simp only [spec_l1up.l0]
      rcases Nat.lt_or_ge i l.length with h2 | h2
      · rw [if_pos (by omega)]
      · rw [if_neg (by omega), decide_eq_true (by omega)]
theorem l1up_ev (a : Bool) (l : List Int) (n : Nat) (hg : Good1 a l) (hl : l.length ≤ 50000) (hn : n ≤ 100000) :
    ∃ s t, Good1 s t ∧ sv s t = 2 ^ n * sv a l ∧ t.length ≤ n / 16 + l.length + 1 ∧ Ev (fun k => spec_l1up.f k a l (n : Int)) (s, t) := by
  by_cases h0 : l = []
  · subst h0
    refine ⟨a, [], hg, ?_, by simp, ev_const rfl⟩
    unfold sv
    simp [dv]
  · have e3 : wrap64 (Int.tdiv ((n : Nat) : Int) 16) = ((n / 16 : Nat) : Int) := by
      rw [show (16 : Int) = ((16 : Nat) : Int) from rfl, tdn, w64 (by omega) (by omega)]
    have hpos : 0 < l.length := List.length_pos_iff.2 h0
    obtain ⟨s, t, g1, g2, g3, g4⟩ := l1up_l0 a l n hg.d (by omega) hn (l.length + 1) 0 (List.replicate (n / 16) 0) 0 (by omega) (by simp) (Dg.zeros (by omega) _) (by omega) (by omega) (fun _ => rfl) (by simp [UInv, dv_zeros, tv_zero])
    refine ⟨s, t, g1, ?_, g3, Ev.congr (fun k => ?_) g4⟩
    · rw [g2]
      unfold sv
      cases a <;> simp [Int.mul_neg]
    · unfold spec_l1up.f
      rw [if_neg (by omega), e3, if_pos (by omega), if_pos (by omega)]
      rfl
theorem cn_cons' (a : Int) {r : List Int} (h : r ≠ []) : Cn (a :: r) ↔ Cn r := by
  obtain ⟨b, s, rfl⟩ := List.exists_cons_of_ne_nil h
  simp [Cn]
theorem cn_cons_nz {a : Int} {r : List Int} (h : Cn r) (ha : r = [] → a ≠ 0) : Cn (a :: r) := by
  by_cases h0 : r = []
  · subst h0
    exact Or.inr (by simpa using ha rfl)
  · exact (cn_cons' a h0).2 h
theorem l1small_l0 (s : Bool) : ∀ (m : Nat) (u : Int) (out : List Int), 0 ≤ u → u < 65536 ^ m → u < 18446744073709551616 → m + out.length ≤ 1000 →
    ∃ t, Cn t ∧ Dg 65536 t ∧ dv 65536 t = u ∧ t.length ≤ m ∧ Ev (fun k => spec_l1small.l0 k s u out) (s, out ++ t)
  | 0, u, out, h0, h1, _, hm => by
    simp at h1
    obtain rfl : u = 0 := by omega
    exact ⟨[], Or.inl rfl, fun _ h => by simp at h, rfl, by simp, ⟨1, fun k hk => by
      obtain ⟨k, rfl⟩ : ∃ m, k = m + 1 := ⟨k - 1, by omega⟩
      simp only [spec_l1small.l0]
      rw [if_neg (by omega)]
      simp⟩⟩
  | m + 1, u, out, h0, h1, h2, hm => by
    by_cases hu : u = 0
    · subst hu
      exact ⟨[], Or.inl rfl, fun _ h => by simp at h, rfl, by simp, ⟨1, fun k hk => by
        obtain ⟨k, rfl⟩ : ∃ m, k = m + 1 := ⟨k - 1, by omega⟩
        simp only [spec_l1small.l0]
        rw [if_neg (by omega)]
        simp⟩⟩
    · have hq : u / 65536 < 65536 ^ m := Int.ediv_lt_of_lt_mul (by omega) (by rw [← Int.pow_succ]; exact h1)
      obtain ⟨t, c1, c2, c3, c4, c5⟩ := l1small_l0 s m (u / 65536) (out ++ [u % 65536]) (by omega) hq (by omega) (by simp; omega)
      refine ⟨u % 65536 :: t, cn_cons_nz c1 (fun h => by rw [h] at c3; simp only [dv] at c3; omega), fun z hz => ?_, ?_, by simp; omega, ?_⟩
      · rcases List.mem_cons.1 hz with rfl | hz
        · omega
        · exact c2 z hz
      · simp only [dv]
        rw [c3]
        omega
      · rw [List.append_assoc, List.singleton_append] at c5
        refine Ev.step (fun k => ?_) c5
        simp only [spec_l1small.l0]
        rw [if_pos (by omega), if_pos (by omega), Int.tdiv_eq_ediv_of_nonneg h0, Int.tmod_eq_emod_of_nonneg h0, u64w (by omega) (by omega), w64 (by omega) (by omega)]
theorem l1small_ev (v : Int) (h0 : -9223372036854775808 < v) (h1 : v < 9223372036854775808) :
    ∃ t, Cn t ∧ Dg 65536 t ∧ dv 65536 t = v.natAbs ∧ t.length ≤ 4 ∧ Ev (fun k => spec_l1small.f k v) (decide (v < 0), t) := by
  obtain ⟨t, c1, c2, c3, c4, c5⟩ := l1small_l0 (decide (v < 0)) 4 (v.natAbs : Int) [] (by omega) (by rw [show (65536 : Int) ^ 4 = 18446744073709551616 from by decide]; omega) (by omega) (by simp)
  refine ⟨t, c1, c2, c3, c4, ?_⟩
  have hw : ∀ z : Int, IntKind.u64.wrap z = z % 18446744073709551616 := fun z => by simp [IntKind.wrap, IntKind.bits, IntKind.signed]
  have hj : Ev (fun k => spec_l1small.j0 k (decide (v < 0)) (v.natAbs : Int)) (decide (v < 0), t) := Ev.step (f := fun k => spec_l1small.l0 k (decide (v < 0)) (v.natAbs : Int) []) (fun k => rfl) (by simpa using c5)
  refine Ev.congr (fun k => ?_) hj
  unfold spec_l1small.f
  by_cases h : v < 0
  · rw [if_pos h, hw, hw]
    congr 1
    omega
  · rw [if_neg h, hw]
    congr 1
    omega
theorem l1neg_ev (a : Bool) (l : List Int) (hg : Good1 a l) (hl : l.length ≤ 100000) : ∃ s t, Good1 s t ∧ sv s t = -sv a l ∧ t.length ≤ l.length ∧ Ev (fun k => spec_l1neg.f k a l) (s, t) := by
  obtain ⟨s, t, g1, g2, g3, g4⟩ := make1 (!a) l hg.d (by omega)
  refine ⟨s, t, g1, ?_, g3, ?_⟩
  · rw [g2]
    unfold sv
    cases a <;> simp
  · unfold spec_l1neg.f
    refine Ev.bind g4 ?_
    exact ev_const rfl

/-! ### the order of two floats -/
theorem sgn_scale {P z : Int} (h : 0 < P) : sgn (P * z) = sgn z := by
  unfold sgn
  rcases (by omega : z < 0 ∨ z = 0 ∨ 0 < z) with h1 | h1 | h1
  · have : P * z < 0 := Int.mul_neg_of_pos_of_neg h h1
    rw [if_pos this, if_pos h1]
  · subst h1
    simp
  · have : 0 < P * z := Int.mul_pos h h1
    rw [if_neg (by omega), if_neg (by omega), if_neg (by omega), if_neg (by omega)]
def At (v e : Int) : Int := v * 2 ^ (e + 149).toNat
theorem at_split (v e d : Int) (h : -149 ≤ d) (hd : d ≤ e) : At v e = 2 ^ (d + 149).toNat * (2 ^ (e - d).toNat * v) := by
  unfold At
  rw [show (e + 149).toNat = (d + 149).toNat + (e - d).toNat from by omega, Int.pow_add, Int.mul_comm v, Int.mul_assoc]
theorem at_zero (e : Int) : At 0 e = 0 := Int.zero_mul _
theorem at_up (v e : Int) (t : Nat) (h : -149 ≤ e) : At (2 ^ t * v) e = At v (e + t) := by
  unfold At
  rw [show (e + t + 149).toNat = (e + 149).toNat + t from by omega, Int.pow_add, Int.mul_comm (2 ^ t) v, Int.mul_assoc, Int.mul_comm (2 ^ t)]
def flF (x : Nat) : Nat := if 0 < x / 8388608 % 256 then x % 8388608 + 8388608 else x % 8388608
def flE (x : Nat) : Int := (if 0 < x / 8388608 % 256 then ((x / 8388608 % 256 : Nat) : Int) else 1) - 150
def flV (x : Nat) : Int := if 2147483648 ≤ x then -(flF x : Int) else (flF x : Int)
theorem flF_lt (x : Nat) : flF x < 16777216 := by unfold flF; split <;> omega
theorem flE_lo (x : Nat) : -149 ≤ flE x := by unfold flE; split <;> omega
theorem flE_hi (x : Nat) : flE x ≤ 105 := by unfold flE; split <;> omega
theorem flV_abs (x : Nat) : (flV x).natAbs = flF x := by unfold flV; split <;> omega
theorem fl_e0 (x : Nat) : (Int.tdiv ((x : Nat) : Int) 8388608) % 256 = ((x / 8388608 % 256 : Nat) : Int) := by
  rw [show (8388608 : Int) = ((8388608 : Nat) : Int) from rfl, tdn]
  rfl
theorem fl_e1 (x : Nat) : wrap64 (Int.tmod ((x : Nat) : Int) 8388608) = ((x % 8388608 : Nat) : Int) := by
  rw [show (8388608 : Int) = ((8388608 : Nat) : Int) from rfl, tmn, w64 (by omega) (by omega)]
structure FlR (x : Nat) (s : Bool) (r : List Int) (e : Int) : Prop where
  g : Good1 s r
  len : r.length ≤ 4
  val : At (sv s r) e = At (flV x) (flE x)
  lo : -149 ≤ e
  hi : e ≤ 200
  how : (flF x = 0 ∧ r = [] ∧ s = false ∧ e = 0) ∨ (∃ t q, Tw (flF x) t q ∧ dv 65536 r = 2 * q + 1 ∧ s = decide (flV x < 0) ∧ e = flE x + t)
theorem l2float_ev (x : Nat) (hx : x < 4294967296) : ∃ s r e, FlR x s r e ∧ Ev (fun k => spec_l2float.f k (x : Int)) (s, r, e) := by
  have hF := flF_lt x
  have hV := flV_abs x
  have hE0 := flE_lo x
  have hE1 := flE_hi x
  obtain ⟨d, c1, c2, c3, c4, c5⟩ := l1small_ev (flV x) (by omega) (by omega)
  rw [hV] at c3
  have hj : ∀ s r e, Ev (fun k => spec_l2norm.f k (decide (flV x < 0)) d (flE x)) (s, r, e) → Ev (fun k => spec_l2float.f k (x : Int)) (s, r, e) := by
    intro s r e h
    have h2 : Ev (fun k => (spec_l1small.f k (flV x)).bind fun bt => (spec_l2norm.f k bt.1 bt.2 (flE x)).bind fun bt2 => some (bt2.1, bt2.2.1, bt2.2.2)) (s, r, e) := by
      refine Ev.bind c5 ?_
      refine Ev.bind h ?_
      exact ev_const rfl
    have hj0 : ∀ (E F : Int), E - 150 = flE x → F = (flF x : Int) → Ev (fun k => spec_l2float.j0 k (x : Int) E F) (s, r, e) := by
      intro E F hE hF'
      refine Ev.step (fun k => ?_) h2
      simp only [spec_l2float.j0]
      subst hF'
      by_cases hn : 2147483648 ≤ x
      · have hv : flV x = -(flF x : Int) := by unfold flV; rw [if_pos hn]
        rw [if_pos (by omega), w64 (x := -_) (by omega) (by omega), ← hv, w64 (x := E - 150) (by omega) (by omega), hE]
      · have hv : flV x = (flF x : Int) := by unfold flV; rw [if_neg hn]
        rw [if_neg (by omega), ← hv, w64 (x := E - 150) (by omega) (by omega), hE]
    by_cases he : 0 < x / 8388608 % 256
    · refine Ev.congr (fun k => ?_) (hj0 ((x / 8388608 % 256 : Nat) : Int) ((x % 8388608 + 8388608 : Nat) : Int) (by unfold flE; rw [if_pos he]) (by unfold flF; rw [if_pos he]))
      unfold spec_l2float.f
      rw [fl_e0, fl_e1, if_pos (by omega), w64 (by omega) (by omega)]
      rfl
    · refine Ev.congr (fun k => ?_) (hj0 1 ((x % 8388608 : Nat) : Int) (by unfold flE; rw [if_neg he]) (by unfold flF; rw [if_neg he]))
      unfold spec_l2float.f
      rw [fl_e0, fl_e1, if_neg (by omega)]
  rcases l2norm_ev (decide (flV x < 0)) d (flE x) c2 c1 (by omega) (by omega) (by omega) with ⟨h0, h1⟩ | ⟨t, q, r, g1, g2, g3, g4, g5, g6, g7⟩
  · rw [h0] at c3
    simp only [dv] at c3
    have hz : flF x = 0 := by omega
    have hz2 : flV x = 0 := by omega
    refine ⟨false, [], 0, ⟨⟨Or.inl rfl, fun _ h => by simp at h, by simp⟩, by simp, ?_, by omega, by omega, Or.inl ⟨hz, rfl, rfl, rfl⟩⟩, hj _ _ _ h1⟩
    rw [hz2, at_zero]
    exact at_zero _
  · rw [c3] at g1
    have ht : t < 24 := g1.lt (by rw [show (2 : Int) ^ 24 = 16777216 from by decide]; omega)
    have hpos := g1.pos
    refine ⟨decide (flV x < 0), r, flE x + t, ⟨⟨g3, g4, fun _ => ?_⟩, by omega, ?_, by omega, by omega, Or.inr ⟨t, q, g1, g5, rfl, rfl⟩⟩, hj _ _ _ g7⟩
    · rintro rfl
      simp only [dv] at g5
      have := g1.2
      omega
    · rw [← at_up _ _ t (by omega)]
      congr 1
      have h3 : (flF x : Int) = 2 ^ t * dv 65536 r := by rw [g5]; exact g1.1
      unfold sv
      by_cases hneg : flV x < 0
      · rw [decide_eq_true hneg, if_pos rfl, Int.mul_neg, ← h3]
        omega
      · rw [decide_eq_false hneg, if_neg (by simp), ← h3]
        omega
theorem l3order_ev (x y : Nat) (hx : x < 4294967296) (hy : y < 4294967296) : Ev (fun k => spec_l3order.f k (x : Int) (y : Int)) (sgn (At (flV x) (flE x) - At (flV y) (flE y))) := by
  obtain ⟨s1, r1, e1, F1, p1⟩ := l2float_ev x hx
  obtain ⟨s2, r2, e2, F2, p2⟩ := l2float_ev y hy
  have g1 := F1.g
  have g2 := F2.g
  have l1 := F1.len
  have l2 := F2.len
  have b1 := F1.lo
  have b2 := F2.lo
  have b1' := F1.hi
  have b2' := F2.hi
  obtain ⟨s3, r3, g3, v3, l3, p3⟩ := l1neg_ev s2 r2 g2 (by omega)
  have hsum : ∃ s r e, Good1 s r ∧ sgn (sv s r) = sgn (At (flV x) (flE x) - At (flV y) (flE y)) ∧ Ev (fun k => spec_l2add.f k s1 r1 e1 s3 r3 e2) (s, r, e) := by
    rw [← F1.val, ← F2.val]
    unfold spec_l2add.f
    by_cases h : e1 < e2
    · simp only [h, if_true]
      obtain ⟨n, hn⟩ : ∃ n : Nat, e2 - e1 = (n : Int) := ⟨(e2 - e1).toNat, by omega⟩
      obtain ⟨s4, r4, g4, v4, l4, p4⟩ := l1up_ev s3 r3 n g3 (by omega) (by omega)
      obtain ⟨s5, r5, g5, v5, l5, p5⟩ := l1add_ev s4 s1 r4 r1 g4 g1 (by omega) (by omega)
      refine ⟨s5, r5, e1, g5, ?_, ?_⟩
      · rw [v5, v4, v3, at_split (sv s2 r2) e2 e1 b1 (by omega), at_split (sv s1 r1) e1 e1 b1 (Int.le_refl _), ← Int.mul_sub, sgn_scale (pow2_pos _), hn, Int.sub_self]
        congr 1
        rw [Int.mul_neg, Int.toNat_zero, Int.toNat_natCast, Int.pow_zero, Int.one_mul]
        generalize (2 : Int) ^ n * sv s2 r2 = z
        generalize sv s1 r1 = y
        omega
      · rw [w64 (by omega) (by omega), hn]
        refine Ev.bind p4 ?_
        refine Ev.bind p5 ?_
        exact ev_const rfl
    · simp only [h, if_false]
      obtain ⟨n, hn⟩ : ∃ n : Nat, e1 - e2 = (n : Int) := ⟨(e1 - e2).toNat, by omega⟩
      obtain ⟨s4, r4, g4, v4, l4, p4⟩ := l1up_ev s1 r1 n g1 (by omega) (by omega)
      obtain ⟨s5, r5, g5, v5, l5, p5⟩ := l1add_ev s4 s3 r4 r3 g4 g3 (by omega) (by omega)
      refine ⟨s5, r5, e2, g5, ?_, ?_⟩
      · rw [v5, v4, v3, at_split (sv s1 r1) e1 e2 b2 (by omega), at_split (sv s2 r2) e2 e2 b2 (Int.le_refl _), ← Int.mul_sub, sgn_scale (pow2_pos _), hn, Int.sub_self]
        congr 1
        rw [Int.toNat_zero, Int.toNat_natCast, Int.pow_zero, Int.one_mul]
        generalize (2 : Int) ^ n * sv s1 r1 = z
        generalize sv s2 r2 = y
        omega
      · rw [w64 (by omega) (by omega), hn]
        refine Ev.bind p4 ?_
        refine Ev.bind p5 ?_
        exact ev_const rfl
  obtain ⟨s, r, e, g, hs, p⟩ := hsum
  unfold spec_l3order.f
  refine Ev.bind p1 ?_
  refine Ev.bind p2 ?_
  have hn : Ev (fun k => spec_l2neg.f k s2 r2 e2) (s3, r3, e2) := by
    unfold spec_l2neg.f
    refine Ev.bind p3 ?_
    exact ev_const rfl
  refine Ev.bind hn ?_
  refine Ev.bind p ?_
  refine ev_const ?_
  dsimp only
  rw [← hs]
  unfold spec_l1sign.f sgn sv
  by_cases h0 : r = []
  · subst h0
    simp [dv]
  · have hlow := cn_low (by omega) g.d g.c h0
    have hone := one_le_ipow (B := 65536) (by omega) (r.length - 1)
    have hlen : 0 < r.length := List.length_pos_iff.2 h0
    rw [if_neg (by omega)]
    cases s with
    | true =>
      simp only [if_true]
      rw [if_pos (by omega)]
      rfl
    | false =>
      simp only [Bool.false_eq_true, if_false]
      rw [if_neg (by omega), if_neg (by omega)]
      rfl
theorem single_read (x : Nat) (hx : x < 4294967296) (h : x / 8388608 % 256 ≠ 255) : Ieee.single.read x = .number (decide (2147483648 ≤ x)) (flF x) (flE x) := by
  rw [fl_single x hx]
  have hs : (x / 2147483648 % 2 == 1) = decide (2147483648 ≤ x) := by
    by_cases hn : 2147483648 ≤ x
    · rw [decide_eq_true hn, beq_iff_eq]; omega
    · rw [decide_eq_false hn, beq_eq_false_iff_ne]; omega
  rw [hs]
  unfold flF flE
  by_cases he : 0 < x / 8388608 % 256
  · rw [if_neg (by omega), if_pos (by omega), if_pos he, if_pos he]
    congr 1
    · omega
    · omega
  · rw [if_pos (by omega), if_neg he, if_neg he]
    congr 1
    omega
theorem signed_at (x : Nat) (d : Int) (h : -149 ≤ d) (hd : d ≤ flE x) : At (flV x) (flE x) = 2 ^ (d + 149).toNat * Ieee.signed (decide (2147483648 ≤ x)) (flF x) (flE x - d).toNat := by
  rw [at_split (flV x) (flE x) d h hd]
  congr 1
  unfold Ieee.signed flV
  by_cases hn : 2147483648 ≤ x
  · rw [decide_eq_true hn, if_pos hn]
    simp only [if_true]
    rw [Nat.shiftLeft_eq, Int.mul_neg, Int.mul_comm]
    simp
  · rw [decide_eq_false hn, if_neg hn]
    simp only [Bool.false_eq_true, if_false]
    rw [Nat.shiftLeft_eq, Int.mul_comm]
    simp
theorem cmp_sgn (a b : Int) : (if (some (compare a b) == some Ordering.lt) = true then (-1 : Int) else if (some (compare a b) == some Ordering.gt) = true then 1 else 0) = sgn (a - b) := by
  unfold sgn
  rcases (by omega : a < b ∨ a = b ∨ b < a) with h3 | h3 | h3
  · have : compare a b = .lt := Int.compare_eq_lt.2 h3
    rw [this, if_pos (by omega : a - b < 0)]
    rfl
  · have : compare a b = .eq := Int.compare_eq_eq.2 h3
    rw [this, if_neg (by omega : ¬ a - b < 0), if_pos (by omega : a - b = 0)]
    rfl
  · have : compare a b = .gt := Int.compare_eq_gt.2 h3
    rw [this, if_neg (by omega : ¬ a - b < 0), if_neg (by omega : ¬ a - b = 0)]
    rfl
theorem order_f (x y : Nat) (hx : x < 4294967296) (hy : y < 4294967296) (h : x / 8388608 % 256 ≠ 255) (k : y / 8388608 % 256 ≠ 255) : impl_order.f (x : Int) (y : Int) = some (sgn (At (flV x) (flE x) - At (flV y) (flE y))) := by
  unfold impl_order.f Ieee.Format.order
  rw [Int.toNat_natCast, Int.toNat_natCast, single_read x hx h, single_read y hy k]
  simp only [Ieee.Datum.order]
  have h1 := flE_lo x
  have h2 := flE_lo y
  rw [signed_at x (min (flE x) (flE y)) (by omega) (by omega), signed_at y (min (flE x) (flE y)) (by omega) (by omega), ← Int.mul_sub, sgn_scale (pow2_pos _)]
  exact congrArg some (cmp_sgn _ _)
theorem l2finite_f (x : Nat) (hx : x < 4294967296) : spec_l2finite.f (x : Int) = some (x / 8388608 % 256 != 255) := by
  unfold spec_l2finite.f
  rw [show (8388608 : Int) = ((8388608 : Nat) : Int) from rfl, tdn]
  congr 1
  by_cases h : x / 8388608 % 256 = 255
  · rw [bne_eq_false_iff_eq.2 h, bne_eq_false_iff_eq]; omega
  · rw [bne_iff_ne.2 h, bne_iff_ne]; omega
theorem finite_f (x : Nat) (hx : x < 4294967296) : impl_finite.f (x : Int) = some (x / 8388608 % 256 != 255) := by
  unfold impl_finite.f
  rw [if_pos (by omega)]
  congr 1
  by_cases h : x / 8388608 % 256 = 255
  · rw [bne_eq_false_iff_eq.2 h, bne_eq_false_iff_eq]; omega
  · rw [bne_iff_ne.2 h, bne_iff_ne]; omega
theorem u32_nat {a : Int} (h : (Lit.int .u32 a).wf = true) : ∃ n : Nat, a = (n : Int) ∧ n < 4294967296 := by
  have h2 : 0 ≤ a ∧ a < 4294967296 := by
    simp [Lit.wf, IntKind.min, IntKind.max, IntKind.bits, IntKind.signed] at h
    omega
  obtain ⟨n, rfl⟩ := Int.eq_ofNat_of_zero_le h2.1
  exact ⟨n, rfl, by omega⟩

theorem FnExactFloatOrder : laws_FnExactFloatOrder.Pure := by
  intro a b ha hb
  obtain ⟨x, rfl, hx⟩ := u32_nat ha
  obtain ⟨y, rfl, hy⟩ := u32_nat hb
  refine Ev.rounds ?_
  have key : ∃ r, Ev (fun k => spec_FloatOrder.f k (x : Int) (y : Int)) r ∧ impl_FloatOrder.f (x : Int) (y : Int) = some r := by
    unfold spec_FloatOrder.f impl_FloatOrder.f
    rw [l2finite_f x hx, l2finite_f y hy, finite_f x hx, finite_f y hy]
    simp only [Option.bind_some]
    by_cases h : x / 8388608 % 256 = 255
    · rw [bne_eq_false_iff_eq.2 h]
      exact ⟨_, ev_const rfl, rfl⟩
    · rw [bne_iff_ne.2 h]
      simp only [if_true]
      by_cases k : y / 8388608 % 256 = 255
      · rw [bne_eq_false_iff_eq.2 k]
        exact ⟨_, ev_const rfl, rfl⟩
      · rw [bne_iff_ne.2 k]
        simp only [if_true]
        rw [order_f x y hx hy h k]
        exact ⟨_, ev_bindc (l3order_ev x y hx hy) rfl, rfl⟩
  obtain ⟨r, h1, h2⟩ := key
  unfold laws_FnExactFloatOrder.f
  refine Ev.bind h1 ?_
  rw [h2]
  refine ev_const ?_
  simp

end Go.Proofs.Ytcpdeenhjodmfaa.Pure
