/- The plain law behind FnExactDyOfSaid: the pure functions that the program's Go functions come to answer as the statement says, for every input that the row lets in. -/
import Derived.Test.YtcpdeenhjodmfaaQDyOfx5
namespace Go.Proofs.Ytcpdeenhjodmfaa.Pure
open Go.RowKit Go.Proofs.Ytcpdeenhjodmfaa.QDyOf Go.Proofs.YtcpdeenhjodmfaaW.PrintWords Go.Proofs.YtcpdeenhjodmfaaW.PrintLast Go.Proofs.YtcpdeenhjodmfaaW.PrintMore
set_option linter.unusedVariables false
set_option linter.unusedSimpArgs false
/-! ### rounds, and lists by index -/
theorem ev_const {α : Type} {a : Option α} {r : α} (h : a = some r) : Ev (fun _ => a) r := ⟨0, fun _ _ => h⟩
theorem ev_bindc {α β : Type} {g : Nat → Option α} {f : α → Option β} {a : α} {r : β} (h : Ev g a) (k : f a = some r) : Ev (fun n => (g n).bind f) r :=
  Ev.bind (f := fun _ => f) h (ev_const k)
theorem ev_cbind {α β : Type} {g : Option α} {f : Nat → α → Option β} {a : α} {r : β} (h : g = some a) (k : Ev (fun n => f n a) r) : Ev (fun n => g.bind (f n)) r :=
  Ev.bind (g := fun _ => g) (ev_const h) k
theorem rd_nat (xs : List Int) (i : Nat) : rd xs (i : Int) = xs.getD i 0 := by simp [rd]
theorem rd_at (pre rest : List Int) (r : Int) : rd (pre ++ r :: rest) ((pre.length : Nat) : Int) = r := by simp [rd]
theorem rdb_at (pre rest : List Bool) (r : Bool) : rdOf false (pre ++ r :: rest) ((pre.length : Nat) : Int) = r := by simp [rdOf]
theorem set_at {α : Type} (pre rest : List α) (r v : α) : (pre ++ r :: rest).set (((pre.length : Nat) : Int)).toNat v = (pre ++ [v]) ++ rest := by simp
theorem w64 {x : Int} (h0 : -9223372036854775808 ≤ x) (h1 : x ≤ 9223372036854775807) : wrap64 x = x := by unfold wrap64; omega
theorem len_snoc {α : Type} (pre : List α) (v : α) : (((pre ++ [v]).length : Nat) : Int) = ((pre.length : Nat) : Int) + 1 := by simp
def marks {α : Type} (M : Int → α) : Int → Nat → List α
  | _, 0 => []
  | k, n + 1 => M k :: marks M (k + 1) n
theorem marks_length {α : Type} (M : Int → α) : ∀ (n : Nat) (k : Int), (marks M k n).length = n
  | 0, _ => rfl
  | n + 1, k => by simp [marks, marks_length M n]

/-! ### digits to a base -/
def dv (B : Int) : List Int → Int
  | [] => 0
  | d :: ds => d + B * dv B ds
def Dg (B : Int) (l : List Int) : Prop := ∀ d ∈ l, 0 ≤ d ∧ d < B
def Cn (l : List Int) : Prop := l = [] ∨ l.getD (l.length - 1) 0 ≠ 0
theorem dv_append (B : Int) (xs ys : List Int) : dv B (xs ++ ys) = dv B xs + B ^ xs.length * dv B ys := by
  induction xs with
  | nil => simp [dv]
  | cons d ds ih => simp only [List.cons_append, dv, ih, List.length_cons]; grind
theorem dv_nonneg {B : Int} (hB : 0 < B) : ∀ {l : List Int}, Dg B l → 0 ≤ dv B l
  | [], _ => by simp [dv]
  | d :: ds, h => by
    have h1 := h d (by simp)
    have h2 := dv_nonneg hB (l := ds) (fun x hx => h x (by simp [hx]))
    have h3 : 0 ≤ B * dv B ds := Int.mul_nonneg (by omega) h2
    simp only [dv]
    omega
theorem dv_lt {B : Int} (hB : 0 < B) : ∀ {l : List Int}, Dg B l → dv B l < B ^ l.length
  | [], _ => by simp [dv]
  | d :: ds, h => by
    have h1 := h d (by simp)
    have h2 := dv_lt hB (l := ds) (fun x hx => h x (by simp [hx]))
    have h3 : B * (dv B ds + 1) ≤ B * B ^ ds.length := Int.mul_le_mul_of_nonneg_left (by omega) (by omega)
    simp only [dv, List.length_cons, Int.pow_succ]
    rw [Int.mul_add, Int.mul_one] at h3
    rw [Int.mul_comm (B ^ ds.length) B]
    omega
theorem dv_set (B : Int) : ∀ (l : List Int) (p : Nat) (v : Int), p < l.length → dv B (l.set p v) = dv B l + B ^ p * (v - l.getD p 0)
  | [], _, _, h => by simp at h
  | d :: ds, 0, v, _ => by simp [dv]; omega
  | d :: ds, p + 1, v, h => by
    have := dv_set B ds p v (by simpa using h)
    simp only [List.set_cons_succ, dv, this, List.getD_cons_succ]
    grind
theorem take_succ_getD (l : List Int) (p : Nat) (h : p < l.length) : l.take (p + 1) = l.take p ++ [l.getD p 0] := by
  rw [List.take_succ_eq_append_getElem h]
  simp [List.getD_eq_getElem?_getD, h]
theorem dv_take_succ (B : Int) (l : List Int) (p : Nat) (h : p < l.length) : dv B (l.take (p + 1)) = dv B (l.take p) + B ^ p * l.getD p 0 := by
  rw [take_succ_getD l p h, dv_append, List.length_take, Nat.min_eq_left (Nat.le_of_lt h)]
  simp [dv]
theorem dv_zeros (B : Int) : ∀ n : Nat, dv B (List.replicate n 0) = 0
  | 0 => rfl
  | n + 1 => by simp [List.replicate_succ, dv, dv_zeros B n]
theorem Dg.set {B : Int} {l : List Int} (h : Dg B l) {p : Nat} {v : Int} (h0 : 0 ≤ v) (h1 : v < B) : Dg B (l.set p v) := by
  intro d hd
  rcases List.mem_or_eq_of_mem_set hd with hd | rfl
  · exact h d hd
  · exact ⟨h0, h1⟩
theorem Dg.take {B : Int} {l : List Int} (h : Dg B l) (n : Nat) : Dg B (l.take n) := fun d hd => h d (List.mem_of_mem_take hd)
theorem Dg.zeros {B : Int} (hB : 0 < B) (n : Nat) : Dg B (List.replicate n 0) := fun d hd => by rw [List.eq_of_mem_replicate hd]; omega
theorem Dg.append {B : Int} {xs ys : List Int} (h : Dg B xs) (k : Dg B ys) : Dg B (xs ++ ys) := fun d hd => (List.mem_append.1 hd).elim (h d) (k d)
theorem Dg.get {B : Int} {l : List Int} (h : Dg B l) (hB : 0 < B) (p : Nat) : 0 ≤ l.getD p 0 ∧ l.getD p 0 < B := by
  rcases Nat.lt_or_ge p l.length with hp | hp
  · have : l.getD p 0 = l[p] := by simp [List.getD_eq_getElem?_getD, hp]
    rw [this]
    exact h _ (List.getElem_mem hp)
  · have : l.getD p 0 = 0 := by simp [List.getD_eq_getElem?_getD, hp]
    rw [this]
    omega
theorem dv_inj {B : Int} (hB : 0 < B) : ∀ {x y : List Int}, Dg B x → Dg B y → x.length = y.length → dv B x = dv B y → x = y
  | [], [], _, _, _, _ => rfl
  | [], _ :: _, _, _, h, _ => by simp at h
  | _ :: _, [], _, _, h, _ => by simp at h
  | a :: x, b :: y, hx, hy, hl, hv => by
    have h1 := hx a (by simp)
    have h2 := hy b (by simp)
    simp only [dv] at hv
    have hab : a = b := by
      have e1 : (a + B * dv B x) % B = a := by rw [Int.add_mul_emod_self_left]; exact Int.emod_eq_of_lt h1.1 h1.2
      have e2 : (b + B * dv B y) % B = b := by rw [Int.add_mul_emod_self_left]; exact Int.emod_eq_of_lt h2.1 h2.2
      rw [← e1, ← e2, hv]
    subst hab
    have hd : dv B x = dv B y := by
      have : B * dv B x = B * dv B y := by omega
      exact Int.eq_of_mul_eq_mul_left (by omega) this
    rw [dv_inj hB (fun d hd => hx d (by simp [hd])) (fun d hd => hy d (by simp [hd])) (by simpa using hl) hd]
theorem one_le_ipow {B : Int} (hB : 1 ≤ B) : ∀ d : Nat, 1 ≤ B ^ d
  | 0 => by simp
  | d + 1 => by
    have h1 := one_le_ipow hB d
    have h2 : B ^ d * 1 ≤ B ^ d * B := Int.mul_le_mul_of_nonneg_left hB (by omega)
    rw [Int.pow_succ]
    omega
theorem ipow_le {B : Int} (hB : 1 ≤ B) {m n : Nat} (h : m ≤ n) : B ^ m ≤ B ^ n := by
  obtain ⟨d, rfl⟩ : ∃ d, n = m + d := ⟨n - m, by omega⟩
  have h1 := one_le_ipow hB d
  have h0 := one_le_ipow hB m
  have h2 : B ^ m * 1 ≤ B ^ m * B ^ d := Int.mul_le_mul_of_nonneg_left h1 (by omega)
  rw [Int.pow_add]
  omega
theorem cn_low {B : Int} (hB : 0 < B) {l : List Int} (h : Dg B l) (hc : Cn l) (h0 : l ≠ []) : B ^ (l.length - 1) ≤ dv B l := by
  have hl : 0 < l.length := List.length_pos_iff.2 h0
  have ht : l.take (l.length - 1 + 1) = l := by rw [Nat.sub_add_cancel hl]; exact List.take_length
  have h1 := dv_take_succ B l (l.length - 1) (by omega)
  rw [ht] at h1
  have h2 := dv_nonneg hB (h.take (l.length - 1))
  have h3 := h.get hB (l.length - 1)
  have h4 : l.getD (l.length - 1) 0 ≠ 0 := hc.resolve_left h0
  have h5 : B ^ (l.length - 1) * 1 ≤ B ^ (l.length - 1) * l.getD (l.length - 1) 0 := Int.mul_le_mul_of_nonneg_left (by omega) (Int.le_of_lt (Int.pow_pos hB))
  rw [Int.mul_one] at h5
  omega
theorem cn_len {B : Int} (hB : 1 < B) {x y : List Int} (hx : Dg B x) (hy : Dg B y) (hcy : Cn y) (hv : dv B x = dv B y) : y.length ≤ x.length := by
  rcases Nat.lt_or_ge x.length y.length with h | h
  · have hy0 : y ≠ [] := by rintro rfl; simp at h
    have h1 := dv_lt (by omega) hx
    have h2 := cn_low (by omega) hy hcy hy0
    have h3 : B ^ x.length ≤ B ^ (y.length - 1) := ipow_le (by omega) (by omega)
    omega
  · exact h
theorem cn_uniq {B : Int} (hB : 1 < B) {x y : List Int} (hx : Dg B x) (hy : Dg B y) (hcx : Cn x) (hcy : Cn y) (hv : dv B x = dv B y) : x = y :=
  dv_inj (by omega) hx hy (Nat.le_antisymm (cn_len hB hy hx hcx hv.symm) (cn_len hB hx hy hcy hv)) hv
theorem rd_nat_add (xs : List Int) (i j : Nat) : rd xs ((i : Int) + (j : Int)) = xs.getD (i + j) 0 := by rw [← rd_nat]; simp
theorem dv_ne_nil {B : Int} {l : List Int} (h : dv B l ≠ 0) : l ≠ [] := by rintro rfl; exact h rfl

/-! ### the reference's product -/
structure Norm (l t : List Int) : Prop where
  val : ∀ B, dv B t = dv B l
  top : Cn t
  mem : ∀ d ∈ t, d ∈ l
  len : t.length ≤ l.length
theorem Norm.dg {B : Int} {l t : List Int} (h : Norm l t) (hd : Dg B l) : Dg B t := fun d hh => hd d (h.mem d hh)
theorem w64n {n : Nat} (h : n ≤ 9223372036854775807) : wrap64 (n : Int) = n := w64 (by omega) (by omega)
theorem getD_set_eq (l : List Int) (p : Nat) (v : Int) (h : p < l.length) : (l.set p v).getD p 0 = v := by simp [List.getD_eq_getElem?_getD, h]
theorem getD_set_ne (l : List Int) (p q : Nat) (v : Int) (h : p ≠ q) : (l.set p v).getD q 0 = l.getD q 0 := by simp [List.getD_eq_getElem?_getD, List.getElem?_set, h]
theorem mul_bound16 {x y : Int} (hx : 0 ≤ x) (hx1 : x < 65536) (hy : 0 ≤ y) (hy1 : y < 65536) : 0 ≤ x * y ∧ x * y ≤ 4294836225 := by
  refine ⟨Int.mul_nonneg hx hy, ?_⟩
  have h : x * y ≤ 65535 * 65535 := Int.mul_le_mul (by omega) (by omega) hy (by omega)
  simpa using h
theorem mul_bound32 {x y : Int} (hx : 0 ≤ x) (hx1 : x < 4294967296) (hy : 0 ≤ y) (hy1 : y < 4294967296) : 0 ≤ x * y ∧ x * y ≤ 18446744065119617025 := by
  refine ⟨Int.mul_nonneg hx hy, ?_⟩
  have h : x * y ≤ 4294967295 * 4294967295 := Int.mul_le_mul (by omega) (by omega) hy (by omega)
  simpa using h
theorem l1trim_l0 (l : List Int) (hl : l.length ≤ 4611686018427387904) : ∀ n : Nat, n ≤ l.length →
    ∃ m, m ≤ n ∧ Ev (fun k => spec_l1trim.l0 k l (n : Int)) (l.take m) ∧ (∀ B, dv B (l.take m) = dv B (l.take n)) ∧ Cn (l.take m)
  | 0, _ => ⟨0, Nat.le_refl _, ⟨1, fun k hk => by
      obtain ⟨k, rfl⟩ : ∃ m, k = m + 1 := ⟨k - 1, by omega⟩
      simp only [spec_l1trim.l0]
      rw [if_neg (by omega), if_pos (by omega), if_pos (by omega)]
      rfl⟩, fun _ => rfl, Or.inl (by simp)⟩
  | n + 1, hn => by
    have hw : wrap64 (((n + 1 : Nat) : Int) - 1) = (n : Int) := by rw [w64 (by omega) (by omega)]; omega
    by_cases h0 : l.getD n 0 = 0
    · obtain ⟨m, hm, hev, hv, hc⟩ := l1trim_l0 l hl n (by omega)
      refine ⟨m, by omega, Ev.step (fun k => ?_) hev, fun B => ?_, hc⟩
      · simp only [spec_l1trim.l0]
        rw [hw, if_pos (by omega), if_pos (by omega), if_pos (by omega), rd_nat, if_pos h0]
      · rw [hv B, dv_take_succ B l n (by omega), h0]
        omega
    · refine ⟨n + 1, Nat.le_refl _, ⟨1, fun k hk => ?_⟩, fun _ => rfl, Or.inr ?_⟩
      · obtain ⟨k, rfl⟩ : ∃ m, k = m + 1 := ⟨k - 1, by omega⟩
        simp only [spec_l1trim.l0]
        rw [hw, if_pos (by omega), if_pos (by omega), if_pos (by omega), rd_nat, if_neg h0, if_pos (by omega), if_pos (by omega), Int.toNat_natCast]
      · rw [List.length_take, Nat.min_eq_left hn]
        simpa [List.getD_eq_getElem?_getD, List.getElem?_take] using h0
theorem l1trim_ev (l : List Int) (hl : l.length ≤ 4611686018427387904) : ∃ t, Norm l t ∧ Ev (fun k => spec_l1trim.f k l) t := by
  obtain ⟨m, hm, hev, hv, hc⟩ := l1trim_l0 l hl l.length (Nat.le_refl _)
  exact ⟨_, ⟨fun B => by rw [hv B, List.take_length], hc, fun d hd => List.mem_of_mem_take hd, by simp; omega⟩, hev⟩
theorem l1make_ev (a : Bool) (l : List Int) (hl : l.length ≤ 4611686018427387904) : ∃ t, Norm l t ∧ Ev (fun k => spec_l1make.f k a l) (a && decide (0 < t.length), t) := by
  obtain ⟨t, ht, hev⟩ := l1trim_ev l hl
  refine ⟨t, ht, ev_bindc hev ?_⟩
  cases a <;> simp
theorem u64w {x : Int} (h0 : 0 ≤ x) (h1 : x < 18446744073709551616) : IntKind.u64.wrap x = x := by
  have : IntKind.u64.wrap x = x % 18446744073709551616 := by simp [IntKind.wrap, IntKind.bits, IntKind.signed]
  rw [this]
  exact Int.emod_eq_of_lt h0 h1

theorem limbstrim_ev : ∀ (n : Nat) (l : List Int), l.length = n → n ≤ 4611686018427387904 → ∃ t, Norm l t ∧ (∃ m, m ≤ n ∧ t = l.take m) ∧ Ev (fun k => impl_limbs_trim.l0 k l) t
  | 0, l, hl, _ => by
    obtain rfl : l = [] := List.eq_nil_of_length_eq_zero hl
    exact ⟨[], ⟨fun _ => rfl, Or.inl rfl, fun d hd => hd, Nat.le_refl _⟩, ⟨0, Nat.le_refl _, rfl⟩, ⟨1, fun k hk => by
      obtain ⟨k, rfl⟩ : ∃ m, k = m + 1 := ⟨k - 1, by omega⟩
      simp only [impl_limbs_trim.l0]
      rw [if_neg (by simp)]⟩⟩
  | n + 1, l, hl, hb => by
    have hw : wrap64 ((l.length : Int) - 1) = (n : Int) := by rw [w64 (by omega) (by omega)]; omega
    by_cases h0 : l.getD n 0 = 0
    · obtain ⟨t, ht, ⟨m, hm, he⟩, hev⟩ := limbstrim_ev n (l.take n) (by simp; omega) (by omega)
      refine ⟨t, ⟨fun B => ?_, ht.top, fun d hd => List.mem_of_mem_take (ht.mem d hd), by have := ht.len; simp at this; omega⟩, ⟨m, by omega, by rw [he, List.take_take, Nat.min_eq_left hm]⟩, Ev.step (fun k => ?_) hev⟩
      · rw [ht.val B]
        have h1 := dv_take_succ B l n (by omega)
        rw [← hl, List.take_length, h0] at h1
        omega
      · simp only [impl_limbs_trim.l0]
        rw [if_pos (by omega), hw, if_pos (by omega), if_pos (by omega), rd_nat, if_pos h0, if_pos (by omega), Int.toNat_natCast]
    · refine ⟨l, ⟨fun _ => rfl, Or.inr (by rw [hl]; exact h0), fun d hd => hd, Nat.le_refl _⟩, ⟨n + 1, Nat.le_refl _, by rw [← hl, List.take_length]⟩, ⟨1, fun k hk => ?_⟩⟩
      obtain ⟨k, rfl⟩ : ∃ m, k = m + 1 := ⟨k - 1, by omega⟩
      simp only [impl_limbs_trim.l0]
      rw [if_pos (by omega), hw, if_pos (by omega), if_pos (by omega), rd_nat, if_neg h0]
theorem limbstrim_f (l : List Int) (hl : l.length ≤ 4611686018427387904) : ∃ t, Norm l t ∧ Ev (fun k => impl_limbs_trim.f k l) t := by
  obtain ⟨t, ht, _, hev⟩ := limbstrim_ev l.length l rfl hl
  exact ⟨t, ht, Ev.congr (fun _ => rfl) hev⟩

theorem eqUint32S_l0 : ∀ (rest pre : List Int), (pre ++ rest).length ≤ 4611686018427387904 → Ev (fun k => laws_eqUint32S.l0 k (pre ++ rest) (pre ++ rest) ((pre.length : Nat) : Int)) true
  | [], pre, hl => ⟨1, fun k hk => by obtain ⟨k, rfl⟩ : ∃ m, k = m + 1 := ⟨k - 1, by omega⟩; simp only [laws_eqUint32S.l0]; rw [if_neg (by simp)]⟩
  | r :: rest, pre, hl => by
    have hlen : (pre ++ r :: rest).length = pre.length + (rest.length + 1) := by simp
    have h := eqUint32S_l0 rest (pre ++ [r]) (by simpa using hl)
    rw [len_snoc, List.append_assoc, List.singleton_append] at h
    refine Ev.step (fun k => ?_) h
    simp only [laws_eqUint32S.l0]
    rw [if_pos (by rw [hlen]; omega), if_pos (by omega), if_pos (by rw [hlen]; omega), if_pos trivial, w64 (by omega) (by omega)]
theorem eqUint32S_ev (l : List Int) (h : l.length ≤ 4611686018427387904) : Ev (fun k => laws_eqUint32S.f k l l) true := by
  have h1 := eqUint32S_l0 l [] (by simpa using h)
  refine Ev.congr (fun k => ?_) h1
  simp only [laws_eqUint32S.f]
  rw [if_pos trivial]
  rfl

theorem markUint32S_l0 : ∀ (rest pre : List Int) (z : Int), (pre ++ rest).length ≤ 4611686018427387904 → 0 ≤ z → z + rest.length ≤ 4611686018427387904 →
    Ev (fun k => laws_markUint32S.l0 k (pre ++ rest) z ((pre.length : Nat) : Int)) (z + rest.length, pre ++ marks (fun z => z % 4294967296) z rest.length)
  | [], pre, z, hl, h0, h1 => ⟨1, fun k hk => by obtain ⟨k, rfl⟩ : ∃ m, k = m + 1 := ⟨k - 1, by omega⟩; simp only [laws_markUint32S.l0]; rw [if_neg (by simp)]; simp [marks]⟩
  | r :: rest, pre, z, hl, h0, h1 => by
    have hlen : (pre ++ r :: rest).length = pre.length + (rest.length + 1) := by simp
    rw [List.length_cons] at h1
    have h := markUint32S_l0 rest (pre ++ [(fun z => z % 4294967296) z]) (z + 1) (by simpa using hl) (by omega) (by omega)
    rw [len_snoc, List.append_assoc pre [(fun z => z % 4294967296) z] rest, List.append_assoc pre [(fun z => z % 4294967296) z] (marks _ _ _), List.singleton_append, List.singleton_append, show z + 1 + (rest.length : Int) = z + ((r :: rest).length : Nat) from by rw [List.length_cons]; omega] at h
    refine Ev.step (fun k => ?_) h
    simp only [laws_markUint32S.l0]
    rw [if_pos (by rw [hlen]; omega), if_pos (by omega), set_at, w64 (by omega) (by omega), w64 (x := ((pre.length : Nat) : Int) + 1) (by omega) (by omega), List.append_assoc, List.singleton_append]
theorem markUint32S_ev (l : List Int) (z : Int) (h : l.length ≤ 4294967296) (h0 : 0 ≤ z) (h1 : z ≤ 4294967296) : Ev (fun k => laws_markUint32S.f k l z) (z + l.length, marks (fun z => z % 4294967296) z l.length) := by
  have h1 := markUint32S_l0 l [] z (by simp; omega) h0 (by omega)
  exact Ev.congr (fun k => rfl) h1

theorem heldUint32S_l0 : ∀ (n : Nat) (pre : List Int) (z : Int), pre.length + n ≤ 4611686018427387904 → 0 ≤ z → z + n ≤ 4611686018427387904 →
    Ev (fun k => laws_heldUint32S.l0 k (pre ++ marks (fun z => z % 4294967296) z n) z ((pre.length : Nat) : Int)) (z + n)
  | 0, pre, z, hl, h0, h1 => ⟨1, fun k hk => by obtain ⟨k, rfl⟩ : ∃ m, k = m + 1 := ⟨k - 1, by omega⟩; show laws_heldUint32S.l0 (k + 1) (pre ++ []) z _ = _; simp only [laws_heldUint32S.l0, List.append_nil]; rw [if_neg (by omega)]; simp⟩
  | n + 1, pre, z, hl, h0, h1 => by
    have hlen : (pre ++ marks (fun z => z % 4294967296) z (n + 1)).length = pre.length + (n + 1) := by simp [marks_length]
    have h := heldUint32S_l0 n (pre ++ [(fun z => z % 4294967296) z]) (z + 1) (by simp; omega) (by omega) (by omega)
    rw [len_snoc, List.append_assoc, List.singleton_append, show z + 1 + (n : Int) = z + ((n + 1 : Nat) : Int) from by omega] at h
    refine Ev.step (fun k => ?_) h
    rw [show marks (fun z => z % 4294967296) z (n + 1) = (fun z => z % 4294967296) z :: marks (fun z => z % 4294967296) (z + 1) n from rfl] at hlen ⊢
    simp only [laws_heldUint32S.l0]
    rw [if_pos (by rw [hlen]; omega), if_pos (by omega), if_pos (by rw [rd_at]), w64 (by omega) (by omega), w64 (x := ((pre.length : Nat) : Int) + 1) (by omega) (by omega)]
theorem heldUint32S_ev (n : Nat) (z : Int) (h : n ≤ 4294967296) (h0 : 0 ≤ z) (h1 : z ≤ 4294967296) : Ev (fun k => laws_heldUint32S.f k (marks (fun z => z % 4294967296) z n) z) (z + n) := by
  have h1 := heldUint32S_l0 n [] z (by simp; omega) h0 (by omega)
  exact Ev.congr (fun k => rfl) h1

/-! ### Big's helpers -/
theorem eqBig_ev (a : Bool) (l : List Int) (h : l.length ≤ 4611686018427387904) : Ev (fun k => laws_eqBig.f k a l a l) true := by
  refine Ev.congr (fun k => ?_) (ev_bindc (f := fun t => if t = true then some true else some false) (eqUint32S_ev l h) rfl)
  simp only [laws_eqBig.f]
  rw [if_neg (by simp)]

/-! ### limbs into digits, and back -/
def halves : List Int → List Int
  | [] => []
  | x :: r => x % 65536 :: x / 65536 :: halves r
def pairs : List Int → List Int
  | [] => []
  | [a] => [a]
  | a :: b :: r => (a + b * 65536) :: pairs r
theorem halves_append : ∀ xs ys : List Int, halves (xs ++ ys) = halves xs ++ halves ys
  | [], _ => rfl
  | x :: xs, ys => by simp [halves, halves_append xs ys]
theorem halves_length : ∀ l : List Int, (halves l).length = 2 * l.length
  | [] => rfl
  | x :: r => by simp only [halves, List.length_cons, halves_length r]; omega
theorem halves_dv : ∀ l : List Int, dv 65536 (halves l) = dv 4294967296 l
  | [] => rfl
  | x :: r => by
    simp only [halves, dv, halves_dv r]
    have := Int.mul_ediv_add_emod x 65536
    omega
theorem halves_dg : ∀ {l : List Int}, Dg 4294967296 l → Dg 65536 (halves l)
  | [], _ => fun d h => by simp [halves] at h
  | x :: r, h => by
    intro d hd
    have hx := h x (by simp)
    simp only [halves, List.mem_cons] at hd
    rcases hd with rfl | rfl | hd
    · omega
    · omega
    · exact halves_dg (fun z hz => h z (by simp [hz])) d hd
theorem pairs_dv : ∀ l : List Int, dv 4294967296 (pairs l) = dv 65536 l
  | [] => rfl
  | [a] => by simp [pairs, dv]
  | a :: b :: r => by
    simp only [pairs, dv, pairs_dv r]
    omega
theorem pairs_dg : ∀ {l : List Int}, Dg 65536 l → Dg 4294967296 (pairs l)
  | [], _ => fun d h => by simp [pairs] at h
  | [a], h => by
    intro d hd
    have := h a (by simp)
    simp only [pairs, List.mem_singleton] at hd
    omega
  | a :: b :: r, h => by
    intro d hd
    have ha := h a (by simp)
    have hb := h b (by simp)
    simp only [pairs, List.mem_cons] at hd
    rcases hd with rfl | hd
    · omega
    · exact pairs_dg (fun z hz => h z (by simp [hz])) d hd
theorem pairs_nil : ∀ {l : List Int}, pairs l = [] → l = []
  | [], _ => rfl
  | [a], h => by simp [pairs] at h
  | a :: b :: r, h => by simp [pairs] at h
theorem pairs_len : ∀ l : List Int, (pairs l).length ≤ l.length
  | [] => Nat.le_refl _
  | [a] => Nat.le_refl _
  | a :: b :: r => by have := pairs_len r; simp only [pairs, List.length_cons]; omega
theorem cn_cons (a : Int) {r : List Int} (h : r ≠ []) : Cn (a :: r) ↔ Cn r := by
  obtain ⟨b, s, rfl⟩ := List.exists_cons_of_ne_nil h
  simp [Cn]
theorem pairs_cn : ∀ {l : List Int}, Dg 65536 l → Cn l → Cn (pairs l)
  | [], _, _ => Or.inl rfl
  | [a], _, h => h
  | [a, b], hd, h => by
    have ha := hd a (by simp)
    have hb := hd b (by simp)
    simp [Cn] at h
    simp [Cn, pairs]
    omega
  | a :: b :: c :: r, hd, h => by
    have h1 : Cn (c :: r) := (cn_cons b (by simp)).1 ((cn_cons a (by simp)).1 h)
    have h2 := pairs_cn (fun z hz => hd z (by simp [hz])) h1
    have h3 : pairs (c :: r) ≠ [] := fun e => by have := pairs_nil e; simp at this
    exact (cn_cons _ h3).2 h2
def bigOut (a : Bool) (l : List Int) : Bool × List Int × Int := if (l.length : Int) > 512 then (false, [], 2) else (a, l, 0)
theorem l1big_l0 (a : Bool) : ∀ (rest pre out : List Int), Dg 65536 (pre ++ rest) → (pre ++ rest).length ≤ 1048576 → out.length ≤ pre.length →
    Ev (fun k => spec_l1big.l0 k ((pre.length : Nat) : Int) a (pre ++ rest) false out) (bigOut a (out ++ pairs rest))
  | [], pre, out, hd, hl, ho => ⟨1, fun k hk => by
    obtain ⟨k, rfl⟩ : ∃ m, k = m + 1 := ⟨k - 1, by omega⟩
    simp only [spec_l1big.l0, List.append_nil, pairs, bigOut]
    rw [if_neg (by omega)]
    split <;> rfl⟩
  | [x], pre, out, hd, hl, ho => by
    have hx := hd x (by simp)
    have hlen : (pre ++ [x]).length = pre.length + 1 := by simp
    have hend : Ev (fun k => spec_l1big.l0 k (((pre.length : Nat) : Int) + 2) a (pre ++ [x]) false (out ++ [x])) (bigOut a (out ++ [x])) := ⟨1, fun k hk => by
      obtain ⟨k, rfl⟩ : ∃ m, k = m + 1 := ⟨k - 1, by omega⟩
      simp only [spec_l1big.l0, bigOut]
      rw [if_neg (by rw [hlen]; omega)]
      split <;> rfl⟩
    refine Ev.step (fun k => ?_) hend
    simp only [spec_l1big.l0]
    rw [if_pos (by rw [hlen]; omega), if_pos (by omega), w64 (x := ((pre.length : Nat) : Int) + 1) (by omega) (by omega), if_neg (by rw [hlen]; omega), if_pos (by omega), rd_at, Int.emod_eq_of_lt (by omega) (by omega), w64 (by omega) (by omega)]
  | x :: y :: rest, pre, out, hd, hl, ho => by
    have hx := hd x (by simp)
    have hy := hd y (by simp)
    have hlen : (pre ++ x :: y :: rest).length = pre.length + (rest.length + 2) := by simp
    have h := l1big_l0 a rest (pre ++ [x] ++ [y]) (out ++ [x + y * 65536]) (by simpa using hd) (by simpa using hl) (by simp; omega)
    have e1 : pre ++ [x] ++ [y] ++ rest = pre ++ x :: y :: rest := by simp
    have e2 : out ++ [x + y * 65536] ++ pairs rest = out ++ pairs (x :: y :: rest) := by simp [pairs]
    have e3 : (((pre ++ [x] ++ [y]).length : Nat) : Int) = ((pre.length : Nat) : Int) + 2 := by simp only [List.length_append, List.length_singleton]; omega
    rw [e1, e2, e3] at h
    have hr2 : rd (pre ++ x :: y :: rest) (((pre.length : Nat) : Int) + 1) = y := by
      have := rd_at (pre ++ [x]) rest y
      rw [len_snoc, List.append_assoc, List.singleton_append] at this
      exact this
    refine Ev.step (fun k => ?_) h
    simp only [spec_l1big.l0]
    rw [if_pos (by rw [hlen]; omega), if_pos (by omega), w64 (x := ((pre.length : Nat) : Int) + 1) (by omega) (by omega), if_pos (by rw [hlen]; omega), if_pos (by omega), if_pos (by omega), rd_at, hr2, w64 (by omega) (by omega), Int.emod_eq_of_lt (a := y) (by omega) (by omega), Int.emod_eq_of_lt (by omega) (by omega)]
theorem l1big_ev (a : Bool) (l : List Int) (hd : Dg 65536 l) (hl : l.length ≤ 1048576) : Ev (fun k => spec_l1big.f k a l) (bigOut a (pairs l)) := by
  have h := l1big_l0 a l [] [] (by simpa using hd) (by simpa using hl) (Nat.le_refl _)
  exact Ev.congr (fun k => rfl) h
theorem big_f (a : Bool) (l : List Int) : impl_number_big.f a l = some (bigOut a l) := by
  unfold impl_number_big.f bigOut slices_Clone_uint32_uint32.f
  by_cases h : (l.length : Int) > 512
  · rw [if_pos h, if_pos h]
  · rw [if_neg h, if_neg h, if_pos (by omega)]
    rfl

theorem markBig_ev (a : Bool) (l : List Int) (z : Int) (h : l.length ≤ 4294967296) (h0 : 0 ≤ z) (h1 : z ≤ 4294967296) : Ev (fun k => laws_markBig.f k a l z) (z + l.length, marks (fun z => z % 4294967296) z l.length) :=
  ev_bindc (markUint32S_ev l z h h0 h1) rfl
theorem heldBig_ev (a : Bool) (n : Nat) (z : Int) (h : n ≤ 4294967296) (h0 : 0 ≤ z) (h1 : z ≤ 4294967296) : Ev (fun k => laws_heldBig.f k a (marks (fun z => z % 4294967296) z n) z) (z + n) :=
  ev_bindc (heldUint32S_ev n z h h0 h1) (by rw [if_neg (by omega)])
theorem wf_dg {l : List Int} (h : ∀ y ∈ l, (Lit.int .u32 y).wf = true) : Dg 4294967296 l := fun d hd => by
  have := h d hd
  simp [Lit.wf, IntKind.min, IntKind.max, IntKind.bits, IntKind.signed] at this
  omega

/-! ### words -/
theorem shr_eq (k : IntKind) (x : Int) (s : Nat) (h : s ≤ k.bits) : shr k x ((s : Nat) : Int) = x / 2 ^ s := by
  unfold shr
  rw [Int.toNat_natCast, Nat.min_eq_left h]
theorem shl_eq (k : IntKind) (x : Int) (s : Nat) (h : s ≤ k.bits) : shl k x ((s : Nat) : Int) = k.wrap (x * 2 ^ s) := by
  unfold shl
  rw [Int.toNat_natCast, Nat.min_eq_left h]
theorem tdn (n m : Nat) : Int.tdiv ((n : Nat) : Int) ((m : Nat) : Int) = ((n / m : Nat) : Int) := by
  rw [Int.tdiv_eq_ediv_of_nonneg (by omega)]; rfl
theorem tmn (n m : Nat) : Int.tmod ((n : Nat) : Int) ((m : Nat) : Int) = ((n % m : Nat) : Int) := by
  rw [Int.tmod_eq_emod_of_nonneg (by omega)]; rfl

/-! ### dyadic numbers: halving, shifting down -/
def Tw (V : Int) (t : Nat) (q : Int) : Prop := V = 2 ^ t * (2 * q + 1) ∧ 0 ≤ q
theorem tw_uniq : ∀ (t s : Nat) (q p : Int), (2 : Int) ^ t * (2 * q + 1) = 2 ^ s * (2 * p + 1) → t = s ∧ q = p
  | 0, 0, q, p, h => ⟨rfl, by simp at h; omega⟩
  | 0, s + 1, q, p, h => by
    rw [Int.pow_succ, Int.mul_assoc, Int.mul_left_comm] at h
    generalize 2 ^ s * (2 * p + 1) = P at h
    simp at h
    omega
  | t + 1, 0, q, p, h => by
    rw [Int.pow_succ, Int.mul_assoc, Int.mul_left_comm] at h
    generalize 2 ^ t * (2 * q + 1) = P at h
    simp at h
    omega
  | t + 1, s + 1, q, p, h => by
    rw [Int.pow_succ, Int.mul_assoc, Int.mul_left_comm, Int.pow_succ, Int.mul_assoc, Int.mul_left_comm (2 ^ s)] at h
    have h2 : (2 : Int) ^ t * (2 * q + 1) = 2 ^ s * (2 * p + 1) := by
      generalize 2 ^ t * (2 * q + 1) = P at h ⊢
      generalize 2 ^ s * (2 * p + 1) = Q at h ⊢
      omega
    obtain ⟨h3, h4⟩ := tw_uniq t s q p h2
    exact ⟨by omega, h4⟩
theorem Tw.uniq {V : Int} {t s : Nat} {q p : Int} (h : Tw V t q) (k : Tw V s p) : t = s ∧ q = p := tw_uniq t s q p (h.1.symm.trans k.1)
theorem tw_ex : ∀ (n : Nat) (V : Int), 0 < V → V ≤ n → ∃ t q, Tw V t q
  | 0, V, h, k => by omega
  | n + 1, V, h, k => by
    rcases Int.emod_two_eq V with h0 | h1
    · obtain ⟨t, q, e, hq⟩ := tw_ex n (V / 2) (by omega) (by omega)
      refine ⟨t + 1, q, ?_, hq⟩
      rw [Int.pow_succ, Int.mul_assoc, Int.mul_left_comm, ← e]
      omega
    · exact ⟨0, V / 2, by simp; omega, by omega⟩
theorem Tw.ex {V : Int} (h : 0 < V) : ∃ t q, Tw V t q := tw_ex V.toNat V h (by omega)
theorem Tw.half {V : Int} {t : Nat} {q : Int} (h : Tw V (t + 1) q) : V % 2 = 0 ∧ Tw (V / 2) t q := by
  obtain ⟨e, hq⟩ := h
  rw [Int.pow_succ, Int.mul_assoc, Int.mul_left_comm] at e
  refine ⟨?_, ?_, hq⟩ <;> generalize 2 ^ t * (2 * q + 1) = P at e ⊢ <;> omega
theorem Tw.odd {V : Int} {q : Int} (h : Tw V 0 q) : V % 2 = 1 := by
  obtain ⟨e, hq⟩ := h
  simp at e
  omega
theorem pow2_pos (s : Nat) : (0 : Int) < 2 ^ s := Int.pow_pos (by omega)
theorem Tw.div {V : Int} {t : Nat} {q : Int} (h : Tw V t q) : V / 2 ^ t = 2 * q + 1 := by
  rw [h.1]
  exact Int.mul_ediv_cancel_left _ (by have := pow2_pos t; omega)
/-- The bit n of V is 0 below t, and 1 at t. -/
theorem Tw.bit : ∀ {t : Nat} {V q : Int}, Tw V t q → ∀ n : Nat, n < t → V / 2 ^ n % 2 = 0
  | 0, _, _, _, n, hn => by omega
  | t + 1, V, q, h, 0, _ => by simpa using h.half.1
  | t + 1, V, q, h, n + 1, hn => by
    have := Tw.bit h.half.2 n (by omega)
    rwa [Int.ediv_ediv_of_nonneg (by omega), Int.mul_comm, ← Int.pow_succ] at this
theorem Tw.bit_at {t : Nat} {V q : Int} (h : Tw V t q) : V / 2 ^ t % 2 = 1 := by rw [h.div]; omega
theorem Tw.pos {V : Int} {t : Nat} {q : Int} (h : Tw V t q) : 0 < V := by
  have h1 := pow2_pos t
  have h2 : (0 : Int) < 2 ^ t * (2 * q + 1) := Int.mul_pos h1 (by have := h.2; omega)
  rw [h.1]; exact h2
theorem Tw.le {V : Int} {t : Nat} {q : Int} (h : Tw V t q) : 2 ^ t ≤ V := by
  have h1 := pow2_pos t
  have h2 : (2 : Int) ^ t * 1 ≤ 2 ^ t * (2 * q + 1) := Int.mul_le_mul_of_nonneg_left (by have := h.2; omega) (by omega)
  rw [h.1]; omega
theorem Tw.lt {V : Int} {t : Nat} {q : Int} (h : Tw V t q) {n : Nat} (k : V < 2 ^ n) : t < n := by
  rcases Nat.lt_or_ge t n with g | g
  · exact g
  · have h1 : (2 : Int) ^ n ≤ 2 ^ t := ipow_le (by omega) g
    have := h.le
    omega
theorem Tw.shift {V : Int} {t : Nat} {q : Int} (h : Tw V t q) (n : Nat) : Tw (2 ^ n * V) (n + t) q := ⟨by rw [h.1, Int.pow_add, Int.mul_assoc], h.2⟩
/-- A sum of a number and a multiple of a higher power of two. -/
theorem Tw.add {x : Int} {t : Nat} {q : Int} (h : Tw x t q) {n : Nat} (hn : t < n) {r : Int} (hr : 0 ≤ r) : Tw (x + 2 ^ n * r) t (q + 2 ^ (n - t - 1) * r) := by
  have e : (2 : Int) ^ n = 2 ^ t * (2 * 2 ^ (n - t - 1)) := by
    have : n = t + ((n - t - 1) + 1) := by omega
    conv => lhs; rw [this, Int.pow_add, Int.pow_succ]
    rw [Int.mul_comm (2 ^ (n - t - 1)) 2]
  have hp := Int.mul_nonneg (Int.le_of_lt (pow2_pos (n - t - 1))) hr
  refine ⟨?_, by have := h.2; omega⟩
  rw [h.1, e]
  generalize (2 : Int) ^ (n - t - 1) = u
  generalize (2 : Int) ^ t = v
  grind
/-- The digits behind a shift to the right by less than a digit: c is two to the shift, d two to the rest of the digit. -/
def sh (c d : Int) : List Int → List Int
  | [] => []
  | [x] => [x / c]
  | x :: y :: r => (x / c + y % c * d) :: sh c d (y :: r)
theorem sh_len (c d : Int) : ∀ l : List Int, (sh c d l).length = l.length
  | [] => rfl
  | [x] => rfl
  | x :: y :: r => by have := sh_len c d (y :: r); simp only [sh, List.length_cons] at this ⊢; omega
theorem sh_dv {c d B : Int} (hB : B = c * d) : ∀ (x : Int) (r : List Int), c * dv B (sh c d (x :: r)) + x % c = dv B (x :: r)
  | x, [] => by
    have := Int.mul_ediv_add_emod x c
    simp only [sh, dv, Int.mul_zero, Int.add_zero]
    exact this
  | x, y :: r => by
    have ih := sh_dv hB y r
    have h := Int.mul_ediv_add_emod x c
    rw [show dv B (x :: y :: r) = x + B * dv B (y :: r) from rfl, show sh c d (x :: y :: r) = (x / c + y % c * d) :: sh c d (y :: r) from rfl, show dv B ((x / c + y % c * d) :: sh c d (y :: r)) = (x / c + y % c * d) + B * dv B (sh c d (y :: r)) from rfl, ← ih]
    generalize dv B (sh c d (y :: r)) = D
    generalize x / c = u at *
    generalize x % c = v at *
    generalize y % c = w at *
    subst hB
    grind
theorem sh_digit {c d x y : Int} (hc : 0 < c) (hd : 0 < d) (hx : 0 ≤ x ∧ x < c * d) : 0 ≤ x / c ∧ x / c < d ∧ 0 ≤ y % c * d ∧ y % c * d ≤ c * d - d := by
  have h1 := Int.ediv_nonneg hx.1 (Int.le_of_lt hc)
  have h2 : x / c < d := Int.ediv_lt_of_lt_mul hc (by rw [Int.mul_comm]; exact hx.2)
  have h3 := Int.emod_nonneg y (show c ≠ 0 by omega)
  have h4 := Int.emod_lt_of_pos y hc
  have h5 : y % c * d ≤ (c - 1) * d := Int.mul_le_mul_of_nonneg_right (by omega) (by omega)
  rw [Int.sub_mul, Int.one_mul] at h5
  exact ⟨h1, h2, Int.mul_nonneg h3 (by omega), h5⟩
theorem sh_dg {c d B : Int} (hB : B = c * d) (hc : 0 < c) (hd : 0 < d) : ∀ {l : List Int}, Dg B l → Dg B (sh c d l)
  | [], h => h
  | [x], h => by
    have hx := h x (by simp)
    intro z hz
    simp only [sh, List.mem_singleton] at hz
    subst hz
    have := sh_digit (y := 0) hc hd (by rw [← hB]; exact hx)
    rw [hB]
    omega
  | x :: y :: r, h => by
    have hx := h x (by simp)
    have ih := sh_dg hB hc hd (l := y :: r) (fun z hz => h z (by simp at hz ⊢; right; exact hz))
    intro z hz
    simp only [sh, List.mem_cons] at hz
    rcases hz with rfl | hz
    · have := sh_digit (y := y) hc hd (by rw [← hB]; exact hx)
      rw [hB]
      omega
    · exact ih z hz
/-- What shifting down leaves: the number divided. -/
theorem sh_value {c d B : Int} (hB : B = c * d) (hc : 0 < c) (hd : 0 < d) {l : List Int} (hl : Dg B l) (w : Nat) (hw : w < l.length) : dv B (sh c d (l.drop w)) = dv B l / (B ^ w * c) := by
  have hB0 : 0 < B := by rw [hB]; exact Int.mul_pos hc hd
  have hBw : 0 < B ^ w := Int.pow_pos hB0
  obtain ⟨x, r, hxr⟩ : ∃ x r, l.drop w = x :: r := by
    rw [List.drop_eq_getElem_cons hw]
    exact ⟨_, _, rfl⟩
  have h1 := sh_dv hB x r
  rw [← hxr] at h1
  have h2 := dv_append B (l.take w) (l.drop w)
  rw [List.take_append_drop, List.length_take, Nat.min_eq_left (Nat.le_of_lt hw), ← h1] at h2
  have h3 := dv_nonneg hB0 (hl.take w)
  have h4 := dv_lt hB0 (hl.take w)
  rw [List.length_take, Nat.min_eq_left (Nat.le_of_lt hw)] at h4
  have h5 := Int.emod_nonneg x (show c ≠ 0 by omega)
  have h6 := Int.emod_lt_of_pos x hc
  generalize dv B (sh c d (l.drop w)) = D at *
  generalize dv B (l.take w) = L at *
  have h7 : B ^ w * (x % c) ≤ B ^ w * (c - 1) := Int.mul_le_mul_of_nonneg_left (by omega) (by omega)
  have h8 : 0 ≤ B ^ w * (x % c) := Int.mul_nonneg (by omega) h5
  rw [Int.mul_sub, Int.mul_one] at h7
  have h9 : dv B l = (L + B ^ w * (x % c)) + B ^ w * c * D := by rw [h2]; grind
  rw [h9, Int.add_mul_ediv_left _ _ (by have := Int.mul_pos hBw hc; omega), Int.ediv_eq_zero_of_lt (by omega) (by omega), Int.zero_add]
/-- One bit of a number, read out of its digit. -/
theorem dv_bit {B : Int} {W : Nat} (hB : B = 2 ^ W) {l : List Int} (hl : Dg B l) (w s : Nat) (hw : w < l.length) (hs : s < W) : dv B l / 2 ^ (W * w + s) % 2 = l.getD w 0 / 2 ^ s % 2 := by
  have hB0 : 0 < B := by rw [hB]; exact pow2_pos W
  have h2 := dv_append B (l.take w) (l.drop w)
  have h3 := dv_nonneg hB0 (hl.take w)
  have h4 := dv_lt hB0 (hl.take w)
  rw [List.take_append_drop, List.length_take, Nat.min_eq_left (Nat.le_of_lt hw)] at h2
  rw [List.length_take, Nat.min_eq_left (Nat.le_of_lt hw)] at h4
  have hd : l.drop w = l.getD w 0 :: l.drop (w + 1) := by
    rw [List.drop_eq_getElem_cons hw]
    simp [List.getD_eq_getElem?_getD, hw]
  have hBw : (2 : Int) ^ (W * w) = B ^ w := by rw [hB, Int.pow_mul]
  rw [Int.pow_add, hBw, ← Int.ediv_ediv_of_nonneg (Int.le_of_lt (Int.pow_pos hB0)), h2, Int.add_mul_ediv_left _ _ (by have : 0 < B ^ w := Int.pow_pos hB0; omega), Int.ediv_eq_zero_of_lt h3 h4, Int.zero_add, hd]
  simp only [dv]
  have hBs : B = 2 ^ s * (2 * 2 ^ (W - s - 1)) := by
    rw [hB, ← Int.mul_comm (2 ^ (W - s - 1)) 2, ← Int.pow_succ, ← Int.pow_add]
    congr 1
    omega
  generalize dv B (l.drop (w + 1)) = D
  generalize l.getD w 0 = x
  rw [hBs, Int.mul_assoc, Int.add_mul_ediv_left _ _ (by have := pow2_pos s; omega)]
  generalize x / 2 ^ s = X
  rw [Int.mul_assoc, Int.add_mul_emod_self_left]

/-! ### the reference's l1twos and l1down -/
theorem l1twos_l1 : ∀ (t : Nat) (v q : Int) (n c : Nat), Tw v t q → n ≤ 1048576 → c + t ≤ 64 → v < 65536 → Ev (fun k => spec_l1twos.l1 k (n : Int) v (c : Int)) (((16 * n + c + t : Nat)) : Int)
  | 0, v, q, n, c, h, hn, hc, hv => ⟨1, fun k hk => by
    obtain ⟨k, rfl⟩ : ∃ m, k = m + 1 := ⟨k - 1, by omega⟩
    have h0 := h.pos
    have h1 := h.odd
    simp only [spec_l1twos.l1]
    rw [if_neg (by rw [Int.tmod_eq_emod_of_nonneg (by omega)]; omega), w64 (x := (n : Int) * 16) (by omega) (by omega), w64 (by omega) (by omega)]
    congr 1
    omega⟩
  | t + 1, v, q, n, c, h, hn, hc, hv => by
    have h0 := h.pos
    have ⟨h1, h2⟩ := h.half
    have ih := l1twos_l1 t (v / 2) q n (c + 1) h2 hn (by omega) (by omega)
    rw [show 16 * n + (c + 1) + t = 16 * n + c + (t + 1) from by omega] at ih
    refine Ev.step (fun k => ?_) ih
    simp only [spec_l1twos.l1]
    rw [if_pos (by rw [Int.tmod_eq_emod_of_nonneg (by omega)]; omega), Int.tdiv_eq_ediv_of_nonneg (by omega), w64 (x := v / 2) (by omega) (by omega), w64 (x := (c : Int) + 1) (by omega) (by omega)]
    rfl
theorem l1twos_l0 (a : Bool) {t : Nat} {q : Int} : ∀ (rest pre : List Int), Dg 65536 (pre ++ rest) → (pre ++ rest).length ≤ 1048576 → dv 65536 pre = 0 → Tw (dv 65536 (pre ++ rest)) t q →
    Ev (fun k => spec_l1twos.l0 k ((pre.length : Nat) : Int) a (pre ++ rest)) (t : Int)
  | [], pre, hd, hl, hz, h => by
    have := h.pos
    rw [List.append_nil, hz] at this
    omega
  | x :: r, pre, hd, hl, hz, h => by
    have hx := hd x (by simp)
    have hlen : (pre ++ x :: r).length = pre.length + (r.length + 1) := by simp
    by_cases h0 : x = 0
    · subst h0
      have ih := l1twos_l0 a (t := t) (q := q) r (pre ++ [0]) (by simpa using hd) (by simpa using hl) (by rw [dv_append, hz]; simp [dv]) (by simpa using h)
      rw [List.append_assoc, List.singleton_append, len_snoc] at ih
      refine Ev.step (fun k => ?_) ih
      simp only [spec_l1twos.l0]
      rw [if_pos (by omega), if_pos (by rw [hlen]; omega), rd_at, if_pos rfl, w64 (by omega) (by omega)]
    · obtain ⟨t', q', h1⟩ := Tw.ex (V := x) (by omega)
      have h2 : t' < 16 := h1.lt (n := 16) (by have : (2 : Int) ^ 16 = 65536 := by decide
                                               omega)
      have hr : 0 ≤ dv 65536 r := dv_nonneg (by omega) (fun z hz' => hd z (by simp [hz']))
      have h3 := (h1.add h2 hr).shift (16 * pre.length)
      have h4 : (2 : Int) ^ (16 * pre.length) * (x + 2 ^ 16 * dv 65536 r) = dv 65536 (pre ++ x :: r) := by
        rw [dv_append, hz, Int.zero_add, Int.pow_mul]
        rfl
      rw [h4] at h3
      obtain ⟨h5, _⟩ := h.uniq h3
      have h6 := l1twos_l1 t' x q' pre.length 0 h1 (by omega) (by omega) hx.2
      rw [show 16 * pre.length + 0 + t' = t from by omega] at h6
      refine Ev.step (fun k => ?_) h6
      simp only [spec_l1twos.l0]
      rw [if_pos (by omega), if_pos (by rw [hlen]; omega), rd_at, if_neg h0]
      rfl
theorem l1twos_ev (a : Bool) {l : List Int} {t : Nat} {q : Int} (hd : Dg 65536 l) (hl : l.length ≤ 1048576) (h : Tw (dv 65536 l) t q) : Ev (fun k => spec_l1twos.f k a l) (t : Int) :=
  Ev.congr (fun _ => rfl) (l1twos_l0 a l [] hd hl rfl h)
theorem u64m (n m : Nat) (hm : 0 < m) (h : m ≤ 64) : IntKind.u64.wrap (Int.tmod ((n : Nat) : Int) ((m : Nat) : Int)) = ((n % m : Nat) : Int) := by
  have := Nat.mod_lt n hm
  rw [tmn, u64w (by omega) (by omega)]
theorem two16 (s : Nat) (h : s ≤ 16) : (65536 : Int) = 2 ^ s * 2 ^ (16 - s) := by
  rw [← Int.pow_add, show s + (16 - s) = 16 from by omega]
  decide
theorem two32 (s : Nat) (h : s ≤ 32) : (4294967296 : Int) = 2 ^ s * 2 ^ (32 - s) := by
  rw [← Int.pow_add, show s + (32 - s) = 32 from by omega]
  decide
theorem i64k (x : Int) (h0 : -9223372036854775808 ≤ x) (h1 : x ≤ 9223372036854775807) : IntKind.i64.wrap x = x := by rw [i64_w, w64 h0 h1]
theorem shl_hi {y d : Int} (hy : 0 ≤ y ∧ y < 65536) (hd : 0 < d) (hd1 : d ≤ 65536) : 0 ≤ y * d ∧ y * d ≤ 4294901760 := by
  refine ⟨Int.mul_nonneg hy.1 (by omega), ?_⟩
  have h : y * d ≤ 65535 * 65536 := Int.mul_le_mul (by omega) hd1 (by omega) (by omega)
  simpa using h
theorem spec_digit1 {x : Int} (n : Nat) (hx : 0 ≤ x ∧ x < 65536) : Int.tmod (shr .i64 x (IntKind.u64.wrap (Int.tmod ((n : Nat) : Int) 16))) 65536 = x / 2 ^ (n % 16) := by
  have hs := Nat.mod_lt n (show 16 > 0 by omega)
  rw [show (16 : Int) = ((16 : Nat) : Int) from rfl, u64m n 16 (by omega) (by omega), shr_eq _ _ _ (by simp [IntKind.bits]; omega)]
  have hc := pow2_pos (n % 16)
  have h1 := two16 (n % 16) (by omega)
  have h2 := sh_digit (y := 0) hc (pow2_pos (16 - n % 16)) (x := x) (by rw [← h1]; exact hx)
  have h3 : (2 : Int) ^ (16 - n % 16) ≤ 2 ^ 16 := ipow_le (by omega) (by omega)
  rw [show (2 : Int) ^ 16 = 65536 from by decide] at h3
  rw [Int.tmod_eq_emod_of_nonneg h2.1, Int.emod_eq_of_lt h2.1 (by omega)]
theorem spec_digit2 {x y : Int} (n : Nat) (hx : 0 ≤ x ∧ x < 65536) (hy : 0 ≤ y ∧ y < 65536) :
    Int.tmod (wrap64 ((shr .i64 x (IntKind.u64.wrap (Int.tmod ((n : Nat) : Int) 16))) + (Int.tmod (shl .i64 y (IntKind.u64.wrap (wrap64 (16 - (Int.tmod ((n : Nat) : Int) 16))))) 65536))) 65536 = x / 2 ^ (n % 16) + y % 2 ^ (n % 16) * 2 ^ (16 - n % 16) := by
  have hs := Nat.mod_lt n (show 16 > 0 by omega)
  have hc := pow2_pos (n % 16)
  have hd := pow2_pos (16 - n % 16)
  have h1 := two16 (n % 16) (by omega)
  have h2 := sh_digit (y := y) hc hd (x := x) (by rw [← h1]; exact hx)
  have h3 : (2 : Int) ^ (16 - n % 16) ≤ 2 ^ 16 := ipow_le (by omega) (by omega)
  rw [show (2 : Int) ^ 16 = 65536 from by decide] at h3
  have h4 := shl_hi hy hd h3
  have e1 : IntKind.u64.wrap (wrap64 (16 - Int.tmod ((n : Nat) : Int) 16)) = ((16 - n % 16 : Nat) : Int) := by
    rw [show (16 : Int) = ((16 : Nat) : Int) from rfl, tmn, w64 (by omega) (by omega), u64w (by omega) (by omega)]
    omega
  have e2 : IntKind.u64.wrap (Int.tmod ((n : Nat) : Int) 16) = ((n % 16 : Nat) : Int) := u64m n 16 (by omega) (by omega)
  rw [e1, e2, shr_eq _ _ _ (by simp [IntKind.bits]; omega), shl_eq _ _ _ (by simp [IntKind.bits]; omega), i64k _ (by omega) (by omega), Int.tmod_eq_emod_of_nonneg h4.1]
  have e3 : y * 2 ^ (16 - n % 16) % 65536 = y % 2 ^ (n % 16) * 2 ^ (16 - n % 16) := by
    conv => lhs; rw [h1, Int.mul_comm y, Int.mul_comm (2 ^ (n % 16)), Int.mul_emod_mul_of_pos _ _ hd]
    rw [Int.mul_comm]
  rw [e3, w64 (by omega) (by omega), Int.tmod_eq_emod_of_nonneg (by omega), Int.emod_eq_of_lt (by omega) (by omega)]
theorem l1down_l1 (n : Nat) (hn : n ≤ 1073741824) (a lost : Bool) : ∀ (rest pre out : List Int), Dg 65536 (pre ++ rest) → (pre ++ rest).length ≤ 1048576 → n / 16 < (pre ++ rest).length → out.length ≤ pre.length →
    ∃ t lost', Norm (out ++ sh (2 ^ (n % 16)) (2 ^ (16 - n % 16)) rest) t ∧ Ev (fun k => spec_l1down.l1 k (n : Int) lost out ((pre.length : Nat) : Int) a (pre ++ rest)) (a && decide (0 < t.length), t, lost')
  | [], pre, out, hd, hl, hw, ho => by
    rw [List.append_nil] at hd hl hw ⊢
    obtain ⟨t, ht, hev⟩ := l1make_ev a out (by omega)
    cases lost with
    | true =>
      refine ⟨t, true, by simpa [sh] using ht, Ev.step (fun k => ?_) (ev_bindc (f := fun bt => some (bt.1, bt.2, true)) hev rfl)⟩
      simp only [spec_l1down.l1]
      rw [if_neg (by omega), if_pos trivial]
    | false =>
      have hs := Nat.mod_lt n (show 16 > 0 by omega)
      have hp := pow2_pos (n % 16)
      have hp1 : (2 : Int) ^ (n % 16) ≤ 2 ^ 16 := ipow_le (by omega) (by omega)
      rw [show (2 : Int) ^ 16 = 65536 from by decide] at hp1
      refine ⟨t, _, by simpa [sh] using ht, Ev.step (fun k => ?_) (ev_bindc (f := fun bt => some (bt.1, bt.2, ((Int.tmod (rd pre (wrap64 (Int.tdiv ((n : Nat) : Int) 16))) (shl .i64 1 (IntKind.u64.wrap (Int.tmod ((n : Nat) : Int) 16)))) != 0))) hev rfl)⟩
      simp only [spec_l1down.l1]
      have e2 : IntKind.u64.wrap (Int.tmod ((n : Nat) : Int) 16) = ((n % 16 : Nat) : Int) := u64m n 16 (by omega) (by omega)
      have e3 : wrap64 (Int.tdiv ((n : Nat) : Int) 16) = ((n / 16 : Nat) : Int) := by
        rw [show (16 : Int) = ((16 : Nat) : Int) from rfl, tdn, w64 (by omega) (by omega)]
      have e4 : shl .i64 1 (((n % 16 : Nat)) : Int) ≠ 0 := by
        rw [shl_eq _ _ _ (by simp [IntKind.bits]; omega), Int.one_mul, i64k _ (by omega) (by omega)]
        omega
      rw [if_neg (by omega), if_neg (by simp), e2, e3, if_pos (by omega), if_pos (by omega), if_pos (by omega), if_neg e4]
  | [x], pre, out, hd, hl, hw, ho => by
    have hx := hd x (by simp)
    have hlen : (pre ++ [x]).length = pre.length + 1 := by simp
    obtain ⟨t, lost', ht, hev⟩ := l1down_l1 n hn a lost [] (pre ++ [x]) (out ++ [x / 2 ^ (n % 16)]) (by simpa using hd) (by simpa using hl) (by simpa using hw) (by simp; omega)
    rw [List.append_nil, len_snoc] at hev
    have e2 : IntKind.u64.wrap (Int.tmod ((n : Nat) : Int) 16) = ((n % 16 : Nat) : Int) := u64m n 16 (by omega) (by omega)
    refine ⟨t, lost', by simpa [sh] using ht, Ev.step (fun k => ?_) hev⟩
    simp only [spec_l1down.l1]
    rw [if_pos (by rw [hlen]; omega), if_pos (by omega), if_pos (by rw [e2]; omega), w64 (x := ((pre.length : Nat) : Int) + 1) (by omega) (by omega), if_neg (by rw [hlen]; omega), if_pos (by omega), rd_at, spec_digit1 n hx]
  | x :: y :: r, pre, out, hd, hl, hw, ho => by
    have hx := hd x (by simp)
    have hy := hd y (by simp)
    have hlen : (pre ++ x :: y :: r).length = pre.length + (r.length + 2) := by simp
    obtain ⟨t, lost', ht, hev⟩ := l1down_l1 n hn a lost (y :: r) (pre ++ [x]) (out ++ [x / 2 ^ (n % 16) + y % 2 ^ (n % 16) * 2 ^ (16 - n % 16)]) (by simpa using hd) (by simpa using hl) (by simpa using hw) (by simp; omega)
    rw [List.append_assoc, List.singleton_append, len_snoc] at hev
    have hr2 : rd (pre ++ x :: y :: r) (((pre.length : Nat) : Int) + 1) = y := by
      have := rd_at (pre ++ [x]) r y
      rw [len_snoc, List.append_assoc, List.singleton_append] at this
      exact this
    have hs := Nat.mod_lt n (show 16 > 0 by omega)
    have e2 : IntKind.u64.wrap (Int.tmod ((n : Nat) : Int) 16) = ((n % 16 : Nat) : Int) := u64m n 16 (by omega) (by omega)
    have e1 : IntKind.u64.wrap (wrap64 (16 - Int.tmod ((n : Nat) : Int) 16)) = ((16 - n % 16 : Nat) : Int) := by
      rw [show (16 : Int) = ((16 : Nat) : Int) from rfl, tmn, w64 (by omega) (by omega), u64w (by omega) (by omega)]
      omega
    refine ⟨t, lost', by simpa [sh] using ht, Ev.step (fun k => ?_) hev⟩
    simp only [spec_l1down.l1]
    rw [if_pos (by rw [hlen]; omega), if_pos (by omega), if_pos (by rw [e2]; omega), w64 (x := ((pre.length : Nat) : Int) + 1) (by omega) (by omega), if_pos (by rw [hlen]; omega), if_pos (by omega), if_pos (by rw [e1]; omega), if_pos (by omega), rd_at, hr2, spec_digit2 n hx hy]
theorem l1down_j1 (n : Nat) (hn : n ≤ 1073741824) (a lost : Bool) (l : List Int) (hd : Dg 65536 l) (hl : l.length ≤ 1048576) (hw : n / 16 < l.length) :
    ∃ t lost', Norm (sh (2 ^ (n % 16)) (2 ^ (16 - n % 16)) (l.drop (n / 16))) t ∧ Ev (fun k => spec_l1down.j1 k (n : Int) lost a l) (a && decide (0 < t.length), t, lost') := by
  obtain ⟨t, lost', ht, hev⟩ := l1down_l1 n hn a lost (l.drop (n / 16)) (l.take (n / 16)) [] (by rw [List.take_append_drop]; exact hd) (by rw [List.take_append_drop]; exact hl) (by rw [List.take_append_drop]; exact hw) (by simp)
  rw [List.take_append_drop, List.nil_append, List.length_take, Nat.min_eq_left (Nat.le_of_lt hw)] at *
  refine ⟨t, lost', ht, Ev.step (fun k => ?_) hev⟩
  simp only [spec_l1down.j1]
  have e3 : wrap64 (Int.tdiv ((n : Nat) : Int) 16) = ((n / 16 : Nat) : Int) := by
    rw [show (16 : Int) = ((16 : Nat) : Int) from rfl, tdn, w64 (by omega) (by omega)]
  rw [e3, if_neg (by omega)]
theorem l1down_l0 (n : Nat) (hn : n ≤ 1073741824) (a : Bool) (l : List Int) (hd : Dg 65536 l) (hl : l.length ≤ 1048576) (hw : n / 16 < l.length) :
    ∀ (d i : Nat) (lost : Bool), i + d = n / 16 → ∃ t lost', Norm (sh (2 ^ (n % 16)) (2 ^ (16 - n % 16)) (l.drop (n / 16))) t ∧ Ev (fun k => spec_l1down.l0 k (n : Int) lost (i : Int) a l) (a && decide (0 < t.length), t, lost')
  | 0, i, lost, hi => by
    obtain ⟨t, lost', ht, hev⟩ := l1down_j1 n hn a lost l hd hl hw
    have e3 : wrap64 (Int.tdiv ((n : Nat) : Int) 16) = ((n / 16 : Nat) : Int) := by
      rw [show (16 : Int) = ((16 : Nat) : Int) from rfl, tdn, w64 (by omega) (by omega)]
    refine ⟨t, lost', ht, Ev.step (fun k => ?_) hev⟩
    simp only [spec_l1down.l0]
    rw [e3, if_neg (by omega)]
  | d + 1, i, lost, hi => by
    have e3 : wrap64 (Int.tdiv ((n : Nat) : Int) 16) = ((n / 16 : Nat) : Int) := by
      rw [show (16 : Int) = ((16 : Nat) : Int) from rfl, tdn, w64 (by omega) (by omega)]
    cases lost with
    | true =>
      obtain ⟨t, lost', ht, hev⟩ := l1down_l0 n hn a l hd hl hw d (i + 1) true (by omega)
      refine ⟨t, lost', ht, Ev.step (fun k => ?_) hev⟩
      simp only [spec_l1down.l0]
      rw [e3, if_pos (by omega), if_pos (by omega), if_pos trivial, w64 (by omega) (by omega)]
      rfl
    | false =>
      obtain ⟨t, lost', ht, hev⟩ := l1down_l0 n hn a l hd hl hw d (i + 1) (rd l (i : Int) != 0) (by omega)
      refine ⟨t, lost', ht, Ev.step (fun k => ?_) hev⟩
      simp only [spec_l1down.l0]
      rw [e3, if_pos (by omega), if_pos (by omega), if_neg (by simp), if_pos (by omega), w64 (by omega) (by omega)]
      rfl
theorem l1down_ev (n : Nat) (hn : n ≤ 1073741824) (a : Bool) (l : List Int) (hd : Dg 65536 l) (hl : l.length ≤ 1048576) (hw : n / 16 < l.length) :
    ∃ t lost', Cn t ∧ Dg 65536 t ∧ dv 65536 t = dv 65536 l / 2 ^ n ∧ t.length ≤ l.length ∧ Ev (fun k => spec_l1down.f k a l (n : Int)) (a && decide (0 < t.length), t, lost') := by
  obtain ⟨t, lost', ht, hev⟩ := l1down_l0 n hn a l hd hl hw (n / 16) 0 false (by omega)
  have hs := Nat.mod_lt n (show 16 > 0 by omega)
  have hB := two16 (n % 16) (by omega)
  refine ⟨t, lost', ht.top, ht.dg (sh_dg hB (pow2_pos _) (pow2_pos _) (fun x hx => hd x (List.mem_of_mem_drop hx))), ?_, ?_, Ev.congr (fun _ => rfl) hev⟩
  · rw [ht.val, sh_value hB (pow2_pos _) (pow2_pos _) hd _ hw]
    congr 1
    rw [show (65536 : Int) = 2 ^ 16 from by decide, ← Int.pow_mul, ← Int.pow_add]
    congr 1
    omega
  · have := ht.len
    rw [sh_len, List.length_drop] at this
    omega
theorem l2norm_ev (a : Bool) (l : List Int) (e : Int) (hd : Dg 65536 l) (hc : Cn l) (hl : l.length ≤ 8192) (he0 : -1000000 ≤ e) (he1 : e ≤ 1000000) :
    (l = [] ∧ Ev (fun k => spec_l2norm.f k a l e) (false, [], 0)) ∨
    ∃ t q r, Tw (dv 65536 l) t q ∧ t ≤ 131072 ∧ Cn r ∧ Dg 65536 r ∧ dv 65536 r = 2 * q + 1 ∧ r.length ≤ l.length ∧ Ev (fun k => spec_l2norm.f k a l e) (a, r, e + t) := by
  by_cases h0 : l = []
  · subst h0
    exact Or.inl ⟨rfl, ev_const rfl⟩
  · right
    have hlow := cn_low (by omega) hd hc h0
    have hhigh := dv_lt (by omega) hd
    have hone := one_le_ipow (B := 65536) (by omega) (l.length - 1)
    have hpos : 0 < l.length := List.length_pos_iff.2 h0
    obtain ⟨t, q, h⟩ := Tw.ex (V := dv 65536 l) (by omega)
    have ht : t < 16 * l.length := h.lt (by rw [Int.pow_mul]; exact hhigh)
    obtain ⟨r, lost', c1, c2, c3, c4, c5⟩ := l1down_ev t (by omega) a l hd (by omega) (by omega)
    rw [h.div] at c3
    have hr : 0 < r.length := List.length_pos_iff.2 (dv_ne_nil (B := 65536) (by rw [c3]; have := h.2; omega))
    rw [decide_eq_true hr, Bool.and_true] at c5
    refine ⟨t, q, r, h, by omega, c1, c2, c3, c4, ?_⟩
    refine Ev.congr (fun k => ?_) (Ev.bind (l1twos_ev a hd (by omega) h) (f := fun k t => (spec_l1down.f k a l t).bind fun bt => some (bt.1, bt.2.1, wrap64 (e + t))) (ev_bindc c5 (r := (a, r, e + t)) (by rw [w64 (by omega) (by omega)])))
    unfold spec_l2norm.f
    rw [if_neg (by omega)]

/-! ### the program's twos, shiftDown and normal -/
theorem band1 (x : Nat) (hx : x < 4294967296) : Go.bits .and .u32 ((x : Nat) : Int) 1 = ((x % 2 : Nat) : Int) := by
  show IntKind.u32.wrap (((BitVec.ofInt 32 ((x : Nat) : Int) &&& BitVec.ofInt 32 ((1 : Nat) : Int)).toNat : Nat) : Int) = _
  rw [BitVec.toNat_and, BitVec.ofInt_natCast, BitVec.ofInt_natCast, BitVec.toNat_ofNat, BitVec.toNat_ofNat, Nat.mod_eq_of_lt (a := x) (by omega), Nat.mod_eq_of_lt (a := 1) (by omega), Nat.and_one_is_mod]
  have : IntKind.u32.wrap ((x % 2 : Nat) : Int) = ((x % 2 : Nat) : Int) % 4294967296 := by simp [IntKind.wrap, IntKind.bits, IntKind.signed]
  rw [this]
  omega
theorem bor_hi (x y : Nat) (hx : x < 4294967296) (hy : y < 4294967296) : Go.bits .or .u64 ((x : Nat) : Int) ((y * 4294967296 : Nat) : Int) = ((x + y * 4294967296 : Nat) : Int) := by
  show IntKind.u64.wrap (((BitVec.ofInt 64 ((x : Nat) : Int) ||| BitVec.ofInt 64 ((y * 4294967296 : Nat) : Int)).toNat : Nat) : Int) = _
  have h := Nat.two_pow_add_eq_or_of_lt (i := 32) (b := x) (by omega) y
  rw [BitVec.toNat_or, BitVec.ofInt_natCast, BitVec.ofInt_natCast, BitVec.toNat_ofNat, BitVec.toNat_ofNat, Nat.mod_eq_of_lt (a := x) (by omega), Nat.mod_eq_of_lt (a := y * 4294967296) (by omega), Nat.or_comm, show y * 4294967296 = 2 ^ 32 * y from by omega, ← h, u64w (by omega) (by omega)]
  omega
theorem twos_l0 {l : List Int} (hd : Dg 4294967296 l) (hl : l.length ≤ 1048576) {t : Nat} {q : Int} (h : Tw (dv 4294967296 l) t q) : ∀ (d n : Nat), n + d = t → Ev (fun k => impl_limbs_twos.l0 k l (n : Int)) (t : Int) := by
  have ht : t < 32 * l.length := h.lt (by rw [Int.pow_mul]; exact dv_lt (by omega) hd)
  have key : ∀ n : Nat, n ≤ t → 0 ≤ wrap64 (Int.tdiv (n : Int) 32) ∧ wrap64 (Int.tdiv (n : Int) 32) < (l.length : Int) ∧ 0 ≤ Int.tmod (n : Int) 32 ∧ Go.bits .and .u32 (shr .u32 (rd l (wrap64 (Int.tdiv (n : Int) 32))) (Int.tmod (n : Int) 32)) 1 = dv 4294967296 l / 2 ^ n % 2 := by
    intro n hn
    have hs := Nat.mod_lt n (show 32 > 0 by omega)
    have e3 : wrap64 (Int.tdiv ((n : Nat) : Int) 32) = ((n / 32 : Nat) : Int) := by
      rw [show (32 : Int) = ((32 : Nat) : Int) from rfl, tdn, w64 (by omega) (by omega)]
    have e4 : Int.tmod ((n : Nat) : Int) 32 = ((n % 32 : Nat) : Int) := by
      rw [show (32 : Int) = ((32 : Nat) : Int) from rfl, tmn]
    have hg := hd.get (by omega) (n / 32)
    have hb := dv_bit (W := 32) (by decide) hd (n / 32) (n % 32) (by omega) hs
    rw [Nat.div_add_mod] at hb
    rw [e3, e4, rd_nat, shr_eq _ _ _ (by simp [IntKind.bits]; omega), hb]
    refine ⟨by omega, by omega, by omega, ?_⟩
    generalize l.getD (n / 32) 0 = x at hg ⊢
    have h0 : 0 ≤ x / 2 ^ (n % 32) := Int.ediv_nonneg hg.1 (Int.le_of_lt (pow2_pos _))
    have h1 : x / 2 ^ (n % 32) ≤ x := Int.ediv_le_self _ hg.1
    generalize x / 2 ^ (n % 32) = z at h0 h1 ⊢
    obtain ⟨z, rfl⟩ := Int.eq_ofNat_of_zero_le h0
    rw [band1 z (by omega)]
    rfl
  intro d
  induction d with
  | zero =>
    intro n hn
    obtain rfl : n = t := by omega
    obtain ⟨k1, k2, k3, k4⟩ := key n (Nat.le_refl _)
    exact ⟨1, fun k hk => by
      obtain ⟨k, rfl⟩ : ∃ m, k = m + 1 := ⟨k - 1, by omega⟩
      simp only [impl_limbs_twos.l0]
      rw [if_pos k1, if_pos k2, if_pos k3, if_neg (by rw [k4, h.bit_at]; omega)]⟩
  | succ d ih =>
    intro n hn
    obtain ⟨k1, k2, k3, k4⟩ := key n (by omega)
    refine Ev.step (fun k => ?_) (ih (n + 1) (by omega))
    simp only [impl_limbs_twos.l0]
    rw [if_pos k1, if_pos k2, if_pos k3, if_pos (by rw [k4, h.bit n (by omega)]), w64 (by omega) (by omega)]
    rfl
theorem twos_ev {l : List Int} (hd : Dg 4294967296 l) (hl : l.length ≤ 1048576) {t : Nat} {q : Int} (h : Tw (dv 4294967296 l) t q) : Ev (fun k => impl_limbs_twos.f k l) (t : Int) :=
  Ev.congr (fun _ => rfl) (twos_l0 hd hl h t 0 (by omega))
theorem impl_digit1 {x : Int} (n : Nat) (hx : 0 ≤ x ∧ x < 4294967296) : shr .u64 (IntKind.u64.wrap x) (Int.tmod ((n : Nat) : Int) 32) % 4294967296 = x / 2 ^ (n % 32) := by
  have hs := Nat.mod_lt n (show 32 > 0 by omega)
  rw [show (32 : Int) = ((32 : Nat) : Int) from rfl, tmn, shr_eq _ _ _ (by simp [IntKind.bits]; omega), u64w (by omega) (by omega)]
  have h0 : 0 ≤ x / 2 ^ (n % 32) := Int.ediv_nonneg hx.1 (Int.le_of_lt (pow2_pos _))
  have h1 : x / 2 ^ (n % 32) ≤ x := Int.ediv_le_self _ hx.1
  exact Int.emod_eq_of_lt h0 (by omega)
theorem impl_digit2 {x y : Int} (n : Nat) (hx : 0 ≤ x ∧ x < 4294967296) (hy : 0 ≤ y ∧ y < 4294967296) :
    shr .u64 (Go.bits .or .u64 (IntKind.u64.wrap x) (IntKind.u64.wrap ((IntKind.u64.wrap y) * 4294967296))) (Int.tmod ((n : Nat) : Int) 32) % 4294967296 = x / 2 ^ (n % 32) + y % 2 ^ (n % 32) * 2 ^ (32 - n % 32) := by
  have hs := Nat.mod_lt n (show 32 > 0 by omega)
  have hc := pow2_pos (n % 32)
  have hd := pow2_pos (32 - n % 32)
  have hB := two32 (n % 32) (by omega)
  have h2 := sh_digit (y := y) hc hd (x := x) (by rw [← hB]; exact hx)
  rw [show (32 : Int) = ((32 : Nat) : Int) from rfl, tmn, shr_eq _ _ _ (by simp [IntKind.bits]; omega), u64w (x := x) (by omega) (by omega), u64w (x := y) (by omega) (by omega), u64w (by omega) (by omega)]
  have e : Go.bits .or .u64 x (y * 4294967296) = x + y * 4294967296 := by
    obtain ⟨x, rfl⟩ := Int.eq_ofNat_of_zero_le hx.1
    obtain ⟨y, rfl⟩ := Int.eq_ofNat_of_zero_le hy.1
    have := bor_hi x y (by omega) (by omega)
    simpa using this
  rw [e]
  have e2 : (x + y * 4294967296) / 2 ^ (n % 32) = x / 2 ^ (n % 32) + 2 ^ (32 - n % 32) * y := by
    rw [hB, show y * (2 ^ (n % 32) * 2 ^ (32 - n % 32)) = 2 ^ (n % 32) * (2 ^ (32 - n % 32) * y) from by grind, Int.add_mul_ediv_left _ _ (by omega)]
  have e3 : 2 ^ (32 - n % 32) * y = y % 2 ^ (n % 32) * 2 ^ (32 - n % 32) + 4294967296 * (y / 2 ^ (n % 32)) := by
    rw [hB]
    have := Int.mul_ediv_add_emod y (2 ^ (n % 32))
    generalize y / 2 ^ (n % 32) = u at *
    generalize y % 2 ^ (n % 32) = v at *
    subst this
    grind
  rw [e2, e3, ← Int.add_assoc, Int.add_mul_emod_self_left, Int.emod_eq_of_lt (by omega) (by omega)]
theorem shdown_l1 (n : Nat) (hn : n ≤ 1073741824) (lost : Bool) : ∀ (rest pre o : List Int), Dg 4294967296 (pre ++ rest) → (pre ++ rest).length ≤ 1048576 → o.length = pre.length →
    ∃ t, Norm (o ++ sh (2 ^ (n % 32)) (2 ^ (32 - n % 32)) rest) t ∧ Ev (fun k => impl_limbs_shiftDown.l1 k (pre ++ rest) (n : Int) lost (o ++ List.replicate rest.length 0) (((pre ++ rest).length : Nat) : Int) ((pre.length : Nat) : Int)) (t, lost)
  | [], pre, o, hd, hl, ho => by
    rw [List.append_nil] at hd hl ⊢
    obtain ⟨t, ht, hev⟩ := limbstrim_f o (by omega)
    refine ⟨t, by simpa [sh] using ht, Ev.step (fun k => ?_) (ev_bindc (f := fun t => some (t, lost)) hev rfl)⟩
    simp only [impl_limbs_shiftDown.l1]
    rw [if_neg (by omega)]
    simp
  | [x], pre, o, hd, hl, ho => by
    have hx := hd x (by simp)
    have hlen : (pre ++ [x]).length = pre.length + 1 := by simp
    obtain ⟨t, ht, hev⟩ := shdown_l1 n hn lost [] (pre ++ [x]) (o ++ [x / 2 ^ (n % 32)]) (by simpa using hd) (by simpa using hl) (by simp; omega)
    rw [List.append_nil, len_snoc] at hev
    refine ⟨t, by simpa [sh] using ht, Ev.step (fun k => ?_) hev⟩
    simp only [impl_limbs_shiftDown.l1]
    rw [if_pos (by rw [hlen]; omega), if_pos (by omega), if_pos (by rw [hlen]; omega), w64 (x := ((pre.length : Nat) : Int) + 1) (by omega) (by omega), if_neg (by rw [hlen]; omega), if_pos (by rw [show (32 : Int) = ((32 : Nat) : Int) from rfl, tmn]; omega), if_pos (by simp; omega), rd_at, impl_digit1 n hx]
    have := set_at o [] 0 (x / 2 ^ (n % 32))
    rw [ho] at this
    simp only [List.length_singleton, List.replicate_one]
    rw [this]
    simp
  | x :: y :: r, pre, o, hd, hl, ho => by
    have hx := hd x (by simp)
    have hy := hd y (by simp)
    have hlen : (pre ++ x :: y :: r).length = pre.length + (r.length + 2) := by simp
    obtain ⟨t, ht, hev⟩ := shdown_l1 n hn lost (y :: r) (pre ++ [x]) (o ++ [x / 2 ^ (n % 32) + y % 2 ^ (n % 32) * 2 ^ (32 - n % 32)]) (by simpa using hd) (by simpa using hl) (by simp; omega)
    rw [List.append_assoc, List.singleton_append, len_snoc] at hev
    have hr2 : rd (pre ++ x :: y :: r) (((pre.length : Nat) : Int) + 1) = y := by
      have := rd_at (pre ++ [x]) r y
      rw [len_snoc, List.append_assoc, List.singleton_append] at this
      exact this
    refine ⟨t, by simpa [sh] using ht, Ev.step (fun k => ?_) hev⟩
    simp only [impl_limbs_shiftDown.l1]
    rw [if_pos (by rw [hlen]; omega), if_pos (by omega), if_pos (by rw [hlen]; omega), w64 (x := ((pre.length : Nat) : Int) + 1) (by omega) (by omega), if_pos (by rw [hlen]; omega), if_pos (by omega), if_pos (by rw [show (32 : Int) = ((32 : Nat) : Int) from rfl, tmn]; omega), if_pos (by simp; omega), rd_at, hr2, impl_digit2 n hx hy]
    have := set_at o (List.replicate (y :: r).length 0) 0 (x / 2 ^ (n % 32) + y % 2 ^ (n % 32) * 2 ^ (32 - n % 32))
    rw [ho] at this
    rw [show (x :: y :: r).length = (y :: r).length + 1 from rfl, List.replicate_succ, this]
theorem shdown_l0 (n : Nat) (hn : n ≤ 1073741824) (l : List Int) (hd : Dg 4294967296 l) (hl : l.length ≤ 1048576) (hw : n / 32 < l.length) :
    ∀ (d i : Nat) (lost : Bool), i + d = n / 32 → ∃ t lost', Norm (sh (2 ^ (n % 32)) (2 ^ (32 - n % 32)) (l.drop (n / 32))) t ∧
      Ev (fun k => impl_limbs_shiftDown.l0 k l (n : Int) lost (l.take (n / 32)) (((l.take (n / 32)).length : Nat) : Int) (i : Int)) (t, lost')
  | 0, i, lost, hi => by
    obtain ⟨t, ht, hev⟩ := shdown_l1 n hn lost (l.drop (n / 32)) [] [] (fun z hz => hd z (List.mem_of_mem_drop (by simpa using hz))) (by simp; omega) rfl
    have e3 : wrap64 (Int.tdiv ((n : Nat) : Int) 32) = ((n / 32 : Nat) : Int) := by
      rw [show (32 : Int) = ((32 : Nat) : Int) from rfl, tdn, w64 (by omega) (by omega)]
    have hlt : (l.take (n / 32)).length = n / 32 := by rw [List.length_take]; omega
    have hld : (l.drop (n / 32)).length = l.length - n / 32 := List.length_drop
    refine ⟨t, lost, by simpa using ht, Ev.step (fun k => ?_) hev⟩
    simp only [impl_limbs_shiftDown.l0]
    rw [e3, Int.toNat_natCast, if_neg (by omega), if_pos (by omega), if_pos (by omega), if_pos (by omega), if_pos (by omega)]
    simp
  | d + 1, i, lost, hi => by
    have hlt : (l.take (n / 32)).length = n / 32 := by rw [List.length_take]; omega
    cases lost with
    | true =>
      obtain ⟨t, lost', ht, hev⟩ := shdown_l0 n hn l hd hl hw d (i + 1) true (by omega)
      refine ⟨t, lost', ht, Ev.step (fun k => ?_) hev⟩
      simp only [impl_limbs_shiftDown.l0]
      rw [if_pos (by omega), if_pos (by omega), if_pos (by omega), if_pos trivial, w64 (by omega) (by omega)]
      rfl
    | false =>
      obtain ⟨t, lost', ht, hev⟩ := shdown_l0 n hn l hd hl hw d (i + 1) (rd (l.take (n / 32)) (i : Int) != 0) (by omega)
      refine ⟨t, lost', ht, Ev.step (fun k => ?_) hev⟩
      simp only [impl_limbs_shiftDown.l0]
      rw [if_pos (by omega), if_pos (by omega), if_pos (by omega), if_neg (by simp), w64 (by omega) (by omega)]
      rfl
theorem shdown_ev (n : Nat) (hn : n ≤ 1073741824) (l : List Int) (hd : Dg 4294967296 l) (hl : l.length ≤ 1048576) (hw : n / 32 < l.length) :
    ∃ t lost', Cn t ∧ Dg 4294967296 t ∧ dv 4294967296 t = dv 4294967296 l / 2 ^ n ∧ t.length ≤ l.length ∧ Ev (fun k => impl_limbs_shiftDown.f k l (n : Int)) (t, lost') := by
  have e3 : wrap64 (Int.tdiv ((n : Nat) : Int) 32) = ((n / 32 : Nat) : Int) := by
    rw [show (32 : Int) = ((32 : Nat) : Int) from rfl, tdn, w64 (by omega) (by omega)]
  obtain ⟨t, lost', ht, hev⟩ := shdown_l0 n hn l hd hl hw (n / 32) 0 ((Go.bits .and .u32 (rd l (wrap64 (Int.tdiv ((n : Nat) : Int) 32))) (((shl .u32 1 (Int.tmod ((n : Nat) : Int) 32)) - 1) % 4294967296)) != 0) (by omega)
  have hs := Nat.mod_lt n (show 32 > 0 by omega)
  have hB := two32 (n % 32) (by omega)
  refine ⟨t, lost', ht.top, ht.dg (sh_dg hB (pow2_pos _) (pow2_pos _) (fun x hx => hd x (List.mem_of_mem_drop hx))), ?_, ?_, Ev.congr (fun k => ?_) hev⟩
  · rw [ht.val, sh_value hB (pow2_pos _) (pow2_pos _) hd _ hw]
    congr 1
    rw [show (4294967296 : Int) = 2 ^ 32 from by decide, ← Int.pow_mul, ← Int.pow_add]
    congr 1
    omega
  · have := ht.len
    rw [sh_len, List.length_drop] at this
    omega
  · unfold impl_limbs_shiftDown.f
    rw [e3, if_neg (by omega), if_pos (by omega), if_pos (by omega), if_pos (by rw [show (32 : Int) = ((32 : Nat) : Int) from rfl, tmn]; omega), if_pos (by omega)]
    rfl
theorem normal_ev (a : Bool) (l : List Int) (e : Int) (hd : Dg 4294967296 l) (hc : Cn l) (hl : l.length ≤ 8192) (he0 : -1000000 ≤ e) (he1 : e ≤ 1000000) :
    (l = [] ∧ Ev (fun k => impl_dyadic_normal.f k a l e) (false, [], 0)) ∨
    ∃ t q r, Tw (dv 4294967296 l) t q ∧ t ≤ 262144 ∧ Cn r ∧ Dg 4294967296 r ∧ dv 4294967296 r = 2 * q + 1 ∧ r.length ≤ l.length ∧ Ev (fun k => impl_dyadic_normal.f k a l e) (a, r, e + t) := by
  by_cases h0 : l = []
  · subst h0
    exact Or.inl ⟨rfl, ev_const rfl⟩
  · right
    have hlow := cn_low (by omega) hd hc h0
    have hhigh := dv_lt (by omega) hd
    have hone := one_le_ipow (B := 4294967296) (by omega) (l.length - 1)
    have hpos : 0 < l.length := List.length_pos_iff.2 h0
    obtain ⟨t, q, h⟩ := Tw.ex (V := dv 4294967296 l) (by omega)
    have ht : t < 32 * l.length := h.lt (by rw [Int.pow_mul]; exact hhigh)
    obtain ⟨r, lost', c1, c2, c3, c4, c5⟩ := shdown_ev t (by omega) l hd (by omega) (by omega)
    rw [h.div] at c3
    refine ⟨t, q, r, h, by omega, c1, c2, c3, c4, ?_⟩
    refine Ev.congr (fun k => ?_) (Ev.bind (twos_ev hd (by omega) h) (f := fun k t => (impl_limbs_shiftDown.f k l t).bind fun bt => some (a, bt.1, wrap64 (e + t))) (ev_bindc c5 (r := (a, r, e + t)) (by rw [w64 (by omega) (by omega)])))
    unfold impl_dyadic_normal.f
    rw [if_neg (by omega)]

/-! ### both normal forms -/
structure Two (m m' : List Int) : Prop where
  c : Cn m
  c' : Cn m'
  d : Dg 65536 m
  d' : Dg 4294967296 m'
  v : dv 65536 m = dv 4294967296 m'
theorem Two.nil {m m' : List Int} (h : Two m m') : m = [] ↔ m' = [] := by
  constructor
  · rintro rfl
    apply Classical.byContradiction
    intro h0
    have h1 := cn_low (by omega) h.d' h.c' h0
    have h2 := one_le_ipow (B := 4294967296) (by omega) (m'.length - 1)
    have h3 := h.v
    simp only [dv] at h3
    omega
  · rintro rfl
    apply Classical.byContradiction
    intro h0
    have h1 := cn_low (by omega) h.d h.c h0
    have h2 := one_le_ipow (B := 65536) (by omega) (m.length - 1)
    have h3 := h.v
    simp only [dv] at h3
    omega
theorem Two.pairs {m m' : List Int} (h : Two m m') : pairs m = m' := cn_uniq (by omega) (pairs_dg h.d) h.d' (pairs_cn h.d h.c) h.c' (by rw [pairs_dv, h.v])
theorem two_nil : Two [] [] := ⟨Or.inl rfl, Or.inl rfl, fun _ h => by simp at h, fun _ h => by simp at h, rfl⟩
def Nrm (s : Bool) (m : List Int) (e : Int) : Prop := (m = [] ∧ s = false ∧ e = 0) ∨ dv 65536 m % 2 = 1
theorem norm_both (s s' : Bool) (m m' : List Int) (e : Int) (h : Two m m') (hs : m ≠ [] → s = s') (hl : m.length ≤ 8192) (hl' : m'.length ≤ 8192) (he0 : -600000 ≤ e) (he1 : e ≤ 600000) :
    ∃ s2 n n' e2, Two n n' ∧ Nrm s2 n e2 ∧ n.length ≤ m.length ∧ n'.length ≤ m'.length ∧ (e2 = 0 ∨ e ≤ e2 ∧ e2 ≤ e + 131072) ∧ Ev (fun k => spec_l2norm.f k s m e) (s2, n, e2) ∧ Ev (fun k => impl_dyadic_normal.f k s' m' e) (s2, n', e2) := by
  rcases l2norm_ev s m e h.d h.c hl (by omega) (by omega) with ⟨h0, h1⟩ | ⟨t, q, r, c1, c2, c3, c4, c5, c6, c7⟩ <;> rcases normal_ev s' m' e h.d' h.c' hl' (by omega) (by omega) with ⟨g0, g1⟩ | ⟨t', q', r', d1, d2, d3, d4, d5, d6, d7⟩
  · exact ⟨false, [], [], 0, two_nil, Or.inl ⟨rfl, rfl, rfl⟩, Nat.zero_le _, Nat.zero_le _, Or.inl rfl, h1, g1⟩
  · have g0 := h.nil.1 h0
    have := d1.pos
    rw [g0] at this
    simp [dv] at this
  · have g0' := h.nil.2 g0
    have := c1.pos
    rw [g0'] at this
    simp [dv] at this
  · rw [← h.v] at d1
    obtain ⟨rfl, rfl⟩ := c1.uniq d1
    have hm : m ≠ [] := by
      rintro rfl
      have := c1.pos
      simp [dv] at this
    obtain rfl := hs hm
    exact ⟨s, r, r', e + t, ⟨c3, d3, c4, d4, by rw [c5, d5]⟩, Or.inr (by rw [c5]; omega), c6, d6, Or.inr ⟨by omega, by omega⟩, c7, d7⟩
theorem norm_idem (s : Bool) (m : List Int) (e : Int) (hn : Nrm s m e) (hc : Cn m) (hd : Dg 65536 m) (hl : m.length ≤ 8192) (he0 : -1000000 ≤ e) (he1 : e ≤ 1000000) : Ev (fun k => spec_l2norm.f k s m e) (s, m, e) := by
  rcases l2norm_ev s m e hd hc hl he0 he1 with ⟨h0, h1⟩ | ⟨t, q, r, c1, c2, c3, c4, c5, c6, c7⟩
  · rcases hn with ⟨_, g1, g2⟩ | g
    · rw [h0, g1, g2] at *
      rw [g1] at h1
      exact h1
    · rw [h0] at g
      simp [dv] at g
  · rcases hn with ⟨g0, _, _⟩ | g
    · have := c1.pos
      rw [g0] at this
      simp [dv] at this
    · have h0 := c1.pos
      obtain ⟨rfl, rfl⟩ := c1.uniq (s := 0) (p := dv 65536 m / 2) ⟨by simp; omega, by omega⟩
      have : r = m := cn_uniq (by omega) c4 hd c3 hc (by rw [c5]; omega)
      rw [this] at c7
      simpa using c7
def dyOut (s : Bool) (m : List Int) (e : Int) : Bool × List Int × Int × Int :=
  if (bigOut s m).2.2 = 0 then (if e < -20000 then (false, [], 0, 2) else (if e > 20000 then (false, [], 0, 2) else ((bigOut s m).1, (bigOut s m).2.1, e, 0))) else (false, [], 0, 2)
theorem bigOut_len (s : Bool) (m : List Int) : (bigOut s m).2.1.length ≤ 512 := by
  unfold bigOut
  split
  · simp
  · dsimp only
    omega
theorem dyOut_len (s : Bool) (m : List Int) (e : Int) : (dyOut s m e).2.1.length ≤ 512 := by
  have := bigOut_len s m
  unfold dyOut
  split
  · split
    · simp
    · split
      · simp
      · exact this
  · simp
theorem l2out_ev (s : Bool) (m : List Int) (e : Int) {s2 : Bool} {n n' : List Int} {e2 : Int} (hd : Two n n') (hl : n.length ≤ 1048576) (h : Ev (fun k => spec_l2norm.f k s m e) (s2, n, e2)) : Ev (fun k => spec_l2out.f k s m e) (dyOut s2 n' e2) := by
  have h1 := l1big_ev s2 n hd.d hl
  rw [hd.pairs] at h1
  unfold spec_l2out.f
  refine Ev.bind h ?_
  dsimp only
  refine Ev.bind h1 ?_
  refine ev_const ?_
  unfold dyOut
  split
  · split
    · rfl
    · split <;> rfl
  · rfl
theorem out_ev (s : Bool) (m : List Int) (e : Int) {s2 : Bool} {n' : List Int} {e2 : Int} (h : Ev (fun k => impl_dyadic_normal.f k s m e) (s2, n', e2)) : Ev (fun k => impl_dyadic_out.f k s m e) (dyOut s2 n' e2) := by
  unfold impl_dyadic_out.f
  refine Ev.bind h ?_
  dsimp only
  rw [big_f]
  simp only [Option.bind_some]
  refine ev_const ?_
  unfold dyOut
  split
  · split
    · rfl
    · split <;> rfl
  · rfl

/-! ### l1small -/
def sv (s : Bool) (m : List Int) : Int := if s then -dv 65536 m else dv 65536 m
structure Good1 (s : Bool) (m : List Int) : Prop where
  c : Cn m
  d : Dg 65536 m
  s : s = true → m ≠ []
theorem cn_cons' (a : Int) {r : List Int} (h : r ≠ []) : Cn (a :: r) ↔ Cn r := by
  obtain ⟨b, s, rfl⟩ := List.exists_cons_of_ne_nil h
  simp [Cn]
theorem cn_cons_nz {a : Int} {r : List Int} (h : Cn r) (ha : r = [] → a ≠ 0) : Cn (a :: r) := by
  by_cases h0 : r = []
  · subst h0
    exact Or.inr (by simpa using ha rfl)
  · exact (cn_cons' a h0).2 h
theorem l1small_l0 (s : Bool) : ∀ (m : Nat) (u : Int) (out : List Int), 0 ≤ u → u < 65536 ^ m → u < 18446744073709551616 → m + out.length ≤ 1000 →
    ∃ t, Cn t ∧ Dg 65536 t ∧ dv 65536 t = u ∧ t.length ≤ m ∧ Ev (fun k => spec_l1small.l0 k s u out) (s, out ++ t)
  | 0, u, out, h0, h1, _, hm => by
    simp at h1
    obtain rfl : u = 0 := by omega
    exact ⟨[], Or.inl rfl, fun _ h => by simp at h, rfl, by simp, ⟨1, fun k hk => by
      obtain ⟨k, rfl⟩ : ∃ m, k = m + 1 := ⟨k - 1, by omega⟩
      simp only [spec_l1small.l0]
      rw [if_neg (by omega)]
      simp⟩⟩
  | m + 1, u, out, h0, h1, h2, hm => by
    by_cases hu : u = 0
    · subst hu
      exact ⟨[], Or.inl rfl, fun _ h => by simp at h, rfl, by simp, ⟨1, fun k hk => by
        obtain ⟨k, rfl⟩ : ∃ m, k = m + 1 := ⟨k - 1, by omega⟩
        simp only [spec_l1small.l0]
        rw [if_neg (by omega)]
        simp⟩⟩
    · have hq : u / 65536 < 65536 ^ m := Int.ediv_lt_of_lt_mul (by omega) (by rw [← Int.pow_succ]; exact h1)
      obtain ⟨t, c1, c2, c3, c4, c5⟩ := l1small_l0 s m (u / 65536) (out ++ [u % 65536]) (by omega) hq (by omega) (by simp; omega)
      refine ⟨u % 65536 :: t, cn_cons_nz c1 (fun h => by rw [h] at c3; simp only [dv] at c3; omega), fun z hz => ?_, ?_, by simp; omega, ?_⟩
      · rcases List.mem_cons.1 hz with rfl | hz
        · omega
        · exact c2 z hz
      · simp only [dv]
        rw [c3]
        omega
      · rw [List.append_assoc, List.singleton_append] at c5
        refine Ev.step (fun k => ?_) c5
        simp only [spec_l1small.l0]
        rw [if_pos (by omega), if_pos (by omega), Int.tdiv_eq_ediv_of_nonneg h0, Int.tmod_eq_emod_of_nonneg h0, u64w (by omega) (by omega), w64 (by omega) (by omega)]
theorem l1small_ev (v : Int) (h0 : -9223372036854775808 < v) (h1 : v < 9223372036854775808) :
    ∃ t, Cn t ∧ Dg 65536 t ∧ dv 65536 t = v.natAbs ∧ t.length ≤ 4 ∧ Ev (fun k => spec_l1small.f k v) (decide (v < 0), t) := by
  obtain ⟨t, c1, c2, c3, c4, c5⟩ := l1small_l0 (decide (v < 0)) 4 (v.natAbs : Int) [] (by omega) (by rw [show (65536 : Int) ^ 4 = 18446744073709551616 from by decide]; omega) (by omega) (by simp)
  refine ⟨t, c1, c2, c3, c4, ?_⟩
  have hw : ∀ z : Int, IntKind.u64.wrap z = z % 18446744073709551616 := fun z => by simp [IntKind.wrap, IntKind.bits, IntKind.signed]
  have hj : Ev (fun k => spec_l1small.j0 k (decide (v < 0)) (v.natAbs : Int)) (decide (v < 0), t) := Ev.step (f := fun k => spec_l1small.l0 k (decide (v < 0)) (v.natAbs : Int) []) (fun k => rfl) (by simpa using c5)
  refine Ev.congr (fun k => ?_) hj
  unfold spec_l1small.f
  by_cases h : v < 0
  · rw [if_pos h, hw, hw]
    congr 1
    omega
  · rw [if_neg h, hw]
    congr 1
    omega

/-! ### finite -/
theorem l2finite_f (x : Nat) (hx : x < 4294967296) : spec_l2finite.f (x : Int) = some (x / 8388608 % 256 != 255) := by
  unfold spec_l2finite.f
  rw [show (8388608 : Int) = ((8388608 : Nat) : Int) from rfl, tdn]
  congr 1
  by_cases h : x / 8388608 % 256 = 255
  · rw [bne_eq_false_iff_eq.2 h, bne_eq_false_iff_eq]; omega
  · rw [bne_iff_ne.2 h, bne_iff_ne]; omega
theorem finite_f (x : Nat) (hx : x < 4294967296) : impl_finite.f (x : Int) = some (x / 8388608 % 256 != 255) := by
  unfold impl_finite.f
  rw [if_pos (by omega)]
  congr 1
  by_cases h : x / 8388608 % 256 = 255
  · rw [bne_eq_false_iff_eq.2 h, bne_eq_false_iff_eq]; omega
  · rw [bne_iff_ne.2 h, bne_iff_ne]; omega
theorem u32_nat {a : Int} (h : (Lit.int .u32 a).wf = true) : ∃ n : Nat, a = (n : Int) ∧ n < 4294967296 := by
  have h2 : 0 ≤ a ∧ a < 4294967296 := by
    simp [Lit.wf, IntKind.min, IntKind.max, IntKind.bits, IntKind.signed] at h
    omega
  obtain ⟨n, rfl⟩ := Int.eq_ofNat_of_zero_le h2.1
  exact ⟨n, rfl, by omega⟩

/-! ### the reference's float -/
def At (v e : Int) : Int := v * 2 ^ (e + 149).toNat
theorem at_split (v e d : Int) (h : -149 ≤ d) (hd : d ≤ e) : At v e = 2 ^ (d + 149).toNat * (2 ^ (e - d).toNat * v) := by
  unfold At
  rw [show (e + 149).toNat = (d + 149).toNat + (e - d).toNat from by omega, Int.pow_add, Int.mul_comm v, Int.mul_assoc]
theorem at_zero (e : Int) : At 0 e = 0 := Int.zero_mul _
theorem at_up (v e : Int) (t : Nat) (h : -149 ≤ e) : At (2 ^ t * v) e = At v (e + t) := by
  unfold At
  rw [show (e + t + 149).toNat = (e + 149).toNat + t from by omega, Int.pow_add, Int.mul_comm (2 ^ t) v, Int.mul_assoc, Int.mul_comm (2 ^ t)]
def flF (x : Nat) : Nat := if 0 < x / 8388608 % 256 then x % 8388608 + 8388608 else x % 8388608
def flE (x : Nat) : Int := (if 0 < x / 8388608 % 256 then ((x / 8388608 % 256 : Nat) : Int) else 1) - 150
def flV (x : Nat) : Int := if 2147483648 ≤ x then -(flF x : Int) else (flF x : Int)
theorem flF_lt (x : Nat) : flF x < 16777216 := by unfold flF; split <;> omega
theorem flE_lo (x : Nat) : -149 ≤ flE x := by unfold flE; split <;> omega
theorem flE_hi (x : Nat) : flE x ≤ 105 := by unfold flE; split <;> omega
theorem flV_abs (x : Nat) : (flV x).natAbs = flF x := by unfold flV; split <;> omega
theorem fl_e0 (x : Nat) : (Int.tdiv ((x : Nat) : Int) 8388608) % 256 = ((x / 8388608 % 256 : Nat) : Int) := by
  rw [show (8388608 : Int) = ((8388608 : Nat) : Int) from rfl, tdn]
  rfl
theorem fl_e1 (x : Nat) : wrap64 (Int.tmod ((x : Nat) : Int) 8388608) = ((x % 8388608 : Nat) : Int) := by
  rw [show (8388608 : Int) = ((8388608 : Nat) : Int) from rfl, tmn, w64 (by omega) (by omega)]
structure FlR (x : Nat) (s : Bool) (r : List Int) (e : Int) : Prop where
  g : Good1 s r
  len : r.length ≤ 4
  val : At (sv s r) e = At (flV x) (flE x)
  lo : -149 ≤ e
  hi : e ≤ 200
  how : (flF x = 0 ∧ r = [] ∧ s = false ∧ e = 0) ∨ (∃ t q, Tw (flF x) t q ∧ dv 65536 r = 2 * q + 1 ∧ s = decide (flV x < 0) ∧ e = flE x + t)
theorem l2float_ev (x : Nat) (hx : x < 4294967296) : ∃ s r e, FlR x s r e ∧ Ev (fun k => spec_l2float.f k (x : Int)) (s, r, e) := by
  have hF := flF_lt x
  have hV := flV_abs x
  have hE0 := flE_lo x
  have hE1 := flE_hi x
  obtain ⟨d, c1, c2, c3, c4, c5⟩ := l1small_ev (flV x) (by omega) (by omega)
  rw [hV] at c3
  have hj : ∀ s r e, Ev (fun k => spec_l2norm.f k (decide (flV x < 0)) d (flE x)) (s, r, e) → Ev (fun k => spec_l2float.f k (x : Int)) (s, r, e) := by
    intro s r e h
    have h2 : Ev (fun k => (spec_l1small.f k (flV x)).bind fun bt => (spec_l2norm.f k bt.1 bt.2 (flE x)).bind fun bt2 => some (bt2.1, bt2.2.1, bt2.2.2)) (s, r, e) := by
      refine Ev.bind c5 ?_
      refine Ev.bind h ?_
      exact ev_const rfl
    have hj0 : ∀ (E F : Int), E - 150 = flE x → F = (flF x : Int) → Ev (fun k => spec_l2float.j0 k (x : Int) E F) (s, r, e) := by
      intro E F hE hF'
      refine Ev.step (fun k => ?_) h2
      simp only [spec_l2float.j0]
      subst hF'
      by_cases hn : 2147483648 ≤ x
      · have hv : flV x = -(flF x : Int) := by unfold flV; rw [if_pos hn]
        rw [if_pos (by omega), w64 (x := -_) (by omega) (by omega), ← hv, w64 (x := E - 150) (by omega) (by omega), hE]
      · have hv : flV x = (flF x : Int) := by unfold flV; rw [if_neg hn]
        rw [if_neg (by omega), ← hv, w64 (x := E - 150) (by omega) (by omega), hE]
    by_cases he : 0 < x / 8388608 % 256
    · refine Ev.congr (fun k => ?_) (hj0 ((x / 8388608 % 256 : Nat) : Int) ((x % 8388608 + 8388608 : Nat) : Int) (by unfold flE; rw [if_pos he]) (by unfold flF; rw [if_pos he]))
      unfold spec_l2float.f
      rw [fl_e0, fl_e1, if_pos (by omega), w64 (by omega) (by omega)]
      rfl
    · refine Ev.congr (fun k => ?_) (hj0 1 ((x % 8388608 : Nat) : Int) (by unfold flE; rw [if_neg he]) (by unfold flF; rw [if_neg he]))
      unfold spec_l2float.f
      rw [fl_e0, fl_e1, if_neg (by omega)]
  rcases l2norm_ev (decide (flV x < 0)) d (flE x) c2 c1 (by omega) (by omega) (by omega) with ⟨h0, h1⟩ | ⟨t, q, r, g1, g2, g3, g4, g5, g6, g7⟩
  · rw [h0] at c3
    simp only [dv] at c3
    have hz : flF x = 0 := by omega
    have hz2 : flV x = 0 := by omega
    refine ⟨false, [], 0, ⟨⟨Or.inl rfl, fun _ h => by simp at h, by simp⟩, by simp, ?_, by omega, by omega, Or.inl ⟨hz, rfl, rfl, rfl⟩⟩, hj _ _ _ h1⟩
    rw [hz2, at_zero]
    exact at_zero _
  · rw [c3] at g1
    have ht : t < 24 := g1.lt (by rw [show (2 : Int) ^ 24 = 16777216 from by decide]; omega)
    have hpos := g1.pos
    refine ⟨decide (flV x < 0), r, flE x + t, ⟨⟨g3, g4, fun _ => ?_⟩, by omega, ?_, by omega, by omega, Or.inr ⟨t, q, g1, g5, rfl, rfl⟩⟩, hj _ _ _ g7⟩
    · rintro rfl
      simp only [dv] at g5
      have := g1.2
      omega
    · rw [← at_up _ _ t (by omega)]
      congr 1
      have h3 : (flF x : Int) = 2 ^ t * dv 65536 r := by rw [g5]; exact g1.1
      unfold sv
      by_cases hneg : flV x < 0
      · rw [decide_eq_true hneg, if_pos rfl, Int.mul_neg, ← h3]
        omega
      · rw [decide_eq_false hneg, if_neg (by simp), ← h3]
        omega

/-! ### DyOf: the program's whole number, and both sides of exact -/
theorem whole_ev (v : Int) (h0 : -18446744073709551616 < v * 4294967296) (h1 : v * 4294967296 < 18446744073709551616) :
    ∃ t, Cn t ∧ Dg 4294967296 t ∧ dv 4294967296 t = v.natAbs ∧ t.length ≤ 2 ∧ Ev (fun k => impl_whole.f k v) (decide (v < 0), t) := by
  have hw : ∀ z : Int, IntKind.u64.wrap z = z % 18446744073709551616 := fun z => by simp [IntKind.wrap, IntKind.bits, IntKind.signed]
  obtain ⟨t, ht, hev⟩ := limbstrim_f [((v.natAbs : Int)) % 4294967296, ((v.natAbs : Int)) / 4294967296 % 4294967296] (by simp)
  have hlen : t.length ≤ 2 := ht.len
  refine ⟨t, ht.top, fun z hz => ?_, ?_, hlen, ?_⟩
  · have hm := ht.mem z hz
    simp only [List.mem_cons, List.not_mem_nil, or_false] at hm
    rcases hm with rfl | rfl <;> omega
  · rw [ht.val]
    simp only [dv]
    omega
  · by_cases h : v < 0
    · refine Ev.congr (fun k => ?_) (ev_bindc hev (f := fun t => some (decide (v < 0), t)) rfl)
      unfold impl_whole.f
      rw [if_pos h, hw, hw, show (-(v % 18446744073709551616)) % 18446744073709551616 = (v.natAbs : Int) from by omega]
    · refine Ev.congr (fun k => ?_) (ev_bindc hev (f := fun t => some (decide (v < 0), t)) rfl)
      unfold impl_whole.f
      rw [if_neg h, hw, show v % 18446744073709551616 = (v.natAbs : Int) from by omega]
theorem exF_eq (x : Nat) : exF x = flF x := rfl
theorem exG_eq (x : Nat) : exG x = flE x := rfl
theorem exact_same (x : Nat) (hx : x < 4294967296) (h : x / 8388608 % 256 ≠ 255) :
    ∃ s r r' e, Two r r' ∧ r.length ≤ 4 ∧ -149 ≤ e ∧ e ≤ 200 ∧ Ev (fun k => spec_l2float.f k (x : Int)) (s, r, e) ∧ Ev (fun k => impl_exact.f k (x : Int)) (s, r', e) := by
  obtain ⟨s, r, e, F, hf⟩ := l2float_ev x hx
  have hlen := F.len
  have hg := F.g
  have hF := flF_lt x
  have hE0 := flE_lo x
  have hE1 := flE_hi x
  have hx2 : ∀ (k : Nat) (R : Option (Bool × List Int × Int)), ((impl_whole.f k (exV x)).bind fun bt1 => (impl_dyadic_normal.f k bt1.1 bt1.2 (exE x)).bind fun bt2 => some (bt2.1, bt2.2.1, bt2.2.2)) = R → impl_exact.f k (x : Int) = R := by
    intro k R hR
    unfold impl_exact.f
    rw [if_pos (by refine ⟨by omega, by omega, ?_⟩; rw [Int.toNat_natCast]; exact h), Int.toNat_natCast]
    exact hR
  have hstep : ∀ {v : Int} {s' : Bool} {t : List Int} {R : Bool × List Int × Int}, exV x = v → Ev (fun k => impl_whole.f k v) (s', t) → Ev (fun k => impl_dyadic_normal.f k s' t (exE x)) R → Ev (fun k => impl_exact.f k (x : Int)) R := by
    intro v s' t R hv h1 h2
    have h3 : Ev (fun k => (impl_whole.f k (exV x)).bind fun bt1 => (impl_dyadic_normal.f k bt1.1 bt1.2 (exE x)).bind fun bt2 => some (bt2.1, bt2.2.1, bt2.2.2)) R := by
      rw [hv]
      refine Ev.bind h1 ?_
      refine Ev.bind h2 ?_
      exact ev_const rfl
    exact Ev.congr (fun k => hx2 k _ rfl) h3
  rcases F.how with ⟨hz, rfl, rfl, rfl⟩ | ⟨t, q, tw, hq, rfl, rfl⟩
  · have hv : exV x = 0 := by unfold exV; rw [exF_eq, if_pos hz]
    have he : exE x = -24 := by unfold exE; rw [exF_eq, if_pos hz]
    obtain ⟨t, c1, c2, c3, c4, c5⟩ := whole_ev 0 (by omega) (by omega)
    rcases normal_ev (decide ((0 : Int) < 0)) t (-24) c2 c1 (by omega) (by omega) (by omega) with ⟨g0, g1⟩ | ⟨t', q', r', d1, d2, d3, d4, d5, d6, d7⟩
    · exact ⟨false, [], [], 0, two_nil, by simp, by omega, by omega, hf, hstep hv c5 (by rw [he]; exact g1)⟩
    · have := d1.pos
      rw [c3] at this
      simp at this
  · have hpos := tw.pos
    have hne : flF x ≠ 0 := by omega
    have hlg : (flF x).log2 ≤ 23 := by have := (Nat.log2_lt hne).2 (show flF x < 2 ^ 24 by omega); omega
    have hup : flF x * 2 ^ (23 - (flF x).log2) < 16777216 := by
      have h1 : flF x < 2 ^ ((flF x).log2 + 1) := Nat.lt_log2_self
      have h2 : 2 ^ ((flF x).log2 + 1) * 2 ^ (23 - (flF x).log2) = 16777216 := by
        rw [← Nat.pow_add, show (flF x).log2 + 1 + (23 - (flF x).log2) = 24 from by omega]
      rw [← h2]
      exact Nat.mul_lt_mul_of_pos_right h1 (Nat.two_pow_pos _)
    have he : exE x = flE x + (flF x).log2 - 23 := by unfold exE; rw [exF_eq, exG_eq, if_neg hne]
    have hv : exV x = if flV x < 0 then -((flF x * 2 ^ (23 - (flF x).log2) : Nat) : Int) else ((flF x * 2 ^ (23 - (flF x).log2) : Nat) : Int) := by
      unfold exV
      rw [exF_eq, if_neg hne]
      by_cases hs : 2147483648 ≤ x
      · rw [if_pos hs, if_pos (by unfold flV; rw [if_pos hs]; omega)]
      · rw [if_neg hs, if_neg (by unfold flV; rw [if_neg hs]; omega)]
    have hp2 : 0 < 2 ^ (23 - (flF x).log2) := Nat.two_pow_pos _
    have tw2 : Tw ((flF x * 2 ^ (23 - (flF x).log2) : Nat) : Int) (23 - (flF x).log2 + t) q := by
      have := tw.shift (23 - (flF x).log2)
      rw [Int.mul_comm] at this
      have e1 : ((flF x * 2 ^ (23 - (flF x).log2) : Nat) : Int) = (flF x : Int) * 2 ^ (23 - (flF x).log2) := by simp
      rw [e1]
      exact this
    generalize flF x * 2 ^ (23 - (flF x).log2) = M at hup hv tw2
    have hM := tw2.pos
    obtain ⟨m, c1, c2, c3, c4, c5⟩ := whole_ev (if flV x < 0 then -(M : Int) else (M : Int)) (by split <;> omega) (by split <;> omega)
    have hsg : decide ((if flV x < 0 then -(M : Int) else (M : Int)) < 0) = decide (flV x < 0) := by
      by_cases hs : flV x < 0
      · rw [if_pos hs, decide_eq_true hs, decide_eq_true (by omega)]
      · rw [if_neg hs, decide_eq_false hs, decide_eq_false (by omega)]
    have habs : ((if flV x < 0 then -(M : Int) else (M : Int)).natAbs : Int) = M := by split <;> omega
    rw [habs] at c3
    rw [hsg] at c5
    rcases normal_ev (decide (flV x < 0)) m (exE x) c2 c1 (by omega) (by omega) (by omega) with ⟨g0, g1⟩ | ⟨t', q', r', d1, d2, d3, d4, d5, d6, d7⟩
    · rw [g0] at c3
      simp only [dv] at c3
      omega
    · rw [c3] at d1
      obtain ⟨rfl, rfl⟩ := d1.uniq tw2
      rw [he, show flE x + ((flF x).log2 : Int) - 23 + ((23 - (flF x).log2 + t : Nat) : Int) = flE x + t from by omega] at d7
      exact ⟨decide (flV x < 0), r, r', flE x + t, ⟨hg.c, d3, hg.d, d4, by rw [hq, d5]⟩, hlen, F.lo, F.hi, hf, hstep hv c5 (by rw [he]; exact d7)⟩
theorem DyOf_same (x : Nat) (hx : x < 4294967296) :
    ∃ r, r.2.1.length ≤ 512 ∧ Ev (fun k => spec_DyOf.f k (x : Int)) r ∧ Ev (fun k => impl_DyOf.f k (x : Int)) r := by
  unfold spec_DyOf.f impl_DyOf.f
  rw [l2finite_f x hx, finite_f x hx]
  simp only [Option.bind_some]
  by_cases h : x / 8388608 % 256 = 255
  · rw [bne_eq_false_iff_eq.2 h]
    exact ⟨(false, [], 0, 1), by simp, ev_const rfl, ev_const rfl⟩
  · rw [bne_iff_ne.2 h]
    simp only [if_true]
    obtain ⟨s, r, r', e, k0, hl, h0, h1, k1, k2⟩ := exact_same x hx h
    have hl' : r'.length ≤ r.length := by rw [← k0.pairs]; exact pairs_len r
    obtain ⟨s3, n, n', e3, j1, j2, j3, j4, j5, j6, j7⟩ := norm_both s s r r' e k0 (fun _ => rfl) (by omega) (by omega) (by omega) (by omega)
    have j9 := l2out_ev s r e j1 (by omega) j6
    have j10 := out_ev s r' e j7
    refine ⟨dyOut s3 n' e3, dyOut_len _ _ _, ?_, ?_⟩
    · refine Ev.bind k1 ?_
      refine Ev.bind j9 ?_
      exact ev_const rfl
    · refine Ev.bind k2 ?_
      refine Ev.bind j10 ?_
      exact ev_const rfl

/-! ### Dyadic's helpers -/
theorem eqDyadic_ev (a : Bool) (l : List Int) (e : Int) (h : l.length ≤ 4611686018427387904) : Ev (fun k => laws_eqDyadic.f k a l e a l e) true := by
  unfold laws_eqDyadic.f
  refine Ev.bind (eqBig_ev a l h) ?_
  refine ev_const ?_
  rw [if_pos rfl, if_pos rfl]
theorem markDyadic_ev (a : Bool) (l : List Int) (e z : Int) (h : l.length ≤ 4294967296) (h0 : 0 ≤ z) (h1 : z ≤ 4294967296) : Ev (fun k => laws_markDyadic.f k a l e z) (z + l.length, marks (fun z => z % 4294967296) z l.length) :=
  ev_bindc (markBig_ev a l z h h0 h1) rfl
theorem heldDyadic_ev (a : Bool) (n : Nat) (e z : Int) (h : n ≤ 4294967296) (h0 : 0 ≤ z) (h1 : z ≤ 4294967296) : Ev (fun k => laws_heldDyadic.f k a (marks (fun z => z % 4294967296) z n) e z) (z + n) :=
  ev_bindc (heldBig_ev a n z h h0 h1) (by rw [if_neg (by omega)])

theorem FnExactDyOf : laws_FnExactDyOf.Pure := by
  intro a ha
  obtain ⟨x, rfl, hx⟩ := u32_nat ha
  refine Ev.rounds ?_
  obtain ⟨⟨r1, r2, r3, r4⟩, hr, hs, hi⟩ := DyOf_same x hx
  have er := eqDyadic_ev r1 r2 r3 (by dsimp only at hr; omega)
  have mr := markDyadic_ev r1 r2 r3 1 (by dsimp only at hr; omega) (by omega) (by omega)
  have hr' := heldDyadic_ev r1 r2.length r3 1 (by dsimp only at hr; omega) (by omega) (by omega)
  unfold laws_FnExactDyOf.f
  refine Ev.bind hs ?_
  refine Ev.bind hi ?_
  dsimp only
  refine Ev.bind er ?_
  simp only [if_true]
  refine Ev.bind mr ?_
  dsimp only
  refine Ev.bind hr' ?_
  simp only [show ¬ ((1 : Int) + r2.length < 0) from by omega, if_false, if_true]
  refine Ev.bind hi ?_
  dsimp only
  refine Ev.bind er ?_
  simp only [if_true]
  refine Ev.bind hr' ?_
  simp only [show ¬ ((1 : Int) + r2.length < 0) from by omega, if_false]
  exact ev_const rfl

end Go.Proofs.Ytcpdeenhjodmfaa.Pure
