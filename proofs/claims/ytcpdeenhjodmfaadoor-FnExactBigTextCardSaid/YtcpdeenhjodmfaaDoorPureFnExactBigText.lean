/- The plain law behind FnExactBigTextSaid: the pure functions that the program's Go functions come to answer as the statement says, for every input that the row lets in. -/
import Derived.Test.YtcpdeenhjodmfaaDoorQBigTextO
namespace Go.Proofs.YtcpdeenhjodmfaaDoor.Pure
open Go.RowKit Go.Proofs.YtcpdeenhjodmfaaDoor.QBigText Go.Proofs.YtcpdeenhjodmfaaDoorW.PrintWords Go.Proofs.YtcpdeenhjodmfaaDoorW.PrintLast Go.Proofs.YtcpdeenhjodmfaaDoorW.PrintMore
set_option linter.unusedVariables false
set_option linter.unusedSimpArgs false
/-! ### rounds, and lists by index -/
theorem ev_const {α : Type} {a : Option α} {r : α} (h : a = some r) : Ev (fun _ => a) r := ⟨0, fun _ _ => h⟩
theorem ev_bindc {α β : Type} {g : Nat → Option α} {f : α → Option β} {a : α} {r : β} (h : Ev g a) (k : f a = some r) : Ev (fun n => (g n).bind f) r :=
  Ev.bind (f := fun _ => f) h (ev_const k)
theorem ev_cbind {α β : Type} {g : Option α} {f : Nat → α → Option β} {a : α} {r : β} (h : g = some a) (k : Ev (fun n => f n a) r) : Ev (fun n => g.bind (f n)) r :=
  Ev.bind (g := fun _ => g) (ev_const h) k
theorem rd_nat (xs : List Int) (i : Nat) : rd xs (i : Int) = xs.getD i 0 := by simp [rd]
theorem rd_at (pre rest : List Int) (r : Int) : rd (pre ++ r :: rest) ((pre.length : Nat) : Int) = r := by simp [rd]
theorem rdb_at (pre rest : List Bool) (r : Bool) : rdOf false (pre ++ r :: rest) ((pre.length : Nat) : Int) = r := by simp [rdOf]
theorem set_at {α : Type} (pre rest : List α) (r v : α) : (pre ++ r :: rest).set (((pre.length : Nat) : Int)).toNat v = (pre ++ [v]) ++ rest := by simp
theorem w64 {x : Int} (h0 : -9223372036854775808 ≤ x) (h1 : x ≤ 9223372036854775807) : wrap64 x = x := by unfold wrap64; omega
theorem len_snoc {α : Type} (pre : List α) (v : α) : (((pre ++ [v]).length : Nat) : Int) = ((pre.length : Nat) : Int) + 1 := by simp
def marks {α : Type} (M : Int → α) : Int → Nat → List α
  | _, 0 => []
  | k, n + 1 => M k :: marks M (k + 1) n
theorem marks_length {α : Type} (M : Int → α) : ∀ (n : Nat) (k : Int), (marks M k n).length = n
  | 0, _ => rfl
  | n + 1, k => by simp [marks, marks_length M n]

/-! ### digits to a base -/
def dv (B : Int) : List Int → Int
  | [] => 0
  | d :: ds => d + B * dv B ds
def Dg (B : Int) (l : List Int) : Prop := ∀ d ∈ l, 0 ≤ d ∧ d < B
def Cn (l : List Int) : Prop := l = [] ∨ l.getD (l.length - 1) 0 ≠ 0
theorem dv_append (B : Int) (xs ys : List Int) : dv B (xs ++ ys) = dv B xs + B ^ xs.length * dv B ys := by
  induction xs with
  | nil => simp [dv]
  | cons d ds ih => simp only [List.cons_append, dv, ih, List.length_cons]; grind
theorem dv_nonneg {B : Int} (hB : 0 < B) : ∀ {l : List Int}, Dg B l → 0 ≤ dv B l
  | [], _ => by simp [dv]
  | d :: ds, h => by
    have h1 := h d (by simp)
    have h2 := dv_nonneg hB (l := ds) (fun x hx => h x (by simp [hx]))
    have h3 : 0 ≤ B * dv B ds := Int.mul_nonneg (by omega) h2
    simp only [dv]
    omega
theorem dv_lt {B : Int} (hB : 0 < B) : ∀ {l : List Int}, Dg B l → dv B l < B ^ l.length
  | [], _ => by simp [dv]
  | d :: ds, h => by
    have h1 := h d (by simp)
    have h2 := dv_lt hB (l := ds) (fun x hx => h x (by simp [hx]))
    have h3 : B * (dv B ds + 1) ≤ B * B ^ ds.length := Int.mul_le_mul_of_nonneg_left (by omega) (by omega)
    simp only [dv, List.length_cons, Int.pow_succ]
    rw [Int.mul_add, Int.mul_one] at h3
    rw [Int.mul_comm (B ^ ds.length) B]
    omega
theorem dv_set (B : Int) : ∀ (l : List Int) (p : Nat) (v : Int), p < l.length → dv B (l.set p v) = dv B l + B ^ p * (v - l.getD p 0)
  | [], _, _, h => by simp at h
  | d :: ds, 0, v, _ => by simp [dv]; omega
  | d :: ds, p + 1, v, h => by
    have := dv_set B ds p v (by simpa using h)
    simp only [List.set_cons_succ, dv, this, List.getD_cons_succ]
    grind
theorem take_succ_getD (l : List Int) (p : Nat) (h : p < l.length) : l.take (p + 1) = l.take p ++ [l.getD p 0] := by
  rw [List.take_succ_eq_append_getElem h]
  simp [List.getD_eq_getElem?_getD, h]
theorem dv_take_succ (B : Int) (l : List Int) (p : Nat) (h : p < l.length) : dv B (l.take (p + 1)) = dv B (l.take p) + B ^ p * l.getD p 0 := by
  rw [take_succ_getD l p h, dv_append, List.length_take, Nat.min_eq_left (Nat.le_of_lt h)]
  simp [dv]
theorem dv_zeros (B : Int) : ∀ n : Nat, dv B (List.replicate n 0) = 0
  | 0 => rfl
  | n + 1 => by simp [List.replicate_succ, dv, dv_zeros B n]
theorem Dg.set {B : Int} {l : List Int} (h : Dg B l) {p : Nat} {v : Int} (h0 : 0 ≤ v) (h1 : v < B) : Dg B (l.set p v) := by
  intro d hd
  rcases List.mem_or_eq_of_mem_set hd with hd | rfl
  · exact h d hd
  · exact ⟨h0, h1⟩
theorem Dg.take {B : Int} {l : List Int} (h : Dg B l) (n : Nat) : Dg B (l.take n) := fun d hd => h d (List.mem_of_mem_take hd)
theorem Dg.zeros {B : Int} (hB : 0 < B) (n : Nat) : Dg B (List.replicate n 0) := fun d hd => by rw [List.eq_of_mem_replicate hd]; omega
theorem Dg.append {B : Int} {xs ys : List Int} (h : Dg B xs) (k : Dg B ys) : Dg B (xs ++ ys) := fun d hd => (List.mem_append.1 hd).elim (h d) (k d)
theorem Dg.get {B : Int} {l : List Int} (h : Dg B l) (hB : 0 < B) (p : Nat) : 0 ≤ l.getD p 0 ∧ l.getD p 0 < B := by
  rcases Nat.lt_or_ge p l.length with hp | hp
  · have : l.getD p 0 = l[p] := by simp [List.getD_eq_getElem?_getD, hp]
    rw [this]
    exact h _ (List.getElem_mem hp)
  · have : l.getD p 0 = 0 := by simp [List.getD_eq_getElem?_getD, hp]
    rw [this]
    omega
theorem dv_inj {B : Int} (hB : 0 < B) : ∀ {x y : List Int}, Dg B x → Dg B y → x.length = y.length → dv B x = dv B y → x = y
  | [], [], _, _, _, _ => rfl
  | [], _ :: _, _, _, h, _ => by simp at h
  | _ :: _, [], _, _, h, _ => by simp at h
  | a :: x, b :: y, hx, hy, hl, hv => by
    have h1 := hx a (by simp)
    have h2 := hy b (by simp)
    simp only [dv] at hv
    have hab : a = b := by
      have e1 : (a + B * dv B x) % B = a := by rw [Int.add_mul_emod_self_left]; exact Int.emod_eq_of_lt h1.1 h1.2
      have e2 : (b + B * dv B y) % B = b := by rw [Int.add_mul_emod_self_left]; exact Int.emod_eq_of_lt h2.1 h2.2
      rw [← e1, ← e2, hv]
    subst hab
    have hd : dv B x = dv B y := by
      have : B * dv B x = B * dv B y := by omega
      exact Int.eq_of_mul_eq_mul_left (by omega) this
    rw [dv_inj hB (fun d hd => hx d (by simp [hd])) (fun d hd => hy d (by simp [hd])) (by simpa using hl) hd]
theorem one_le_ipow {B : Int} (hB : 1 ≤ B) : ∀ d : Nat, 1 ≤ B ^ d
  | 0 => by simp
  | d + 1 => by
    have h1 := one_le_ipow hB d
    have h2 : B ^ d * 1 ≤ B ^ d * B := Int.mul_le_mul_of_nonneg_left hB (by omega)
    rw [Int.pow_succ]
    omega
theorem ipow_le {B : Int} (hB : 1 ≤ B) {m n : Nat} (h : m ≤ n) : B ^ m ≤ B ^ n := by
  obtain ⟨d, rfl⟩ : ∃ d, n = m + d := ⟨n - m, by omega⟩
  have h1 := one_le_ipow hB d
  have h0 := one_le_ipow hB m
  have h2 : B ^ m * 1 ≤ B ^ m * B ^ d := Int.mul_le_mul_of_nonneg_left h1 (by omega)
  rw [Int.pow_add]
  omega
theorem cn_low {B : Int} (hB : 0 < B) {l : List Int} (h : Dg B l) (hc : Cn l) (h0 : l ≠ []) : B ^ (l.length - 1) ≤ dv B l := by
  have hl : 0 < l.length := List.length_pos_iff.2 h0
  have ht : l.take (l.length - 1 + 1) = l := by rw [Nat.sub_add_cancel hl]; exact List.take_length
  have h1 := dv_take_succ B l (l.length - 1) (by omega)
  rw [ht] at h1
  have h2 := dv_nonneg hB (h.take (l.length - 1))
  have h3 := h.get hB (l.length - 1)
  have h4 : l.getD (l.length - 1) 0 ≠ 0 := hc.resolve_left h0
  have h5 : B ^ (l.length - 1) * 1 ≤ B ^ (l.length - 1) * l.getD (l.length - 1) 0 := Int.mul_le_mul_of_nonneg_left (by omega) (Int.le_of_lt (Int.pow_pos hB))
  rw [Int.mul_one] at h5
  omega
theorem cn_len {B : Int} (hB : 1 < B) {x y : List Int} (hx : Dg B x) (hy : Dg B y) (hcy : Cn y) (hv : dv B x = dv B y) : y.length ≤ x.length := by
  rcases Nat.lt_or_ge x.length y.length with h | h
  · have hy0 : y ≠ [] := by rintro rfl; simp at h
    have h1 := dv_lt (by omega) hx
    have h2 := cn_low (by omega) hy hcy hy0
    have h3 : B ^ x.length ≤ B ^ (y.length - 1) := ipow_le (by omega) (by omega)
    omega
  · exact h
theorem cn_uniq {B : Int} (hB : 1 < B) {x y : List Int} (hx : Dg B x) (hy : Dg B y) (hcx : Cn x) (hcy : Cn y) (hv : dv B x = dv B y) : x = y :=
  dv_inj (by omega) hx hy (Nat.le_antisymm (cn_len hB hy hx hcx hv.symm) (cn_len hB hx hy hcy hv)) hv
theorem rd_nat_add (xs : List Int) (i j : Nat) : rd xs ((i : Int) + (j : Int)) = xs.getD (i + j) 0 := by rw [← rd_nat]; simp
theorem dv_ne_nil {B : Int} {l : List Int} (h : dv B l ≠ 0) : l ≠ [] := by rintro rfl; exact h rfl

/-! ### the reference's product -/
structure Norm (l t : List Int) : Prop where
  val : ∀ B, dv B t = dv B l
  top : Cn t
  mem : ∀ d ∈ t, d ∈ l
  len : t.length ≤ l.length
theorem Norm.dg {B : Int} {l t : List Int} (h : Norm l t) (hd : Dg B l) : Dg B t := fun d hh => hd d (h.mem d hh)
theorem w64n {n : Nat} (h : n ≤ 9223372036854775807) : wrap64 (n : Int) = n := w64 (by omega) (by omega)
theorem getD_set_eq (l : List Int) (p : Nat) (v : Int) (h : p < l.length) : (l.set p v).getD p 0 = v := by simp [List.getD_eq_getElem?_getD, h]
theorem getD_set_ne (l : List Int) (p q : Nat) (v : Int) (h : p ≠ q) : (l.set p v).getD q 0 = l.getD q 0 := by simp [List.getD_eq_getElem?_getD, List.getElem?_set, h]
theorem mul_bound16 {x y : Int} (hx : 0 ≤ x) (hx1 : x < 65536) (hy : 0 ≤ y) (hy1 : y < 65536) : 0 ≤ x * y ∧ x * y ≤ 4294836225 := by
  refine ⟨Int.mul_nonneg hx hy, ?_⟩
  have h : x * y ≤ 65535 * 65535 := Int.mul_le_mul (by omega) (by omega) hy (by omega)
  simpa using h
theorem mul_bound32 {x y : Int} (hx : 0 ≤ x) (hx1 : x < 4294967296) (hy : 0 ≤ y) (hy1 : y < 4294967296) : 0 ≤ x * y ∧ x * y ≤ 18446744065119617025 := by
  refine ⟨Int.mul_nonneg hx hy, ?_⟩
  have h : x * y ≤ 4294967295 * 4294967295 := Int.mul_le_mul (by omega) (by omega) hy (by omega)
  simpa using h
theorem l1trim_l0 (l : List Int) (hl : l.length ≤ 4611686018427387904) : ∀ n : Nat, n ≤ l.length →
    ∃ m, m ≤ n ∧ Ev (fun k => spec_l1trim.l0 k l (n : Int)) (l.take m) ∧ (∀ B, dv B (l.take m) = dv B (l.take n)) ∧ Cn (l.take m)
  | 0, _ => ⟨0, Nat.le_refl _, ⟨1, fun k hk => by
      obtain ⟨k, rfl⟩ : ∃ m, k = m + 1 := ⟨k - 1, by omega⟩
      simp only [spec_l1trim.l0]
      rw [if_neg (by omega), if_pos (by omega), if_pos (by omega)]
      rfl⟩, fun _ => rfl, Or.inl (by simp)⟩
  | n + 1, hn => by
    have hw : wrap64 (((n + 1 : Nat) : Int) - 1) = (n : Int) := by rw [w64 (by omega) (by omega)]; omega
    by_cases h0 : l.getD n 0 = 0
    · obtain ⟨m, hm, hev, hv, hc⟩ := l1trim_l0 l hl n (by omega)
      refine ⟨m, by omega, Ev.step (fun k => ?_) hev, fun B => ?_, hc⟩
      · simp only [spec_l1trim.l0]
        rw [hw, if_pos (by omega), if_pos (by omega), if_pos (by omega), rd_nat, if_pos h0]
      · rw [hv B, dv_take_succ B l n (by omega), h0]
        omega
    · refine ⟨n + 1, Nat.le_refl _, ⟨1, fun k hk => ?_⟩, fun _ => rfl, Or.inr ?_⟩
      · obtain ⟨k, rfl⟩ : ∃ m, k = m + 1 := ⟨k - 1, by omega⟩
        simp only [spec_l1trim.l0]
        rw [hw, if_pos (by omega), if_pos (by omega), if_pos (by omega), rd_nat, if_neg h0, if_pos (by omega), if_pos (by omega), Int.toNat_natCast]
      · rw [List.length_take, Nat.min_eq_left hn]
        simpa [List.getD_eq_getElem?_getD, List.getElem?_take] using h0
theorem l1trim_ev (l : List Int) (hl : l.length ≤ 4611686018427387904) : ∃ t, Norm l t ∧ Ev (fun k => spec_l1trim.f k l) t := by
  obtain ⟨m, hm, hev, hv, hc⟩ := l1trim_l0 l hl l.length (Nat.le_refl _)
  exact ⟨_, ⟨fun B => by rw [hv B, List.take_length], hc, fun d hd => List.mem_of_mem_take hd, by simp; omega⟩, hev⟩
theorem l1make_ev (a : Bool) (l : List Int) (hl : l.length ≤ 4611686018427387904) : ∃ t, Norm l t ∧ Ev (fun k => spec_l1make.f k a l) (a && decide (0 < t.length), t) := by
  obtain ⟨t, ht, hev⟩ := l1trim_ev l hl
  refine ⟨t, ht, ev_bindc hev ?_⟩
  cases a <;> simp
theorem u64w {x : Int} (h0 : 0 ≤ x) (h1 : x < 18446744073709551616) : IntKind.u64.wrap x = x := by
  have : IntKind.u64.wrap x = x % 18446744073709551616 := by simp [IntKind.wrap, IntKind.bits, IntKind.signed]
  rw [this]
  exact Int.emod_eq_of_lt h0 h1

/-! ### division of a row of digits by a small number, from the top down -/
def divL (B D : Int) : List Int → List Int × Int
  | [] => ([], 0)
  | d :: ds => (((divL B D ds).2 * B + d) / D :: (divL B D ds).1, ((divL B D ds).2 * B + d) % D)
theorem divL_len (B D : Int) : ∀ l : List Int, (divL B D l).1.length = l.length
  | [] => rfl
  | d :: ds => by simp [divL, divL_len B D ds]
theorem divL_rem {B D : Int} (hD : 0 < D) : ∀ l : List Int, 0 ≤ (divL B D l).2 ∧ (divL B D l).2 < D
  | [] => by simp [divL]; omega
  | d :: ds => ⟨Int.emod_nonneg _ (by omega), Int.emod_lt_of_pos _ hD⟩
theorem divL_val {B D : Int} (hD : 0 < D) : ∀ l : List Int, dv B l = D * dv B (divL B D l).1 + (divL B D l).2
  | [] => by simp [divL, dv]
  | d :: ds => by
    have h := divL_val hD ds (B := B)
    have h2 := Int.mul_ediv_add_emod ((divL B D ds).2 * B + d) D
    simp only [divL, dv]
    rw [h]
    grind
theorem divL_dg {B D : Int} (hB : 0 < B) (hD : 0 < D) : ∀ {l : List Int}, Dg B l → Dg B (divL B D l).1
  | [], _ => fun d h => by simp [divL] at h
  | d :: ds, h => by
    intro x hx
    have hd := h d (by simp)
    have hr := divL_rem (B := B) hD ds
    simp only [divL, List.mem_cons] at hx
    rcases hx with rfl | hx
    · have h0 : 0 ≤ (divL B D ds).2 * B := Int.mul_nonneg hr.1 (by omega)
      have h1 : (divL B D ds).2 * B ≤ (D - 1) * B := Int.mul_le_mul_of_nonneg_right (by omega) (by omega)
      have h2 : (D - 1) * B = B * D - B := by rw [Int.sub_mul, Int.one_mul, Int.mul_comm]
      exact ⟨Int.ediv_nonneg (by omega) (by omega), Int.ediv_lt_of_lt_mul hD (by omega)⟩
    · exact divL_dg hB hD (fun z hz => h z (by simp [hz])) x hx
theorem divL_div {B D : Int} (hD : 0 < D) (l : List Int) : dv B (divL B D l).1 = dv B l / D ∧ (divL B D l).2 = dv B l % D := by
  have h := divL_val hD l (B := B)
  have hr := divL_rem (B := B) hD l
  rw [h, Int.mul_comm]
  constructor
  · rw [Int.add_comm, Int.add_mul_ediv_right _ _ (by omega), Int.ediv_eq_zero_of_lt hr.1 hr.2, Int.zero_add]
  · rw [Int.add_comm, Int.add_mul_emod_self_right, Int.emod_eq_of_lt hr.1 hr.2]
theorem drop_getD (l : List Int) (n : Nat) (h : n < l.length) : l.drop n = l.getD n 0 :: l.drop (n + 1) := by
  rw [List.drop_eq_getElem_cons h]
  simp [List.getD_eq_getElem?_getD, h]
theorem set_drop (l : List Int) (n : Nat) (v : Int) (h : n < l.length) : (l.set n v).drop n = v :: l.drop (n + 1) := by
  rw [drop_getD _ n (by simpa using h), getD_set_eq _ _ _ h, List.drop_set_of_lt (by omega)]

/-! ### the reference's tenth -/
theorem l1tenth_l0 (l : List Int) (hd : Dg 65536 l) (hl : l.length ≤ 1048576) : ∀ (n : Nat) (out : List Int), n ≤ l.length → out.length = l.length → out.drop n = (divL 65536 10 (l.drop n)).1 →
    ∃ t, Norm (divL 65536 10 l).1 t ∧ Ev (fun k => spec_l1tenth.l0 k l out (divL 65536 10 (l.drop n)).2 ((n : Int) - 1)) (t, (divL 65536 10 l).2)
  | 0, out, _, ho, he => by
    simp only [List.drop_zero] at he ⊢
    obtain ⟨t, ht, hev⟩ := l1trim_ev out (by omega)
    rw [he] at ht
    refine ⟨t, ht, Ev.step (fun k => ?_) (ev_bindc (f := fun t => some (t, (divL 65536 10 l).2)) hev rfl)⟩
    simp only [spec_l1tenth.l0]
    rw [if_neg (by omega)]
  | n + 1, out, hn, ho, he => by
    have hr := divL_rem (B := 65536) (D := 10) (by omega) (l.drop (n + 1))
    have hx := hd.get (by omega) n
    have hdr := drop_getD l n (by omega)
    have e1 : (divL 65536 10 (l.drop n)).1 = ((divL 65536 10 (l.drop (n + 1))).2 * 65536 + l.getD n 0) / 10 :: (divL 65536 10 (l.drop (n + 1))).1 := by rw [hdr]; rfl
    have e2 : (divL 65536 10 (l.drop n)).2 = ((divL 65536 10 (l.drop (n + 1))).2 * 65536 + l.getD n 0) % 10 := by rw [hdr]; rfl
    obtain ⟨t, ht, hev⟩ := l1tenth_l0 l hd hl n (out.set n (((divL 65536 10 (l.drop (n + 1))).2 * 65536 + l.getD n 0) / 10)) (by omega) (by simpa using ho) (by rw [set_drop _ _ _ (by omega), he, e1])
    refine ⟨t, ht, Ev.step (fun k => ?_) hev⟩
    generalize hR : (divL 65536 10 (l.drop (n + 1))).2 = R at hr e2 ⊢
    simp only [spec_l1tenth.l0]
    have e3 : ((n + 1 : Nat) : Int) - 1 = (n : Int) := by omega
    rw [e3, if_pos (by omega), if_pos (by omega), if_pos (by omega), if_pos (by omega), rd_nat, w64 (x := R * 65536) (by omega) (by omega), w64 (x := R * 65536 + l.getD n 0) (by omega) (by omega), Int.tdiv_eq_ediv_of_nonneg (by omega), Int.tmod_eq_emod_of_nonneg (by omega), w64 (x := (R * 65536 + l.getD n 0) / 10) (by omega) (by omega), w64 (x := (n : Int) - 1) (by omega) (by omega), Int.toNat_natCast, e2]
theorem l1tenth_ev (l : List Int) (hd : Dg 65536 l) (hl : l.length ≤ 1048576) : ∃ t, Cn t ∧ Dg 65536 t ∧ dv 65536 t = dv 65536 l / 10 ∧ t.length ≤ l.length ∧ Ev (fun k => spec_l1tenth.f k l) (t, dv 65536 l % 10) := by
  obtain ⟨t, ht, hev⟩ := l1tenth_l0 l hd hl l.length (List.replicate l.length 0) (Nat.le_refl _) (by simp) (by simp [divL])
  obtain ⟨h1, h2⟩ := divL_div (B := 65536) (D := 10) (by omega) l
  refine ⟨t, ht.top, ht.dg (divL_dg (by omega) (by omega) hd), by rw [ht.val, h1], by have := ht.len; rw [divL_len] at this; exact this, Ev.congr (fun k => ?_) (h2 ▸ hev)⟩
  simp only [spec_l1tenth.f, List.drop_length, divL, Int.toNat_natCast]
  rw [if_pos (by omega), if_pos (by omega), w64 (by omega) (by omega)]

theorem limbstrim_ev : ∀ (n : Nat) (l : List Int), l.length = n → n ≤ 4611686018427387904 → ∃ t, Norm l t ∧ (∃ m, m ≤ n ∧ t = l.take m) ∧ Ev (fun k => impl_limbs_trim.l0 k l) t
  | 0, l, hl, _ => by
    obtain rfl : l = [] := List.eq_nil_of_length_eq_zero hl
    exact ⟨[], ⟨fun _ => rfl, Or.inl rfl, fun d hd => hd, Nat.le_refl _⟩, ⟨0, Nat.le_refl _, rfl⟩, ⟨1, fun k hk => by
      obtain ⟨k, rfl⟩ : ∃ m, k = m + 1 := ⟨k - 1, by omega⟩
      simp only [impl_limbs_trim.l0]
      rw [if_neg (by simp)]⟩⟩
  | n + 1, l, hl, hb => by
    have hw : wrap64 ((l.length : Int) - 1) = (n : Int) := by rw [w64 (by omega) (by omega)]; omega
    by_cases h0 : l.getD n 0 = 0
    · obtain ⟨t, ht, ⟨m, hm, he⟩, hev⟩ := limbstrim_ev n (l.take n) (by simp; omega) (by omega)
      refine ⟨t, ⟨fun B => ?_, ht.top, fun d hd => List.mem_of_mem_take (ht.mem d hd), by have := ht.len; simp at this; omega⟩, ⟨m, by omega, by rw [he, List.take_take, Nat.min_eq_left hm]⟩, Ev.step (fun k => ?_) hev⟩
      · rw [ht.val B]
        have h1 := dv_take_succ B l n (by omega)
        rw [← hl, List.take_length, h0] at h1
        omega
      · simp only [impl_limbs_trim.l0]
        rw [if_pos (by omega), hw, if_pos (by omega), if_pos (by omega), rd_nat, if_pos h0, if_pos (by omega), Int.toNat_natCast]
    · refine ⟨l, ⟨fun _ => rfl, Or.inr (by rw [hl]; exact h0), fun d hd => hd, Nat.le_refl _⟩, ⟨n + 1, Nat.le_refl _, by rw [← hl, List.take_length]⟩, ⟨1, fun k hk => ?_⟩⟩
      obtain ⟨k, rfl⟩ : ∃ m, k = m + 1 := ⟨k - 1, by omega⟩
      simp only [impl_limbs_trim.l0]
      rw [if_pos (by omega), hw, if_pos (by omega), if_pos (by omega), rd_nat, if_neg h0]
theorem limbstrim_f (l : List Int) (hl : l.length ≤ 4611686018427387904) : ∃ t, Norm l t ∧ Ev (fun k => impl_limbs_trim.f k l) t := by
  obtain ⟨t, ht, _, hev⟩ := limbstrim_ev l.length l rfl hl
  exact ⟨t, ht, Ev.congr (fun _ => rfl) hev⟩

theorem eqUint32S_l0 : ∀ (rest pre : List Int), (pre ++ rest).length ≤ 4611686018427387904 → Ev (fun k => laws_eqUint32S.l0 k (pre ++ rest) (pre ++ rest) ((pre.length : Nat) : Int)) true
  | [], pre, hl => ⟨1, fun k hk => by obtain ⟨k, rfl⟩ : ∃ m, k = m + 1 := ⟨k - 1, by omega⟩; simp only [laws_eqUint32S.l0]; rw [if_neg (by simp)]⟩
  | r :: rest, pre, hl => by
    have hlen : (pre ++ r :: rest).length = pre.length + (rest.length + 1) := by simp
    have h := eqUint32S_l0 rest (pre ++ [r]) (by simpa using hl)
    rw [len_snoc, List.append_assoc, List.singleton_append] at h
    refine Ev.step (fun k => ?_) h
    simp only [laws_eqUint32S.l0]
    rw [if_pos (by rw [hlen]; omega), if_pos (by omega), if_pos (by rw [hlen]; omega), if_pos trivial, w64 (by omega) (by omega)]
theorem eqUint32S_ev (l : List Int) (h : l.length ≤ 4611686018427387904) : Ev (fun k => laws_eqUint32S.f k l l) true := by
  have h1 := eqUint32S_l0 l [] (by simpa using h)
  refine Ev.congr (fun k => ?_) h1
  simp only [laws_eqUint32S.f]
  rw [if_pos trivial]
  rfl

theorem markUint32S_l0 : ∀ (rest pre : List Int) (z : Int), (pre ++ rest).length ≤ 4611686018427387904 → 0 ≤ z → z + rest.length ≤ 4611686018427387904 →
    Ev (fun k => laws_markUint32S.l0 k (pre ++ rest) z ((pre.length : Nat) : Int)) (z + rest.length, pre ++ marks (fun z => z % 4294967296) z rest.length)
  | [], pre, z, hl, h0, h1 => ⟨1, fun k hk => by obtain ⟨k, rfl⟩ : ∃ m, k = m + 1 := ⟨k - 1, by omega⟩; simp only [laws_markUint32S.l0]; rw [if_neg (by simp)]; simp [marks]⟩
  | r :: rest, pre, z, hl, h0, h1 => by
    have hlen : (pre ++ r :: rest).length = pre.length + (rest.length + 1) := by simp
    rw [List.length_cons] at h1
    have h := markUint32S_l0 rest (pre ++ [(fun z => z % 4294967296) z]) (z + 1) (by simpa using hl) (by omega) (by omega)
    rw [len_snoc, List.append_assoc pre [(fun z => z % 4294967296) z] rest, List.append_assoc pre [(fun z => z % 4294967296) z] (marks _ _ _), List.singleton_append, List.singleton_append, show z + 1 + (rest.length : Int) = z + ((r :: rest).length : Nat) from by rw [List.length_cons]; omega] at h
    refine Ev.step (fun k => ?_) h
    simp only [laws_markUint32S.l0]
    rw [if_pos (by rw [hlen]; omega), if_pos (by omega), set_at, w64 (by omega) (by omega), w64 (x := ((pre.length : Nat) : Int) + 1) (by omega) (by omega), List.append_assoc, List.singleton_append]
theorem markUint32S_ev (l : List Int) (z : Int) (h : l.length ≤ 4294967296) (h0 : 0 ≤ z) (h1 : z ≤ 4294967296) : Ev (fun k => laws_markUint32S.f k l z) (z + l.length, marks (fun z => z % 4294967296) z l.length) := by
  have h1 := markUint32S_l0 l [] z (by simp; omega) h0 (by omega)
  exact Ev.congr (fun k => rfl) h1

theorem toUint32S_l0 : ∀ (rest junk pre : List Int), junk.length = rest.length → (pre ++ rest).length ≤ 4611686018427387904 → Ev (fun k => laws_toUint32S.l0 k (pre ++ rest) (pre ++ junk) ((pre.length : Nat) : Int)) (pre ++ rest)
  | [], junk, pre, hj, hl => by
    obtain rfl : junk = [] := List.eq_nil_of_length_eq_zero hj
    exact ⟨1, fun k hk => by obtain ⟨k, rfl⟩ : ∃ m, k = m + 1 := ⟨k - 1, by omega⟩; simp only [laws_toUint32S.l0]; rw [if_neg (by simp)]⟩
  | r :: rest, [], pre, hj, hl => by simp at hj
  | r :: rest, j :: junk, pre, hj, hl => by
    have hlen : (pre ++ r :: rest).length = pre.length + (rest.length + 1) := by simp
    have hlen2 : (pre ++ j :: junk).length = pre.length + (junk.length + 1) := by simp
    have h := toUint32S_l0 rest junk (pre ++ [r]) (by simpa using hj) (by simpa using hl)
    rw [len_snoc, List.append_assoc, List.singleton_append] at h
    refine Ev.step (fun k => ?_) h
    simp only [laws_toUint32S.l0]
    rw [if_pos (by rw [hlen]; omega), if_pos (by omega), if_pos (by rw [hlen2]; omega), set_at, rd_at, w64 (by omega) (by omega)]
theorem toUint32S_ev (l : List Int) (h : l.length ≤ 1048576) : Ev (fun k => laws_toUint32S.f k l) l := by
  have h1 := toUint32S_l0 l (List.replicate l.length 0) [] (by simp) (by simp; omega)
  refine Ev.congr (fun k => ?_) h1
  simp only [laws_toUint32S.f]
  rw [if_pos (by omega), if_pos (by simp; omega)]
  simp

/-! ### Big's helpers -/
theorem szBig_big (a : Bool) (l : List Int) (z : Int) (hz0 : 0 ≤ z) (hz1 : z ≤ 1048576) (hl : l.length ≤ 9223372036854775807) :
    laws_szBig.f a l z = some (if z < l.length then -1 else z - l.length) := by
  unfold laws_szBig.f laws_szUint32S.f
  rw [w64 (by omega) (by omega)]
  by_cases h : z < (l.length : Int)
  · rw [if_pos (by omega), if_pos h]; rfl
  · rw [if_neg (by omega), if_neg h]; simp only [Option.bind_some]; rw [if_neg (by omega)]
theorem toBig_ev (a : Bool) (l : List Int) (h : l.length ≤ 1048576) : Ev (fun k => laws_toBig.f k a l) (a, l) :=
  ev_bindc (toUint32S_ev l h) rfl
theorem eqBig_ev (a : Bool) (l : List Int) (h : l.length ≤ 4611686018427387904) : Ev (fun k => laws_eqBig.f k a l a l) true := by
  refine Ev.congr (fun k => ?_) (ev_bindc (f := fun t => if t = true then some true else some false) (eqUint32S_ev l h) rfl)
  simp only [laws_eqBig.f]
  rw [if_neg (by simp)]

theorem markBig_ev (a : Bool) (l : List Int) (z : Int) (h : l.length ≤ 4294967296) (h0 : 0 ≤ z) (h1 : z ≤ 4294967296) : Ev (fun k => laws_markBig.f k a l z) (z + l.length, marks (fun z => z % 4294967296) z l.length) :=
  ev_bindc (markUint32S_ev l z h h0 h1) rfl
theorem wf_dg {l : List Int} (h : ∀ y ∈ l, (Lit.int .u32 y).wf = true) : Dg 4294967296 l := fun d hd => by
  have := h d hd
  simp [Lit.wf, IntKind.min, IntKind.max, IntKind.bits, IntKind.signed] at this
  omega

/-! ### limbs into digits, and back -/
def halves : List Int → List Int
  | [] => []
  | x :: r => x % 65536 :: x / 65536 :: halves r
def pairs : List Int → List Int
  | [] => []
  | [a] => [a]
  | a :: b :: r => (a + b * 65536) :: pairs r
theorem halves_append : ∀ xs ys : List Int, halves (xs ++ ys) = halves xs ++ halves ys
  | [], _ => rfl
  | x :: xs, ys => by simp [halves, halves_append xs ys]
theorem halves_length : ∀ l : List Int, (halves l).length = 2 * l.length
  | [] => rfl
  | x :: r => by simp only [halves, List.length_cons, halves_length r]; omega
theorem halves_dv : ∀ l : List Int, dv 65536 (halves l) = dv 4294967296 l
  | [] => rfl
  | x :: r => by
    simp only [halves, dv, halves_dv r]
    have := Int.mul_ediv_add_emod x 65536
    omega
theorem halves_dg : ∀ {l : List Int}, Dg 4294967296 l → Dg 65536 (halves l)
  | [], _ => fun d h => by simp [halves] at h
  | x :: r, h => by
    intro d hd
    have hx := h x (by simp)
    simp only [halves, List.mem_cons] at hd
    rcases hd with rfl | rfl | hd
    · omega
    · omega
    · exact halves_dg (fun z hz => h z (by simp [hz])) d hd
theorem pairs_dv : ∀ l : List Int, dv 4294967296 (pairs l) = dv 65536 l
  | [] => rfl
  | [a] => by simp [pairs, dv]
  | a :: b :: r => by
    simp only [pairs, dv, pairs_dv r]
    omega
theorem pairs_dg : ∀ {l : List Int}, Dg 65536 l → Dg 4294967296 (pairs l)
  | [], _ => fun d h => by simp [pairs] at h
  | [a], h => by
    intro d hd
    have := h a (by simp)
    simp only [pairs, List.mem_singleton] at hd
    omega
  | a :: b :: r, h => by
    intro d hd
    have ha := h a (by simp)
    have hb := h b (by simp)
    simp only [pairs, List.mem_cons] at hd
    rcases hd with rfl | hd
    · omega
    · exact pairs_dg (fun z hz => h z (by simp [hz])) d hd
theorem pairs_nil : ∀ {l : List Int}, pairs l = [] → l = []
  | [], _ => rfl
  | [a], h => by simp [pairs] at h
  | a :: b :: r, h => by simp [pairs] at h
theorem pairs_len : ∀ l : List Int, (pairs l).length ≤ l.length
  | [] => Nat.le_refl _
  | [a] => Nat.le_refl _
  | a :: b :: r => by have := pairs_len r; simp only [pairs, List.length_cons]; omega
theorem cn_cons (a : Int) {r : List Int} (h : r ≠ []) : Cn (a :: r) ↔ Cn r := by
  obtain ⟨b, s, rfl⟩ := List.exists_cons_of_ne_nil h
  simp [Cn]
theorem pairs_cn : ∀ {l : List Int}, Dg 65536 l → Cn l → Cn (pairs l)
  | [], _, _ => Or.inl rfl
  | [a], _, h => h
  | [a, b], hd, h => by
    have ha := hd a (by simp)
    have hb := hd b (by simp)
    simp [Cn] at h
    simp [Cn, pairs]
    omega
  | a :: b :: c :: r, hd, h => by
    have h1 : Cn (c :: r) := (cn_cons b (by simp)).1 ((cn_cons a (by simp)).1 h)
    have h2 := pairs_cn (fun z hz => hd z (by simp [hz])) h1
    have h3 : pairs (c :: r) ≠ [] := fun e => by have := pairs_nil e; simp at this
    exact (cn_cons _ h3).2 h2
theorem l1of_l0 (a : Bool) : ∀ (rest pre : List Int), Dg 4294967296 (pre ++ rest) → (pre ++ rest).length ≤ 1048576 →
    ∃ t, Norm (halves (pre ++ rest)) t ∧ Ev (fun k => spec_l1of.l0 k (halves pre) ((pre.length : Nat) : Int) a (pre ++ rest)) (a && decide (0 < t.length), t)
  | [], pre, hd, hl => by
    rw [List.append_nil] at hd hl ⊢
    obtain ⟨t, ht, hev⟩ := l1make_ev a (halves pre) (by rw [halves_length]; omega)
    refine ⟨t, ht, Ev.step (fun k => ?_) (ev_bindc hev rfl)⟩
    simp only [spec_l1of.l0]
    rw [if_neg (by omega)]
  | x :: rest, pre, hd, hl => by
    have hx := hd x (by simp)
    have hlen : (pre ++ x :: rest).length = pre.length + (rest.length + 1) := by simp
    have hh := halves_length pre
    obtain ⟨t, ht, hev⟩ := l1of_l0 a rest (pre ++ [x]) (by simpa using hd) (by simpa using hl)
    rw [List.append_assoc, List.singleton_append] at ht hev
    refine ⟨t, ht, Ev.step (fun k => ?_) hev⟩
    rw [len_snoc, halves_append]
    simp only [spec_l1of.l0]
    rw [if_pos (by rw [hlen]; omega), if_pos (by omega), if_pos (by omega), rd_at]
    simp only [Option.bind_some, halves]
    rw [if_pos (by simp; omega), Int.tmod_eq_emod_of_nonneg hx.1, Int.tdiv_eq_ediv_of_nonneg hx.1, w64 (x := x % 65536) (by omega) (by omega), w64 (x := ((pre.length : Nat) : Int) + 1) (by omega) (by omega), Int.emod_eq_of_lt (a := x / 65536) (by omega) (by omega)]
    simp
theorem l1of_ev (a : Bool) (l : List Int) (hd : Dg 4294967296 l) (hl : l.length ≤ 1048576) :
    ∃ t, Cn t ∧ Dg 65536 t ∧ dv 65536 t = dv 4294967296 l ∧ t.length ≤ 2 * l.length ∧ Ev (fun k => spec_l1of.f k a l) (a && decide (0 < t.length), t) := by
  obtain ⟨t, ht, hev⟩ := l1of_l0 a l [] (by simpa using hd) (by simpa using hl)
  rw [List.nil_append] at ht hev
  exact ⟨t, ht.top, ht.dg (halves_dg hd), by rw [ht.val, halves_dv], by have := ht.len; rw [halves_length] at this; exact this, Ev.congr (fun k => rfl) hev⟩

/-! ### the program's groups of nine digits -/
theorem or_hi {r d : Int} (hr : 0 ≤ r ∧ r < 1000000000) (hd : 0 ≤ d ∧ d < 4294967296) : Go.bits .or .u64 (IntKind.u64.wrap (r * 4294967296)) (IntKind.u64.wrap d) = r * 4294967296 + d := by
  obtain ⟨y, rfl⟩ := Int.eq_ofNat_of_zero_le hr.1
  obtain ⟨x, rfl⟩ := Int.eq_ofNat_of_zero_le hd.1
  rw [u64w (by omega) (by omega), u64w (by omega) (by omega)]
  have hc : ((y : Nat) : Int) * 4294967296 = ((y * 4294967296 : Nat) : Int) := by omega
  rw [hc]
  show IntKind.u64.wrap (((BitVec.ofInt 64 ((y * 4294967296 : Nat) : Int) ||| BitVec.ofInt 64 ((x : Nat) : Int)).toNat : Nat) : Int) = _
  have h := Nat.two_pow_add_eq_or_of_lt (i := 32) (b := x) (by omega) y
  rw [BitVec.toNat_or, BitVec.ofInt_natCast, BitVec.ofInt_natCast, BitVec.toNat_ofNat, BitVec.toNat_ofNat, Nat.mod_eq_of_lt (a := x) (by omega), Nat.mod_eq_of_lt (a := y * 4294967296) (by omega), show y * 4294967296 = 2 ^ 32 * y from by omega, ← h, u64w (by omega) (by omega)]
  omega
theorem small_l0 (l : List Int) (hd : Dg 4294967296 l) (hl : l.length ≤ 1048576) : ∀ (n : Nat) (out : List Int), n ≤ l.length → out.length = l.length → out.drop n = (divL 4294967296 1000000000 (l.drop n)).1 →
    ∃ t, Norm (divL 4294967296 1000000000 l).1 t ∧ Ev (fun k => impl_limbs_small.l0 k l 1000000000 out (divL 4294967296 1000000000 (l.drop n)).2 ((n : Int) - 1)) (t, (divL 4294967296 1000000000 l).2)
  | 0, out, _, ho, he => by
    simp only [List.drop_zero] at he ⊢
    obtain ⟨t, ht, hev⟩ := limbstrim_f out (by omega)
    rw [he] at ht
    have hr := divL_rem (B := 4294967296) (D := 1000000000) (by omega) l
    refine ⟨t, ht, Ev.step (fun k => ?_) (ev_bindc (f := fun t => some (t, (divL 4294967296 1000000000 l).2)) hev rfl)⟩
    simp only [impl_limbs_small.l0]
    rw [if_neg (by omega), Int.emod_eq_of_lt (a := (divL 4294967296 1000000000 l).2) (by omega) (by omega)]
  | n + 1, out, hn, ho, he => by
    have hr := divL_rem (B := 4294967296) (D := 1000000000) (by omega) (l.drop (n + 1))
    have hx := hd.get (by omega) n
    have hdr := drop_getD l n (by omega)
    have e1 : (divL 4294967296 1000000000 (l.drop n)).1 = ((divL 4294967296 1000000000 (l.drop (n + 1))).2 * 4294967296 + l.getD n 0) / 1000000000 :: (divL 4294967296 1000000000 (l.drop (n + 1))).1 := by rw [hdr]; rfl
    have e2 : (divL 4294967296 1000000000 (l.drop n)).2 = ((divL 4294967296 1000000000 (l.drop (n + 1))).2 * 4294967296 + l.getD n 0) % 1000000000 := by rw [hdr]; rfl
    obtain ⟨t, ht, hev⟩ := small_l0 l hd hl n (out.set n (((divL 4294967296 1000000000 (l.drop (n + 1))).2 * 4294967296 + l.getD n 0) / 1000000000)) (by omega) (by simpa using ho) (by rw [set_drop _ _ _ (by omega), he, e1])
    refine ⟨t, ht, Ev.step (fun k => ?_) hev⟩
    generalize hR : (divL 4294967296 1000000000 (l.drop (n + 1))).2 = R at hr e2 ⊢
    have e3 : ((n + 1 : Nat) : Int) - 1 = (n : Int) := by omega
    have e4 : IntKind.u64.wrap 1000000000 = 1000000000 := u64w (by omega) (by omega)
    have e5 := or_hi (r := R) (d := l.getD n 0) hr hx
    simp only [impl_limbs_small.l0]
    rw [e3, e4, if_pos (by omega), if_pos (by omega), if_pos (by omega), if_neg (by omega), if_pos (by omega), rd_nat, e5, Int.tdiv_eq_ediv_of_nonneg (by omega), Int.tmod_eq_emod_of_nonneg (by omega), u64w (x := (R * 4294967296 + l.getD n 0) / 1000000000) (by omega) (by omega), Int.emod_eq_of_lt (a := (R * 4294967296 + l.getD n 0) / 1000000000) (by omega) (by omega), w64 (x := (n : Int) - 1) (by omega) (by omega), Int.toNat_natCast, e2]
theorem small_ev (l : List Int) (hd : Dg 4294967296 l) (hl : l.length ≤ 1048576) : ∃ t, Cn t ∧ Dg 4294967296 t ∧ dv 4294967296 t = dv 4294967296 l / 1000000000 ∧ t.length ≤ l.length ∧ Ev (fun k => impl_limbs_small.f k l 1000000000) (t, dv 4294967296 l % 1000000000) := by
  obtain ⟨t, ht, hev⟩ := small_l0 l hd hl l.length (List.replicate l.length 0) (Nat.le_refl _) (by simp) (by simp [divL])
  obtain ⟨h1, h2⟩ := divL_div (B := 4294967296) (D := 1000000000) (by omega) l
  refine ⟨t, ht.top, ht.dg (divL_dg (by omega) (by omega) hd), by rw [ht.val, h1], by have := ht.len; rw [divL_len] at this; exact this, Ev.congr (fun k => ?_) (h2 ▸ hev)⟩
  simp only [impl_limbs_small.f, List.drop_length, divL, Int.toNat_natCast]
  rw [if_pos (by omega), if_pos (by omega), w64 (by omega) (by omega)]
theorem nil_of_zero {B : Int} (hB : 1 < B) {l : List Int} (hd : Dg B l) (hc : Cn l) (h : dv B l = 0) : l = [] := by
  by_cases h0 : l = []
  · exact h0
  · have h1 := cn_low (by omega) hd hc h0
    have h2 := one_le_ipow (B := B) (by omega) (l.length - 1)
    omega
theorem nines_ev : ∀ (n : Nat) (l : List Int), Dg 4294967296 l → Cn l → l.length ≤ 1048576 → dv 4294967296 l < 65536 ^ n →
    ∃ gs, gs.length ≤ n ∧ Dg 1000000000 gs ∧ Cn gs ∧ dv 1000000000 gs = dv 4294967296 l ∧ Ev (fun k => impl_nines.f k l) gs
  | 0, l, hd, hc, hl, hv => by
    have h0 := dv_nonneg (by omega) hd
    have h1 : dv 4294967296 l = 0 := by simp at hv; omega
    obtain rfl := nil_of_zero (by omega) hd hc h1
    exact ⟨[], Nat.le_refl _, fun d h => by simp at h, Or.inl rfl, rfl, ⟨1, fun k hk => by
      obtain ⟨k, rfl⟩ : ∃ m, k = m + 1 := ⟨k - 1, by omega⟩
      simp [impl_nines.f]⟩⟩
  | n + 1, l, hd, hc, hl, hv => by
    by_cases h0 : l = []
    · subst h0
      exact ⟨[], Nat.zero_le _, fun d h => by simp at h, Or.inl rfl, rfl, ⟨1, fun k hk => by
        obtain ⟨k, rfl⟩ : ∃ m, k = m + 1 := ⟨k - 1, by omega⟩
        simp [impl_nines.f]⟩⟩
    · have hp : 0 < l.length := List.length_pos_iff.2 h0
      have hnn := dv_nonneg (by omega) hd
      have hlow := cn_low (by omega) hd hc h0
      have hone := one_le_ipow (B := 4294967296) (by omega) (l.length - 1)
      obtain ⟨t, htc, htd, htv, htl, hev⟩ := small_ev l hd hl
      have hlt : dv 4294967296 t < 65536 ^ n := by
        rw [htv]
        rw [Int.pow_succ] at hv
        have hpw : (0 : Int) ≤ 65536 ^ n := Int.le_of_lt (Int.pow_pos (by omega))
        exact Int.ediv_lt_of_lt_mul (by omega) (by omega)
      obtain ⟨gs, hgl, hgd, hgc, hgv, hge⟩ := nines_ev n t htd htc (by omega) hlt
      have hm := Int.mul_ediv_add_emod (dv 4294967296 l) 1000000000
      have hm0 := Int.emod_nonneg (dv 4294967296 l) (b := 1000000000) (by omega)
      have hm1 := Int.emod_lt_of_pos (dv 4294967296 l) (b := 1000000000) (by omega)
      refine ⟨dv 4294967296 l % 1000000000 :: gs, by simp; omega, fun d h => ?_, ?_, ?_, ?_⟩
      · rcases List.mem_cons.1 h with rfl | h
        · exact ⟨hm0, hm1⟩
        · exact hgd d h
      · by_cases hg0 : gs = []
        · subst hg0
          right
          simp only [dv] at hgv
          rw [htv] at hgv
          simp only [List.length_cons, List.length_nil, List.getD_cons_zero]
          simp
          omega
        · exact (cn_cons _ hg0).2 hgc
      · simp only [dv]
        rw [hgv, htv]
        omega
      · refine Ev.step (f := fun k => (impl_limbs_small.f k l 1000000000).bind fun t => (impl_nines.f k t.1).bind fun r => some (t.2 :: r)) (fun k => ?_) (Ev.bind hev ?_)
        · rw [impl_nines.f, if_pos hp]
        · exact ev_bindc hge rfl

/-! ### decimal digits -/
def decL (v : Nat) : List Int := if h : v = 0 then [] else (48 + ((v % 10 : Nat) : Int)) :: decL (v / 10)
termination_by v
decreasing_by omega
def digsN : Nat → Nat → List Int
  | 0, _ => []
  | n + 1, v => (48 + ((v % 10 : Nat) : Int)) :: digsN n (v / 10)
theorem decL_zero : decL 0 = [] := by rw [decL, dif_pos rfl]
theorem decL_pos {v : Nat} (h : v ≠ 0) : decL v = (48 + ((v % 10 : Nat) : Int)) :: decL (v / 10) := by rw [decL, dif_neg h]
theorem digsN_len : ∀ n v, (digsN n v).length = n
  | 0, _ => rfl
  | n + 1, v => by simp [digsN, digsN_len n]
theorem decL_split : ∀ (n v : Nat), v / 10 ^ n ≠ 0 → decL v = digsN n v ++ decL (v / 10 ^ n)
  | 0, v, _ => by simp [digsN]
  | n + 1, v, h => by
    have hv : v ≠ 0 := by rintro rfl; simp at h
    have e : v / 10 ^ (n + 1) = v / 10 / 10 ^ n := by rw [Nat.pow_succ, Nat.mul_comm, Nat.div_div_eq_div_mul]
    rw [decL_pos hv, decL_split n (v / 10) (by rw [← e]; exact h), e]
    rfl
theorem digsN_zero : ∀ n, digsN n 0 = List.replicate n 48
  | 0 => rfl
  | n + 1 => by simp [digsN, digsN_zero n, List.replicate_succ]
theorem digsN_mod : ∀ n v, digsN n (v % 10 ^ n) = digsN n v
  | 0, _ => rfl
  | n + 1, v => by
    have h1 : v % 10 ^ (n + 1) % 10 = v % 10 := Nat.mod_mod_of_dvd _ ⟨10 ^ n, by rw [Nat.pow_succ, Nat.mul_comm]⟩
    have h2 : v % 10 ^ (n + 1) / 10 = v / 10 % 10 ^ n := by
      rw [Nat.pow_succ, Nat.mul_comm (10 ^ n) 10, Nat.mod_mul_right_div_self]
    simp only [digsN]
    rw [h1, h2, digsN_mod n]
theorem dg8 (u : Nat) (h : u < 10) : (((UInt8.ofNat (48 + u)).toNat : Nat) : Int) = 48 + ((u : Nat) : Int) := by
  rw [UInt8.toNat_ofNat']
  rw [Nat.mod_eq_of_lt (by omega)]
  omega
theorem itoa_small {v : Nat} (h : v < 10) : itoaB (v : Int) = [48 + ((v : Nat) : Int)] := by
  unfold itoaB Lib.itoa
  rw [if_neg (by omega), Int.toNat_natCast, Lib.decDigits, dif_pos h, List.map_cons, List.map_nil, dg8 v h]
theorem itoa_big {v : Nat} (h : ¬ v < 10) : itoaB (v : Int) = itoaB ((v / 10 : Nat) : Int) ++ [48 + ((v % 10 : Nat) : Int)] := by
  unfold itoaB Lib.itoa
  rw [if_neg (by omega), if_neg (by omega), Int.toNat_natCast, Int.toNat_natCast]
  rw [Lib.decDigits, dif_neg h, List.map_append, List.map_cons, List.map_nil, dg8 _ (Nat.mod_lt _ (by omega))]
theorem itoa_dec : ∀ (n v : Nat), v ≤ n → v ≠ 0 → (decL v).reverse = itoaB (v : Int)
  | 0, v, h, h0 => by omega
  | n + 1, v, h, h0 => by
    by_cases h1 : v < 10
    · rw [itoa_small h1, decL_pos h0, Nat.div_eq_of_lt h1, decL_zero, Nat.mod_eq_of_lt h1]
      rfl
    · rw [itoa_big h1, decL_pos h0, List.reverse_cons, itoa_dec n (v / 10) (by omega) (by omega)]
theorem pad_dec : ∀ (n v : Nat), v < 10 ^ (n + 1) → (digsN (n + 1) v).reverse = List.replicate (n + 1 - (itoaB (v : Int)).length) 48 ++ itoaB (v : Int)
  | 0, v, h => by
    rw [itoa_small (by omega)]
    simp [digsN, Nat.mod_eq_of_lt (show v < 10 by omega)]
  | n + 1, v, h => by
    have e : digsN (n + 1 + 1) v = (48 + ((v % 10 : Nat) : Int)) :: digsN (n + 1) (v / 10) := rfl
    rw [e, List.reverse_cons]
    by_cases h1 : v < 10
    · rw [itoa_small h1, Nat.div_eq_of_lt h1, digsN_zero, Nat.mod_eq_of_lt h1]
      simp
    · have hlt : v / 10 < 10 ^ (n + 1) := by
        rw [Nat.div_lt_iff_lt_mul (by omega), ← Nat.pow_succ]; exact h
      rw [itoa_big h1, pad_dec n (v / 10) hlt, List.length_append, List.length_singleton, ← List.append_assoc]
      congr 3
      omega
/-! ### the text of the groups -/
theorem flat_congr {f g : Nat → List Int} : ∀ (l : List Nat), (∀ i ∈ l, f i = g i) → l.flatMap f = l.flatMap g
  | [], _ => rfl
  | x :: r, h => by rw [List.flatMap_cons, List.flatMap_cons, h x (by simp), flat_congr r (fun i hi => h i (by simp [hi]))]
theorem grps_text : ∀ (gs : List Int), gs ≠ [] → Dg 1000000000 gs → Cn gs → grpsB gs.reverse gs.length = (decL (dv 1000000000 gs).toNat).reverse
  | [], h, _, _ => absurd rfl h
  | [g], _, hd, hc => by
    have hg := hd g (by simp)
    obtain ⟨v, rfl⟩ := Int.eq_ofNat_of_zero_le hg.1
    have hne : v ≠ 0 := by
      rcases hc with hc | hc
      · cases hc
      · simp at hc; omega
    have e : (dv 1000000000 [((v : Nat) : Int)]).toNat = v := by simp [dv]
    rw [e, itoa_dec v v (Nat.le_refl _) hne]
    simp [grpsB, grpB]
  | g :: h :: r, _, hd, hc => by
    have hg := hd g (by simp)
    have hd' : Dg 1000000000 (h :: r) := fun z hz => hd z (by simp only [List.mem_cons] at hz ⊢; right; exact hz)
    have hc' : Cn (h :: r) := (cn_cons g (by simp)).1 hc
    have ih := grps_text (h :: r) (by simp) hd' hc'
    have hlow := cn_low (by omega) hd' hc' (by simp)
    have hone := one_le_ipow (B := 1000000000) (by omega) ((h :: r).length - 1)
    obtain ⟨v, hv⟩ := Int.eq_ofNat_of_zero_le (dv_nonneg (by omega) hd')
    obtain ⟨u, rfl⟩ := Int.eq_ofNat_of_zero_le hg.1
    have e1 : dv 1000000000 (((u : Nat) : Int) :: h :: r) = ((u + 1000000000 * v : Nat) : Int) := by
      have : dv 1000000000 (((u : Nat) : Int) :: h :: r) = (u : Int) + 1000000000 * dv 1000000000 (h :: r) := rfl
      rw [this, hv]
      omega
    have e2 : (u + 1000000000 * v) / 10 ^ 9 = v := by omega
    have e3 : (u + 1000000000 * v) % 10 ^ 9 = u := by omega
    rw [hv, Int.toNat_natCast] at ih
    rw [e1, Int.toNat_natCast, decL_split 9 (u + 1000000000 * v) (by rw [e2]; omega), e2, ← digsN_mod 9, e3, List.reverse_append, pad_dec 8 u (by omega), ← ih]
    have e4 : (((u : Nat) : Int) :: h :: r).reverse = (h :: r).reverse ++ [((u : Nat) : Int)] := List.reverse_cons
    have e5 : (((u : Nat) : Int) :: h :: r).length = (h :: r).length + 1 := rfl
    rw [e4, e5]
    have e6 : (List.range ((h :: r).length + 1)).flatMap (fun i => grpB i (((h :: r).reverse ++ [((u : Nat) : Int)]).getD i 0)) = (List.range (h :: r).length).flatMap (fun i => grpB i ((h :: r).reverse.getD i 0)) ++ grpB (h :: r).length ((u : Nat) : Int) := by
      rw [List.range_succ, List.flatMap_append]
      congr 1
      · refine flat_congr _ (fun i hi => ?_)
        have hi := List.mem_range.1 hi
        rw [List.getD_eq_getElem?_getD, List.getD_eq_getElem?_getD, List.getElem?_append_left (by simpa using hi)]
      · rw [List.flatMap_cons, List.flatMap_nil, List.append_nil, List.getD_eq_getElem?_getD, List.getElem?_append_right (by simp)]
        simp
    unfold grpsB
    rw [e6]
    congr 1
/-! ### the reference's text -/
theorem text_l1 (b : List Int) (hb : b.length ≤ 1048576) : ∀ (n : Nat) (out : List Int), n ≤ b.length → out.length + n ≤ 1048576 → Ev (fun k => spec_BigText.l1 k b out ((n : Int) - 1)) (out ++ (b.take n).reverse, 0)
  | 0, out, _, _ => ⟨1, fun k hk => by
    obtain ⟨k, rfl⟩ : ∃ m, k = m + 1 := ⟨k - 1, by omega⟩
    simp only [spec_BigText.l1]
    rw [if_neg (by omega)]
    simp⟩
  | n + 1, out, hn, ho => by
    have ih := text_l1 b hb n (out ++ [b.getD n 0]) (by omega) (by simp; omega)
    have e3 : ((n + 1 : Nat) : Int) - 1 = (n : Int) := by omega
    have e4 : out ++ [b.getD n 0] ++ (b.take n).reverse = out ++ (b.take (n + 1)).reverse := by
      rw [take_succ_getD b n (by omega), List.reverse_append, List.append_assoc]
      rfl
    rw [e4] at ih
    refine Ev.step (fun k => ?_) ih
    simp only [spec_BigText.l1]
    rw [e3, if_pos (by omega), if_pos (by omega), if_pos (by omega), if_pos (by omega), rd_nat, w64 (x := (n : Int) - 1) (by omega) (by omega)]
theorem text_j1 (b : List Int) (hb : b.length ≤ 524288) : Ev (fun k => spec_BigText.j1 k b) (b.reverse, 0) := by
  have h := text_l1 b (by omega) b.length [] (Nat.le_refl _) (by simp; omega)
  rw [List.nil_append, List.take_length] at h
  refine Ev.step (fun k => ?_) h
  simp only [spec_BigText.j1]
  rw [w64 (by omega) (by omega)]
theorem text_l0 (a : Bool) (l : List Int) : ∀ (n : Nat) (b d : List Int), Dg 65536 d → Cn d → d.length ≤ 1048576 → dv 65536 d < 2 ^ n → b.length + n ≤ 524287 →
    Ev (fun k => spec_BigText.l0 k b d a l) (((b ++ decL (dv 65536 d).toNat) ++ (if a = true then [45] else [])).reverse, 0) := by
  have fin : ∀ b : List Int, b.length ≤ 524287 → Ev (fun k => spec_BigText.l0 k b [] a l) ((b ++ (if a = true then [45] else [])).reverse, 0) := by
    intro b hb
    cases a with
    | true =>
      refine Ev.step (fun k => ?_) (text_j1 (b ++ [45]) (by simp; omega))
      simp only [spec_BigText.l0]
      rw [if_neg (by simp)]
      simp only [if_true]
      rw [if_pos (by omega)]
    | false =>
      rw [if_neg (by simp), List.append_nil]
      refine Ev.step (fun k => ?_) (text_j1 b (by omega))
      simp only [spec_BigText.l0]
      rw [if_neg (by simp), if_neg (by simp)]
  intro n
  induction n with
  | zero =>
    intro b d hd hc hl hv hb
    have h0 := dv_nonneg (by omega) hd
    have h1 : dv 65536 d = 0 := by simp at hv; omega
    obtain rfl := nil_of_zero (by omega) hd hc h1
    simpa [dv, decL_zero] using fin b (by omega)
  | succ n ih =>
    intro b d hd hc hl hv hb
    by_cases h0 : d = []
    · subst h0
      simpa [dv, decL_zero] using fin b (by omega)
    · have hnn := dv_nonneg (by omega) hd
      have hlow := cn_low (by omega) hd hc h0
      have hone := one_le_ipow (B := 65536) (by omega) (d.length - 1)
      obtain ⟨t, htc, htd, htv, htl, hev⟩ := l1tenth_ev d hd hl
      obtain ⟨V, hV⟩ := Int.eq_ofNat_of_zero_le hnn
      rw [Int.pow_succ] at hv
      have hlt : dv 65536 t < 2 ^ n := by rw [htv]; omega
      have h2 := ih (b ++ [48 + ((V % 10 : Nat) : Int)]) t htd htc (by omega) hlt (by simp; omega)
      have e1 : (dv 65536 t).toNat = V / 10 := by rw [htv, hV]; omega
      have e2 : decL (dv 65536 d).toNat = (48 + ((V % 10 : Nat) : Int)) :: decL (V / 10) := by
        rw [hV, Int.toNat_natCast]
        exact decL_pos (by omega)
      rw [e1] at h2
      rw [e2]
      have e3 : dv 65536 d % 10 = ((V % 10 : Nat) : Int) := by rw [hV]; omega
      rw [e3] at hev
      have hm := Nat.mod_lt V (show 10 > 0 by omega)
      refine Ev.step (f := fun k => (spec_l1tenth.f k d).bind fun bt => if b.length < 140737488355328 then spec_BigText.l0 k (b ++ [(wrap64 (48 + bt.2)) % 256]) bt.1 a l else none) (fun k => ?_) (Ev.bind hev ?_)
      · simp only [spec_BigText.l0]
        rw [if_pos (by have := List.length_pos_iff.2 h0; omega)]
      · rw [List.append_assoc, List.append_assoc] at h2
        have h3 : b ++ ([48 + ((V % 10 : Nat) : Int)] ++ (decL (V / 10) ++ if a = true then [45] else [])) = b ++ (48 + ((V % 10 : Nat) : Int)) :: decL (V / 10) ++ if a = true then [45] else [] := by simp only [List.append_assoc, List.cons_append, List.nil_append]
        rw [h3] at h2
        refine Ev.congr (fun k => ?_) h2
        dsimp only
        rw [if_pos (by omega), w64 (by omega) (by omega), Int.emod_eq_of_lt (a := 48 + ((V % 10 : Nat) : Int)) (by omega) (by omega)]

theorem eqByteS_l0 : ∀ (rest pre : List Int), (pre ++ rest).length ≤ 4611686018427387904 → Ev (fun k => laws_eqByteS.l0 k (pre ++ rest) (pre ++ rest) ((pre.length : Nat) : Int)) true
  | [], pre, hl => ⟨1, fun k hk => by obtain ⟨k, rfl⟩ : ∃ m, k = m + 1 := ⟨k - 1, by omega⟩; simp only [laws_eqByteS.l0]; rw [if_neg (by simp)]⟩
  | r :: rest, pre, hl => by
    have hlen : (pre ++ r :: rest).length = pre.length + (rest.length + 1) := by simp
    have h := eqByteS_l0 rest (pre ++ [r]) (by simpa using hl)
    rw [len_snoc, List.append_assoc, List.singleton_append] at h
    refine Ev.step (fun k => ?_) h
    simp only [laws_eqByteS.l0]
    rw [if_pos (by rw [hlen]; omega), if_pos (by omega), if_pos (by rw [hlen]; omega), if_pos trivial, w64 (by omega) (by omega)]
theorem eqByteS_ev (l : List Int) (h : l.length ≤ 4611686018427387904) : Ev (fun k => laws_eqByteS.f k l l) true := by
  have h1 := eqByteS_l0 l [] (by simpa using h)
  refine Ev.congr (fun k => ?_) h1
  simp only [laws_eqByteS.f]
  rw [if_pos trivial]
  rfl

theorem markByteS_l0 : ∀ (rest pre : List Int) (z : Int), (pre ++ rest).length ≤ 4611686018427387904 → 0 ≤ z → z + rest.length ≤ 4611686018427387904 →
    Ev (fun k => laws_markByteS.l0 k (pre ++ rest) z ((pre.length : Nat) : Int)) (z + rest.length, pre ++ marks (fun z => z % 256) z rest.length)
  | [], pre, z, hl, h0, h1 => ⟨1, fun k hk => by obtain ⟨k, rfl⟩ : ∃ m, k = m + 1 := ⟨k - 1, by omega⟩; simp only [laws_markByteS.l0]; rw [if_neg (by simp)]; simp [marks]⟩
  | r :: rest, pre, z, hl, h0, h1 => by
    have hlen : (pre ++ r :: rest).length = pre.length + (rest.length + 1) := by simp
    rw [List.length_cons] at h1
    have h := markByteS_l0 rest (pre ++ [(fun z => z % 256) z]) (z + 1) (by simpa using hl) (by omega) (by omega)
    rw [len_snoc, List.append_assoc pre [(fun z => z % 256) z] rest, List.append_assoc pre [(fun z => z % 256) z] (marks _ _ _), List.singleton_append, List.singleton_append, show z + 1 + (rest.length : Int) = z + ((r :: rest).length : Nat) from by rw [List.length_cons]; omega] at h
    refine Ev.step (fun k => ?_) h
    simp only [laws_markByteS.l0]
    rw [if_pos (by rw [hlen]; omega), if_pos (by omega), set_at, w64 (by omega) (by omega), w64 (x := ((pre.length : Nat) : Int) + 1) (by omega) (by omega), List.append_assoc, List.singleton_append]
theorem markByteS_ev (l : List Int) (z : Int) (h : l.length ≤ 4294967296) (h0 : 0 ≤ z) (h1 : z ≤ 4294967296) : Ev (fun k => laws_markByteS.f k l z) (z + l.length, marks (fun z => z % 256) z l.length) := by
  have h1 := markByteS_l0 l [] z (by simp; omega) h0 (by omega)
  exact Ev.congr (fun k => rfl) h1

theorem heldByteS_l0 : ∀ (n : Nat) (pre : List Int) (z : Int), pre.length + n ≤ 4611686018427387904 → 0 ≤ z → z + n ≤ 4611686018427387904 →
    Ev (fun k => laws_heldByteS.l0 k (pre ++ marks (fun z => z % 256) z n) z ((pre.length : Nat) : Int)) (z + n)
  | 0, pre, z, hl, h0, h1 => ⟨1, fun k hk => by obtain ⟨k, rfl⟩ : ∃ m, k = m + 1 := ⟨k - 1, by omega⟩; show laws_heldByteS.l0 (k + 1) (pre ++ []) z _ = _; simp only [laws_heldByteS.l0, List.append_nil]; rw [if_neg (by omega)]; simp⟩
  | n + 1, pre, z, hl, h0, h1 => by
    have hlen : (pre ++ marks (fun z => z % 256) z (n + 1)).length = pre.length + (n + 1) := by simp [marks_length]
    have h := heldByteS_l0 n (pre ++ [(fun z => z % 256) z]) (z + 1) (by simp; omega) (by omega) (by omega)
    rw [len_snoc, List.append_assoc, List.singleton_append, show z + 1 + (n : Int) = z + ((n + 1 : Nat) : Int) from by omega] at h
    refine Ev.step (fun k => ?_) h
    rw [show marks (fun z => z % 256) z (n + 1) = (fun z => z % 256) z :: marks (fun z => z % 256) (z + 1) n from rfl] at hlen ⊢
    simp only [laws_heldByteS.l0]
    rw [if_pos (by rw [hlen]; omega), if_pos (by omega), if_pos (by rw [rd_at]), w64 (by omega) (by omega), w64 (x := ((pre.length : Nat) : Int) + 1) (by omega) (by omega)]
theorem heldByteS_ev (n : Nat) (z : Int) (h : n ≤ 4294967296) (h0 : 0 ≤ z) (h1 : z ≤ 4294967296) : Ev (fun k => laws_heldByteS.f k (marks (fun z => z % 256) z n) z) (z + n) := by
  have h1 := heldByteS_l0 n [] z (by simp; omega) h0 (by omega)
  exact Ev.congr (fun k => rfl) h1

theorem BigValid_both (a : Bool) (l : List Int) (h : l.length ≤ 1048576) : ∃ b, spec_BigValid.f a l = some b ∧ impl_BigValid.f a l = some b ∧ (b = true → l.length ≤ 512) := by
  unfold spec_BigValid.f impl_BigValid.f
  by_cases h0 : (l.length : Int) = 0
  · rw [if_pos h0, if_pos h0]
    cases a
    · exact ⟨true, rfl, by simp, fun _ => by omega⟩
    · exact ⟨false, rfl, by simp [h0], fun h => by cases h⟩
  · rw [if_neg h0, if_neg h0, if_pos (show (l.length : Int) > 0 by omega)]
    by_cases h1 : (l.length : Int) ≤ 512
    · rw [if_pos h1, w64 (by omega) (by omega), if_pos (by omega), if_pos (by omega)]
      exact ⟨_, rfl, rfl, fun _ => by omega⟩
    · rw [if_neg h1]
      exact ⟨_, rfl, rfl, fun h => by cases h⟩

/-! ### the law -/
theorem dec_by (v : Nat) : ∀ n, v ≤ n → ∀ x ∈ decL v, 0 ≤ x ∧ x < 256 := by
  intro n
  induction n generalizing v with
  | zero =>
    intro h x hx
    obtain rfl : v = 0 := by omega
    rw [decL_zero] at hx
    simp at hx
  | succ n ih =>
    intro h x hx
    by_cases h0 : v = 0
    · subst h0
      rw [decL_zero] at hx
      simp at hx
    · rw [decL_pos h0] at hx
      rcases List.mem_cons.1 hx with rfl | hx
      · have := Nat.mod_lt v (show 10 > 0 by omega)
        omega
      · exact ih (v / 10) (by omega) x hx
theorem dec_len : ∀ (n v : Nat), v < 2 ^ n → (decL v).length ≤ n
  | 0, v, h => by
    obtain rfl : v = 0 := by omega
    rw [decL_zero]
    exact Nat.le_refl _
  | n + 1, v, h => by
    by_cases h0 : v = 0
    · subst h0
      rw [decL_zero]
      exact Nat.zero_le _
    · rw [decL_pos h0, List.length_cons]
      have := dec_len n (v / 10) (by rw [Nat.pow_succ] at h; omega)
      omega
theorem cn_of_valid (a : Bool) (l : List Int) (h : spec_BigValid.f a l = some true) : Cn l := by
  unfold spec_BigValid.f at h
  by_cases h0 : (l.length : Int) = 0
  · exact .inl (List.eq_nil_of_length_eq_zero (by omega))
  · rw [if_neg h0] at h
    by_cases h1 : (l.length : Int) ≤ 512
    · rw [if_pos h1, w64 (by omega) (by omega), if_pos (by omega), if_pos (by omega)] at h
      right
      have h2 := Option.some.inj h
      have e : ((l.length : Int) - 1) = ((l.length - 1 : Nat) : Int) := by omega
      rw [e, rd_nat] at h2
      simpa using h2
    · rw [if_neg h1] at h
      cases h
theorem BigText_same (a : Bool) (x : List Int) (hd : Dg 4294967296 x) (hl : x.length ≤ 1048576) :
    ∃ r : List Int × Int, r.1.length ≤ 1048576 ∧ Ev (fun k => spec_BigText.f k a x) r ∧ Ev (fun k => impl_BigText.f k a x) r := by
  obtain ⟨b, hs, hi, hb⟩ := BigValid_both a x hl
  cases b with
  | false =>
    refine ⟨([], 1), by simp, ?_, ?_⟩
    · exact Ev.congr (fun k => by unfold spec_BigText.f; rw [hs]; rfl) (Ev.now _)
    · exact Ev.congr (fun k => by unfold impl_BigText.f; rw [hi]; rfl) (Ev.now _)
  | true =>
    have hb' := hb rfl
    obtain ⟨t, htc, htd, htv, htl, hof⟩ := l1of_ev a x hd hl
    have hxc : Cn x := cn_of_valid a x hs
    have hlt : dv 4294967296 x < 65536 ^ 1024 := by
      have h1 := dv_lt (by omega) hd (B := 4294967296)
      have h2 : (4294967296 : Int) ^ x.length ≤ 4294967296 ^ 512 := ipow_le (by omega) hb'
      have h3 : (4294967296 : Int) ^ 512 = 65536 ^ 1024 := by rw [show (4294967296 : Int) = 65536 ^ 2 from by decide, ← Int.pow_mul]
      omega
    obtain ⟨gs, hgl, hgd, hgc, hgv, hge⟩ := nines_ev 1024 x hd hxc hl hlt
    have hok : ok9 gs = true := List.all_eq_true.2 (fun g hg => by have := hgd g hg; simpa using this)
    by_cases h0 : x = []
    · subst h0
      obtain rfl : t = [] := List.eq_nil_of_length_eq_zero (by simpa using htl)
      obtain rfl : gs = [] := nil_of_zero (by omega) hgd hgc (by rw [hgv]; rfl)
      refine ⟨([48], 0), by simp, ?_, ?_⟩
      · exact Ev.congr (f := fun k => (spec_l1of.f k a []).bind fun bt => if (bt.2.length : Int) = 0 then some ([48], 0) else spec_BigText.l0 k [] bt.2 a []) (fun k => by unfold spec_BigText.f; rw [hs]; rfl) (Ev.bind hof (by simp only [List.length_nil]; exact Ev.now _))
      · exact Ev.congr (f := fun k => (impl_nines.f k []).bind fun gs => if gs.length = 0 then some ([48], 0) else (if gs.length ≤ 1048576 ∧ ok9 gs = true then some (textB a gs, 0) else none)) (fun k => by unfold impl_BigText.f; rw [hi]; rfl) (Ev.bind hge (by simp only [List.length_nil]; exact Ev.now _))
    · have hlow := cn_low (by omega) hd hxc h0
      have hone := one_le_ipow (B := 4294967296) (by omega) (x.length - 1)
      have ht0 : t ≠ [] := dv_ne_nil (B := 65536) (by rw [htv]; omega)
      have hg0 : gs ≠ [] := dv_ne_nil (B := 1000000000) (by rw [hgv]; omega)
      have hgp := List.length_pos_iff.2 hg0
      have htp := List.length_pos_iff.2 ht0
      have hlt2 : dv 65536 t < 2 ^ 16384 := by
        rw [htv]
        have : (65536 : Int) ^ 1024 = 2 ^ 16384 := by rw [show (65536 : Int) = 2 ^ 16 from by decide, ← Int.pow_mul]
        omega
      have htx := text_l0 a x 16384 [] t htd htc (by omega) hlt2 (by simp)
      have hgt := grps_text gs hg0 hgd hgc
      obtain ⟨V, hV⟩ := Int.eq_ofNat_of_zero_le (dv_nonneg (by omega) hd)
      have hVlt : V < 2 ^ 16384 := by
        rw [htv, hV] at hlt2
        have h9 : (((2 : Nat) ^ 16384 : Nat) : Int) = (2 : Int) ^ 16384 := Int.natCast_pow 2 16384
        rw [← h9] at hlt2
        exact Int.ofNat_lt.1 hlt2
      have hdl := dec_len 16384 V hVlt
      rw [htv, hV, Int.toNat_natCast, List.nil_append, List.reverse_append] at htx
      rw [hgv, hV, Int.toNat_natCast] at hgt
      have hT : textB a gs = (if a = true then [45] else []).reverse ++ (decL V).reverse := by
        unfold textB textB0
        rw [hgt]
        cases a <;> rfl
      rw [← hT] at htx
      refine ⟨(textB a gs, 0), ?_, ?_, ?_⟩
      · dsimp only
        rw [hT, List.length_append, List.length_reverse, List.length_reverse]
        have : (if a = true then [(45 : Int)] else []).length ≤ 1 := by cases a <;> simp
        omega
      · exact Ev.congr (f := fun k => (spec_l1of.f k a x).bind fun bt => if (bt.2.length : Int) = 0 then some ([48], 0) else spec_BigText.l0 k [] bt.2 a x) (fun k => by unfold spec_BigText.f; rw [hs]; rfl) (Ev.bind hof (Ev.congr (fun k => by dsimp only; rw [if_neg (by omega)]) htx))
      · exact Ev.congr (f := fun k => (impl_nines.f k x).bind fun gs => if gs.length = 0 then some ([48], 0) else (if gs.length ≤ 1048576 ∧ ok9 gs = true then some (textB a gs, 0) else none)) (fun k => by unfold impl_BigText.f; rw [hi]; rfl) (Ev.bind hge (Ev.congr (fun k => by rw [if_neg (by omega), if_pos ⟨by omega, hok⟩]) (Ev.now _)))
theorem FnExactBigText : laws_FnExactBigText.Pure := by
  rintro ⟨a, x⟩ ⟨_, hlx, hwx⟩
  dsimp only at hlx hwx ⊢
  have dx := wf_dg hwx
  refine Ev.rounds ?_
  unfold laws_FnExactBigText.f
  rw [szBig_big a x 1048576 (by omega) (by omega) hlx]
  simp only [Option.bind_some]
  by_cases h : 1048576 < (x.length : Int)
  · rw [if_pos h]
    exact ev_const rfl
  rw [if_neg h]
  simp only [show ¬ (1048576 - (x.length : Int) < 0) from by omega, if_false]
  have bx : x.length ≤ 1048576 := by omega
  obtain ⟨⟨r1, r2⟩, hr, hs, hi⟩ := BigText_same a x dx bx
  have tx := toBig_ev a x bx
  have ex := eqBig_ev a x (by omega)
  have er := eqByteS_ev r1 (by dsimp only at hr; omega)
  have mx := markBig_ev a x 1 (by omega) (by omega) (by omega)
  have mr := markByteS_ev r1 1 (by dsimp only at hr; omega) (by omega) (by omega)
  have hr' := heldByteS_ev r1.length 1 (by dsimp only at hr; omega) (by omega) (by omega)
  refine Ev.bind tx ?_
  refine Ev.bind hs ?_
  refine Ev.bind tx ?_
  refine Ev.bind hi ?_
  dsimp only
  refine Ev.bind er ?_
  simp only [if_true]
  refine Ev.bind tx ?_
  refine Ev.bind ex ?_
  simp only [if_true]
  refine Ev.bind mx ?_
  dsimp only
  simp only [show ¬ ((1 : Int) + x.length < 0) from by omega, if_false]
  refine Ev.bind er ?_
  simp only [if_true]
  refine Ev.bind mr ?_
  dsimp only
  refine Ev.bind hr' ?_
  simp only [show ¬ ((1 : Int) + r1.length < 0) from by omega, if_false, if_true]
  refine Ev.bind tx ?_
  refine Ev.bind hi ?_
  dsimp only
  refine Ev.bind er ?_
  simp only [if_true]
  refine Ev.bind hr' ?_
  simp only [show ¬ ((1 : Int) + r1.length < 0) from by omega, if_false]
  exact ev_const rfl

end Go.Proofs.YtcpdeenhjodmfaaDoor.Pure
