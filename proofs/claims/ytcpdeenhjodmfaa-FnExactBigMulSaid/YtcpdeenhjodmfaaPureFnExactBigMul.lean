/- The plain law behind FnExactBigMulSaid: the pure functions that the program's Go functions come to answer as the statement says, for every input that the row lets in. -/
import Derived.Test.YtcpdeenhjodmfaaQBigMulO
namespace Go.Proofs.Ytcpdeenhjodmfaa.Pure
open Go.RowKit Go.Proofs.Ytcpdeenhjodmfaa.QBigMul Go.Proofs.YtcpdeenhjodmfaaW.PrintWords Go.Proofs.YtcpdeenhjodmfaaW.PrintLast Go.Proofs.YtcpdeenhjodmfaaW.PrintMore
set_option linter.unusedVariables false
set_option linter.unusedSimpArgs false
/-! ### rounds, and lists by index -/
theorem ev_const {α : Type} {a : Option α} {r : α} (h : a = some r) : Ev (fun _ => a) r := ⟨0, fun _ _ => h⟩
theorem ev_bindc {α β : Type} {g : Nat → Option α} {f : α → Option β} {a : α} {r : β} (h : Ev g a) (k : f a = some r) : Ev (fun n => (g n).bind f) r :=
  Ev.bind (f := fun _ => f) h (ev_const k)
theorem ev_cbind {α β : Type} {g : Option α} {f : Nat → α → Option β} {a : α} {r : β} (h : g = some a) (k : Ev (fun n => f n a) r) : Ev (fun n => g.bind (f n)) r :=
  Ev.bind (g := fun _ => g) (ev_const h) k
theorem rd_nat (xs : List Int) (i : Nat) : rd xs (i : Int) = xs.getD i 0 := by simp [rd]
theorem rd_at (pre rest : List Int) (r : Int) : rd (pre ++ r :: rest) ((pre.length : Nat) : Int) = r := by simp [rd]
theorem rdb_at (pre rest : List Bool) (r : Bool) : rdOf false (pre ++ r :: rest) ((pre.length : Nat) : Int) = r := by simp [rdOf]
theorem set_at {α : Type} (pre rest : List α) (r v : α) : (pre ++ r :: rest).set (((pre.length : Nat) : Int)).toNat v = (pre ++ [v]) ++ rest := by simp
theorem w64 {x : Int} (h0 : -9223372036854775808 ≤ x) (h1 : x ≤ 9223372036854775807) : wrap64 x = x := by unfold wrap64; omega
theorem len_snoc {α : Type} (pre : List α) (v : α) : (((pre ++ [v]).length : Nat) : Int) = ((pre.length : Nat) : Int) + 1 := by simp
def marks {α : Type} (M : Int → α) : Int → Nat → List α
  | _, 0 => []
  | k, n + 1 => M k :: marks M (k + 1) n
theorem marks_length {α : Type} (M : Int → α) : ∀ (n : Nat) (k : Int), (marks M k n).length = n
  | 0, _ => rfl
  | n + 1, k => by simp [marks, marks_length M n]

/-! ### digits to a base -/
def dv (B : Int) : List Int → Int
  | [] => 0
  | d :: ds => d + B * dv B ds
def Dg (B : Int) (l : List Int) : Prop := ∀ d ∈ l, 0 ≤ d ∧ d < B
def Cn (l : List Int) : Prop := l = [] ∨ l.getD (l.length - 1) 0 ≠ 0
theorem dv_append (B : Int) (xs ys : List Int) : dv B (xs ++ ys) = dv B xs + B ^ xs.length * dv B ys := by
  induction xs with
  | nil => simp [dv]
  | cons d ds ih => simp only [List.cons_append, dv, ih, List.length_cons]; grind
theorem dv_nonneg {B : Int} (hB : 0 < B) : ∀ {l : List Int}, Dg B l → 0 ≤ dv B l
  | [], _ => by simp [dv]
  | d :: ds, h => by
    have h1 := h d (by simp)
    have h2 := dv_nonneg hB (l := ds) (fun x hx => h x (by simp [hx]))
    have h3 : 0 ≤ B * dv B ds := Int.mul_nonneg (by omega) h2
    simp only [dv]
    omega
theorem dv_lt {B : Int} (hB : 0 < B) : ∀ {l : List Int}, Dg B l → dv B l < B ^ l.length
  | [], _ => by simp [dv]
  | d :: ds, h => by
    have h1 := h d (by simp)
    have h2 := dv_lt hB (l := ds) (fun x hx => h x (by simp [hx]))
    have h3 : B * (dv B ds + 1) ≤ B * B ^ ds.length := Int.mul_le_mul_of_nonneg_left (by omega) (by omega)
    simp only [dv, List.length_cons, Int.pow_succ]
    rw [Int.mul_add, Int.mul_one] at h3
    rw [Int.mul_comm (B ^ ds.length) B]
    omega
theorem dv_set (B : Int) : ∀ (l : List Int) (p : Nat) (v : Int), p < l.length → dv B (l.set p v) = dv B l + B ^ p * (v - l.getD p 0)
  | [], _, _, h => by simp at h
  | d :: ds, 0, v, _ => by simp [dv]; omega
  | d :: ds, p + 1, v, h => by
    have := dv_set B ds p v (by simpa using h)
    simp only [List.set_cons_succ, dv, this, List.getD_cons_succ]
    grind
theorem take_succ_getD (l : List Int) (p : Nat) (h : p < l.length) : l.take (p + 1) = l.take p ++ [l.getD p 0] := by
  rw [List.take_succ_eq_append_getElem h]
  simp [List.getD_eq_getElem?_getD, h]
theorem dv_take_succ (B : Int) (l : List Int) (p : Nat) (h : p < l.length) : dv B (l.take (p + 1)) = dv B (l.take p) + B ^ p * l.getD p 0 := by
  rw [take_succ_getD l p h, dv_append, List.length_take, Nat.min_eq_left (Nat.le_of_lt h)]
  simp [dv]
theorem dv_zeros (B : Int) : ∀ n : Nat, dv B (List.replicate n 0) = 0
  | 0 => rfl
  | n + 1 => by simp [List.replicate_succ, dv, dv_zeros B n]
theorem Dg.set {B : Int} {l : List Int} (h : Dg B l) {p : Nat} {v : Int} (h0 : 0 ≤ v) (h1 : v < B) : Dg B (l.set p v) := by
  intro d hd
  rcases List.mem_or_eq_of_mem_set hd with hd | rfl
  · exact h d hd
  · exact ⟨h0, h1⟩
theorem Dg.take {B : Int} {l : List Int} (h : Dg B l) (n : Nat) : Dg B (l.take n) := fun d hd => h d (List.mem_of_mem_take hd)
theorem Dg.zeros {B : Int} (hB : 0 < B) (n : Nat) : Dg B (List.replicate n 0) := fun d hd => by rw [List.eq_of_mem_replicate hd]; omega
theorem Dg.append {B : Int} {xs ys : List Int} (h : Dg B xs) (k : Dg B ys) : Dg B (xs ++ ys) := fun d hd => (List.mem_append.1 hd).elim (h d) (k d)
theorem Dg.get {B : Int} {l : List Int} (h : Dg B l) (hB : 0 < B) (p : Nat) : 0 ≤ l.getD p 0 ∧ l.getD p 0 < B := by
  rcases Nat.lt_or_ge p l.length with hp | hp
  · have : l.getD p 0 = l[p] := by simp [List.getD_eq_getElem?_getD, hp]
    rw [this]
    exact h _ (List.getElem_mem hp)
  · have : l.getD p 0 = 0 := by simp [List.getD_eq_getElem?_getD, hp]
    rw [this]
    omega
theorem dv_inj {B : Int} (hB : 0 < B) : ∀ {x y : List Int}, Dg B x → Dg B y → x.length = y.length → dv B x = dv B y → x = y
  | [], [], _, _, _, _ => rfl
  | [], _ :: _, _, _, h, _ => by simp at h
  | _ :: _, [], _, _, h, _ => by simp at h
  | a :: x, b :: y, hx, hy, hl, hv => by
    have h1 := hx a (by simp)
    have h2 := hy b (by simp)
    simp only [dv] at hv
    have hab : a = b := by
      have e1 : (a + B * dv B x) % B = a := by rw [Int.add_mul_emod_self_left]; exact Int.emod_eq_of_lt h1.1 h1.2
      have e2 : (b + B * dv B y) % B = b := by rw [Int.add_mul_emod_self_left]; exact Int.emod_eq_of_lt h2.1 h2.2
      rw [← e1, ← e2, hv]
    subst hab
    have hd : dv B x = dv B y := by
      have : B * dv B x = B * dv B y := by omega
      exact Int.eq_of_mul_eq_mul_left (by omega) this
    rw [dv_inj hB (fun d hd => hx d (by simp [hd])) (fun d hd => hy d (by simp [hd])) (by simpa using hl) hd]
theorem one_le_ipow {B : Int} (hB : 1 ≤ B) : ∀ d : Nat, 1 ≤ B ^ d
  | 0 => by simp
  | d + 1 => by
    have h1 := one_le_ipow hB d
    have h2 : B ^ d * 1 ≤ B ^ d * B := Int.mul_le_mul_of_nonneg_left hB (by omega)
    rw [Int.pow_succ]
    omega
theorem ipow_le {B : Int} (hB : 1 ≤ B) {m n : Nat} (h : m ≤ n) : B ^ m ≤ B ^ n := by
  obtain ⟨d, rfl⟩ : ∃ d, n = m + d := ⟨n - m, by omega⟩
  have h1 := one_le_ipow hB d
  have h0 := one_le_ipow hB m
  have h2 : B ^ m * 1 ≤ B ^ m * B ^ d := Int.mul_le_mul_of_nonneg_left h1 (by omega)
  rw [Int.pow_add]
  omega
theorem cn_low {B : Int} (hB : 0 < B) {l : List Int} (h : Dg B l) (hc : Cn l) (h0 : l ≠ []) : B ^ (l.length - 1) ≤ dv B l := by
  have hl : 0 < l.length := List.length_pos_iff.2 h0
  have ht : l.take (l.length - 1 + 1) = l := by rw [Nat.sub_add_cancel hl]; exact List.take_length
  have h1 := dv_take_succ B l (l.length - 1) (by omega)
  rw [ht] at h1
  have h2 := dv_nonneg hB (h.take (l.length - 1))
  have h3 := h.get hB (l.length - 1)
  have h4 : l.getD (l.length - 1) 0 ≠ 0 := hc.resolve_left h0
  have h5 : B ^ (l.length - 1) * 1 ≤ B ^ (l.length - 1) * l.getD (l.length - 1) 0 := Int.mul_le_mul_of_nonneg_left (by omega) (Int.le_of_lt (Int.pow_pos hB))
  rw [Int.mul_one] at h5
  omega
theorem cn_len {B : Int} (hB : 1 < B) {x y : List Int} (hx : Dg B x) (hy : Dg B y) (hcy : Cn y) (hv : dv B x = dv B y) : y.length ≤ x.length := by
  rcases Nat.lt_or_ge x.length y.length with h | h
  · have hy0 : y ≠ [] := by rintro rfl; simp at h
    have h1 := dv_lt (by omega) hx
    have h2 := cn_low (by omega) hy hcy hy0
    have h3 : B ^ x.length ≤ B ^ (y.length - 1) := ipow_le (by omega) (by omega)
    omega
  · exact h
theorem cn_uniq {B : Int} (hB : 1 < B) {x y : List Int} (hx : Dg B x) (hy : Dg B y) (hcx : Cn x) (hcy : Cn y) (hv : dv B x = dv B y) : x = y :=
  dv_inj (by omega) hx hy (Nat.le_antisymm (cn_len hB hy hx hcx hv.symm) (cn_len hB hx hy hcy hv)) hv
theorem rd_nat_add (xs : List Int) (i j : Nat) : rd xs ((i : Int) + (j : Int)) = xs.getD (i + j) 0 := by rw [← rd_nat]; simp

/-! ### the reference's product -/
structure Norm (l t : List Int) : Prop where
  val : ∀ B, dv B t = dv B l
  top : Cn t
  mem : ∀ d ∈ t, d ∈ l
  len : t.length ≤ l.length
theorem Norm.dg {B : Int} {l t : List Int} (h : Norm l t) (hd : Dg B l) : Dg B t := fun d hh => hd d (h.mem d hh)
theorem w64n {n : Nat} (h : n ≤ 9223372036854775807) : wrap64 (n : Int) = n := w64 (by omega) (by omega)
theorem getD_set_eq (l : List Int) (p : Nat) (v : Int) (h : p < l.length) : (l.set p v).getD p 0 = v := by simp [List.getD_eq_getElem?_getD, h]
theorem getD_set_ne (l : List Int) (p q : Nat) (v : Int) (h : p ≠ q) : (l.set p v).getD q 0 = l.getD q 0 := by simp [List.getD_eq_getElem?_getD, List.getElem?_set, h]
theorem mul_bound16 {x y : Int} (hx : 0 ≤ x) (hx1 : x < 65536) (hy : 0 ≤ y) (hy1 : y < 65536) : 0 ≤ x * y ∧ x * y ≤ 4294836225 := by
  refine ⟨Int.mul_nonneg hx hy, ?_⟩
  have h : x * y ≤ 65535 * 65535 := Int.mul_le_mul (by omega) (by omega) hy (by omega)
  simpa using h
theorem mul_bound32 {x y : Int} (hx : 0 ≤ x) (hx1 : x < 4294967296) (hy : 0 ≤ y) (hy1 : y < 4294967296) : 0 ≤ x * y ∧ x * y ≤ 18446744065119617025 := by
  refine ⟨Int.mul_nonneg hx hy, ?_⟩
  have h : x * y ≤ 4294967295 * 4294967295 := Int.mul_le_mul (by omega) (by omega) hy (by omega)
  simpa using h
theorem l1trim_l0 (l : List Int) (hl : l.length ≤ 4611686018427387904) : ∀ n : Nat, n ≤ l.length →
    ∃ m, m ≤ n ∧ Ev (fun k => spec_l1trim.l0 k l (n : Int)) (l.take m) ∧ (∀ B, dv B (l.take m) = dv B (l.take n)) ∧ Cn (l.take m)
  | 0, _ => ⟨0, Nat.le_refl _, ⟨1, fun k hk => by
      obtain ⟨k, rfl⟩ : ∃ m, k = m + 1 := ⟨k - 1, by omega⟩
      simp only [spec_l1trim.l0]
      rw [if_neg (by omega), if_pos (by omega), if_pos (by omega)]
      rfl⟩, fun _ => rfl, Or.inl (by simp)⟩
  | n + 1, hn => by
    have hw : wrap64 (((n + 1 : Nat) : Int) - 1) = (n : Int) := by rw [w64 (by omega) (by omega)]; omega
    by_cases h0 : l.getD n 0 = 0
    · obtain ⟨m, hm, hev, hv, hc⟩ := l1trim_l0 l hl n (by omega)
      refine ⟨m, by omega, Ev.step (fun k => ?_) hev, fun B => ?_, hc⟩
      · simp only [spec_l1trim.l0]
        rw [hw, if_pos (by omega), if_pos (by omega), if_pos (by omega), rd_nat, if_pos h0]
      · rw [hv B, dv_take_succ B l n (by omega), h0]
        omega
    · refine ⟨n + 1, Nat.le_refl _, ⟨1, fun k hk => ?_⟩, fun _ => rfl, Or.inr ?_⟩
      · obtain ⟨k, rfl⟩ : ∃ m, k = m + 1 := ⟨k - 1, by omega⟩
        simp only [spec_l1trim.l0]
        rw [hw, if_pos (by omega), if_pos (by omega), if_pos (by omega), rd_nat, if_neg h0, if_pos (by omega), if_pos (by omega), Int.toNat_natCast]
      · rw [List.length_take, Nat.min_eq_left hn]
        simpa [List.getD_eq_getElem?_getD, List.getElem?_take] using h0
theorem l1trim_ev (l : List Int) (hl : l.length ≤ 4611686018427387904) : ∃ t, Norm l t ∧ Ev (fun k => spec_l1trim.f k l) t := by
  obtain ⟨m, hm, hev, hv, hc⟩ := l1trim_l0 l hl l.length (Nat.le_refl _)
  exact ⟨_, ⟨fun B => by rw [hv B, List.take_length], hc, fun d hd => List.mem_of_mem_take hd, by simp; omega⟩, hev⟩
theorem l1make_ev (a : Bool) (l : List Int) (hl : l.length ≤ 4611686018427387904) : ∃ t, Norm l t ∧ Ev (fun k => spec_l1make.f k a l) (a && decide (0 < t.length), t) := by
  obtain ⟨t, ht, hev⟩ := l1trim_ev l hl
  refine ⟨t, ht, ev_bindc hev ?_⟩
  cases a <;> simp
theorem spec_step {o c P v : Int} (ho : 0 ≤ o ∧ o < 65536) (hc0 : 0 ≤ c) (hc1 : c < 65536) (hP : 0 ≤ P ∧ P ≤ 4294836225) (hv : o + c + P = v) :
    wrap64 (o + c) = o + c ∧ wrap64 P = P ∧ wrap64 v = v ∧ wrap64 (v / 65536) = v / 65536 ∧ 0 ≤ v ∧ v < 4294967296 := by
  refine ⟨w64 (by omega) (by omega), w64 (by omega) (by omega), w64 (by omega) (by omega), w64 (by omega) (by omega), by omega, by omega⟩
theorem specmul_in (a b : Bool) (x y : List Int) (hx : Dg 65536 x) (hy : Dg 65536 y) (hlx : x.length ≤ 4096) (hly : y.length ≤ 4096) (i : Nat) (hi : i < x.length) :
    ∀ (d : Nat) (out : List Int) (c : Int) (j : Nat), j + d = y.length → out.length = x.length + y.length + 1 → Dg 65536 out → 0 ≤ c → c < 65536 → (∀ p, i + y.length ≤ p → out.getD p 0 = 0) →
    ∃ out', out'.length = out.length ∧ Dg 65536 out' ∧ (∀ p, i + 1 + y.length ≤ p → out'.getD p 0 = 0) ∧
      dv 65536 out' = dv 65536 out + c * 65536 ^ (i + j) + 65536 ^ i * x.getD i 0 * (dv 65536 y - dv 65536 (y.take j)) ∧
      ∀ r, Ev (fun k => spec_l1mul.l0 k out' ((i : Int) + 1) a x b y) r → Ev (fun k => spec_l1mul.l1 k out (i : Int) c (j : Int) a x b y) r := by
  intro d
  induction d with
  | zero =>
    intro out c j hj hlen hdg hc0 hc1 hz
    obtain rfl : j = y.length := by omega
    rw [List.take_length]
    have hdone : ∀ (o : List Int) (jj : Nat), y.length ≤ jj → jj ≤ 8192 → ∀ r, Ev (fun k => spec_l1mul.l0 k o ((i : Int) + 1) a x b y) r → Ev (fun k => spec_l1mul.l1 k o (i : Int) 0 (jj : Int) a x b y) r := by
      intro o jj hjj hjj2 r hr
      refine Ev.step (f := fun k => spec_l1mul.j2 k o (i : Int) 0 (jj : Int) false a x b y) (fun k => ?_) (Ev.step (fun k => ?_) hr)
      · simp only [spec_l1mul.l1]
        rw [if_neg (by omega)]
        rfl
      · simp only [spec_l1mul.j2]
        rw [if_neg (by simp), w64 (by omega) (by omega)]
    by_cases h0 : c = 0
    · subst h0
      exact ⟨out, rfl, hdg, fun p hp => hz p (by omega), by grind, hdone out y.length (Nat.le_refl _) (by omega)⟩
    · have hcell : out.getD (i + y.length) 0 = 0 := hz _ (Nat.le_refl _)
      refine ⟨out.set (i + y.length) c, by simp, hdg.set hc0 hc1, fun p hp => ?_, ?_, fun r hr => ?_⟩
      · rw [getD_set_ne _ _ _ _ (by omega)]
        exact hz p (by omega)
      · rw [dv_set _ _ _ _ (by omega), hcell]
        grind
      · have h1 := hdone (out.set (i + y.length) c) (y.length + 1) (by omega) (by omega) r hr
        refine Ev.step (f := fun k => spec_l1mul.j2 k out (i : Int) c (y.length : Int) true a x b y) (fun k => ?_) (Ev.step (fun k => ?_) h1)
        · simp only [spec_l1mul.l1]
          rw [if_neg (by omega), decide_eq_true (show c > 0 by omega)]
        · have hp : wrap64 ((i : Int) + (y.length : Int)) = ((i + y.length : Nat) : Int) := by rw [w64 (by omega) (by omega)]; omega
          simp only [spec_l1mul.j2]
          rw [if_pos trivial, hp, if_pos (by omega), if_pos (by omega), if_neg (by omega), rd_nat, hcell, Int.zero_add, w64 (x := c) (by omega) (by omega), Int.toNat_natCast,
            Int.tmod_eq_emod_of_nonneg hc0, Int.tdiv_eq_ediv_of_nonneg hc0, Int.emod_eq_of_lt hc0 hc1, Int.ediv_eq_zero_of_lt hc0 hc1, w64 (x := 0) (by omega) (by omega), w64 (x := (y.length : Int) + 1) (by omega) (by omega)]
          rfl
  | succ d ih =>
    intro out c j hj hlen hdg hc0 hc1 hz
    have p1 : (0 : Int) ≤ ((i + j : Nat) : Int) := by omega
    have p2 : ((i + j : Nat) : Int) < (out.length : Int) := by omega
    have p3 : (j : Int) < (y.length : Int) := by omega
    have p4 : (0 : Int) ≤ (i : Int) := by omega
    have p5 : (i : Int) < (x.length : Int) := by omega
    have p6 : (0 : Int) ≤ (j : Int) := by omega
    have p7 : wrap64 ((j : Int) + 1) = (j : Int) + 1 := w64 (by omega) (by omega)
    have hp : wrap64 ((i : Int) + (j : Int)) = ((i + j : Nat) : Int) := by rw [w64 (by omega) (by omega)]; omega
    have hyj := hy.get (by omega) j
    have hxi := hx.get (by omega) i
    have ho := hdg.get (by omega) (i + j)
    have hb := mul_bound16 hxi.1 hxi.2 hyj.1 hyj.2
    generalize hv : out.getD (i + j) 0 + c + x.getD i 0 * y.getD j 0 = v
    obtain ⟨q1, q2, q3, q4, hv0, hv1⟩ := spec_step ho hc0 hc1 hb hv
    obtain ⟨out', hl', hd', hz', hval, hev⟩ := ih (out.set (i + j) (v % 65536)) (v / 65536) (j + 1) (by omega) (by simpa using hlen) (hdg.set (by omega) (by omega)) (by omega) (by omega)
      (fun p hp => by rw [getD_set_ne _ _ _ _ (by omega)]; exact hz p hp)
    refine ⟨out', by simpa using hl', hd', hz', ?_, fun r hr => ?_⟩
    · rw [hval, dv_set _ _ _ _ (by omega), dv_take_succ _ _ _ (by omega)]
      have hdm : v = 65536 * (v / 65536) + v % 65536 := by omega
      have e1 : (65536 : Int) ^ (i + (j + 1)) = 65536 ^ (i + j) * 65536 := by rw [← Nat.add_assoc, Int.pow_succ]
      have e2 : (65536 : Int) ^ (i + j) = 65536 ^ i * 65536 ^ j := Int.pow_add _ _ _
      rw [e1]
      generalize v / 65536 = q at *
      generalize v % 65536 = m at *
      subst hdm
      grind
    · have h1 := hev r hr
      clear hval hev hz' ih hz
      refine Ev.step (f := fun k => spec_l1mul.j2 k out (i : Int) c (j : Int) true a x b y) (fun k => ?_) (Ev.step (fun k => ?_) h1)
      · simp only [spec_l1mul.l1]
        rw [if_pos p3]
      · simp only [spec_l1mul.j2]
        rw [if_pos trivial, hp, if_pos p1, if_pos p2, if_pos p3, if_pos p4, if_pos p5, if_pos p6, rd_nat, rd_nat, rd_nat,
          q1, q2, hv, q3, Int.toNat_natCast, Int.tmod_eq_emod_of_nonneg hv0, Int.tdiv_eq_ediv_of_nonneg hv0, q4, p7]
        rfl
theorem specmul_out (a b : Bool) (x y : List Int) (hx : Dg 65536 x) (hy : Dg 65536 y) (hlx : x.length ≤ 4096) (hly : y.length ≤ 4096) :
    ∀ (d : Nat) (out : List Int) (i : Nat), i + d = x.length → out.length = x.length + y.length + 1 → Dg 65536 out → (∀ p, i + y.length ≤ p → out.getD p 0 = 0) → dv 65536 out = dv 65536 (x.take i) * dv 65536 y →
    ∃ t, Cn t ∧ Dg 65536 t ∧ dv 65536 t = dv 65536 x * dv 65536 y ∧ t.length ≤ x.length + y.length + 1 ∧ Ev (fun k => spec_l1mul.l0 k out (i : Int) a x b y) ((!(a == b)) && decide (0 < t.length), t) := by
  intro d
  induction d with
  | zero =>
    intro out i hi hlen hdg hz hval
    obtain rfl : i = x.length := by omega
    rw [List.take_length] at hval
    obtain ⟨t, ht, hev⟩ := l1make_ev (!(a == b)) out (by omega)
    refine ⟨t, ht.top, ht.dg hdg, by rw [ht.val, hval], by have := ht.len; omega, Ev.step (fun k => ?_) (ev_bindc hev rfl)⟩
    simp only [spec_l1mul.l0]
    rw [if_neg (by omega)]
  | succ d ih =>
    intro out i hi hlen hdg hz hval
    obtain ⟨out', hl', hd', hz', hv', hev⟩ := specmul_in a b x y hx hy hlx hly i (by omega) y.length out 0 0 (by omega) hlen hdg (by omega) (by omega) hz
    obtain ⟨t, h1, h2, h3, h4, h5⟩ := ih out' (i + 1) (by omega) (by omega) hd' (fun p hp => hz' p (by omega)) (by
      rw [hv', hval, dv_take_succ _ _ _ (by omega)]
      simp [dv]
      grind)
    refine ⟨t, h1, h2, h3, h4, Ev.step (fun k => ?_) (hev _ (by simpa using h5))⟩
    simp only [spec_l1mul.l0]
    rw [if_pos (by omega)]
    rfl
theorem specmul_ev (a b : Bool) (x y : List Int) (hx : Dg 65536 x) (hy : Dg 65536 y) (hlx : x.length ≤ 4096) (hly : y.length ≤ 4096) :
    ∃ t, Cn t ∧ Dg 65536 t ∧ dv 65536 t = dv 65536 x * dv 65536 y ∧ t.length ≤ x.length + y.length + 1 ∧ Ev (fun k => spec_l1mul.f k a x b y) ((!(a == b)) && decide (0 < t.length), t) := by
  obtain ⟨t, h1, h2, h3, h4, h5⟩ := specmul_out a b x y hx hy hlx hly x.length (List.replicate (x.length + y.length + 1) 0) 0 (by omega) (by simp) (Dg.zeros (by omega) _)
    (fun p hp => by simp [List.getD_eq_getElem?_getD, List.getElem?_replicate]; split <;> rfl) (by simp [dv_zeros, dv])
  refine ⟨t, h1, h2, h3, h4, Ev.congr (fun k => ?_) h5⟩
  simp only [spec_l1mul.f]
  have e : wrap64 (wrap64 ((x.length : Int) + (y.length : Int)) + 1) = ((x.length + y.length + 1 : Nat) : Int) := by
    rw [w64 (x := (x.length : Int) + (y.length : Int)) (by omega) (by omega), w64 (by omega) (by omega)]; omega
  rw [e, if_pos (by omega), if_pos (by rw [Int.toNat_natCast]; omega), Int.toNat_natCast]
  rfl

theorem limbstrim_ev : ∀ (n : Nat) (l : List Int), l.length = n → n ≤ 4611686018427387904 → ∃ t, Norm l t ∧ (∃ m, m ≤ n ∧ t = l.take m) ∧ Ev (fun k => impl_limbs_trim.l0 k l) t
  | 0, l, hl, _ => by
    obtain rfl : l = [] := List.eq_nil_of_length_eq_zero hl
    exact ⟨[], ⟨fun _ => rfl, Or.inl rfl, fun d hd => hd, Nat.le_refl _⟩, ⟨0, Nat.le_refl _, rfl⟩, ⟨1, fun k hk => by
      obtain ⟨k, rfl⟩ : ∃ m, k = m + 1 := ⟨k - 1, by omega⟩
      simp only [impl_limbs_trim.l0]
      rw [if_neg (by simp)]⟩⟩
  | n + 1, l, hl, hb => by
    have hw : wrap64 ((l.length : Int) - 1) = (n : Int) := by rw [w64 (by omega) (by omega)]; omega
    by_cases h0 : l.getD n 0 = 0
    · obtain ⟨t, ht, ⟨m, hm, he⟩, hev⟩ := limbstrim_ev n (l.take n) (by simp; omega) (by omega)
      refine ⟨t, ⟨fun B => ?_, ht.top, fun d hd => List.mem_of_mem_take (ht.mem d hd), by have := ht.len; simp at this; omega⟩, ⟨m, by omega, by rw [he, List.take_take, Nat.min_eq_left hm]⟩, Ev.step (fun k => ?_) hev⟩
      · rw [ht.val B]
        have h1 := dv_take_succ B l n (by omega)
        rw [← hl, List.take_length, h0] at h1
        omega
      · simp only [impl_limbs_trim.l0]
        rw [if_pos (by omega), hw, if_pos (by omega), if_pos (by omega), rd_nat, if_pos h0, if_pos (by omega), Int.toNat_natCast]
    · refine ⟨l, ⟨fun _ => rfl, Or.inr (by rw [hl]; exact h0), fun d hd => hd, Nat.le_refl _⟩, ⟨n + 1, Nat.le_refl _, by rw [← hl, List.take_length]⟩, ⟨1, fun k hk => ?_⟩⟩
      obtain ⟨k, rfl⟩ : ∃ m, k = m + 1 := ⟨k - 1, by omega⟩
      simp only [impl_limbs_trim.l0]
      rw [if_pos (by omega), hw, if_pos (by omega), if_pos (by omega), rd_nat, if_neg h0]
theorem limbstrim_f (l : List Int) (hl : l.length ≤ 4611686018427387904) : ∃ t, Norm l t ∧ Ev (fun k => impl_limbs_trim.f k l) t := by
  obtain ⟨t, ht, _, hev⟩ := limbstrim_ev l.length l rfl hl
  exact ⟨t, ht, Ev.congr (fun _ => rfl) hev⟩

/-! ### the program's product -/
theorem u64w {x : Int} (h0 : 0 ≤ x) (h1 : x < 18446744073709551616) : IntKind.u64.wrap x = x := by
  have : IntKind.u64.wrap x = x % 18446744073709551616 := by simp [IntKind.wrap, IntKind.bits, IntKind.signed]
  rw [this]
  exact Int.emod_eq_of_lt h0 h1
theorem impl_step {o c a b v : Int} (ho : 0 ≤ o ∧ o < 4294967296) (hc0 : 0 ≤ c) (hc1 : c < 4294967296) (ha : 0 ≤ a ∧ a < 4294967296) (hb : 0 ≤ b ∧ b < 4294967296) (hv : o + c + a * b = v) :
    IntKind.u64.wrap (c + IntKind.u64.wrap (IntKind.u64.wrap (IntKind.u64.wrap a * IntKind.u64.wrap b) + IntKind.u64.wrap o)) = v ∧ 0 ≤ v ∧ v / 4294967296 < 4294967296 ∧ 0 ≤ v / 4294967296 := by
  have hP := mul_bound32 ha.1 ha.2 hb.1 hb.2
  rw [u64w (x := a) (by omega) (by omega), u64w (x := b) (by omega) (by omega), u64w (x := o) (by omega) (by omega)]
  generalize a * b = P at *
  rw [u64w (x := P) (by omega) (by omega), u64w (x := P + o) (by omega) (by omega), u64w (x := c + (P + o)) (by omega) (by omega)]
  refine ⟨by omega, by omega, by omega, by omega⟩
theorem implmul_in (x y : List Int) (hx : Dg 4294967296 x) (hy : Dg 4294967296 y) (hlx : x.length ≤ 4096) (hly : y.length ≤ 4096) (i : Nat) (hi : i < x.length) :
    ∀ (d : Nat) (out : List Int) (c : Int) (j : Nat), j + d = y.length → out.length = x.length + y.length → Dg 4294967296 out → 0 ≤ c → c < 4294967296 → (∀ p, i + y.length ≤ p → out.getD p 0 = 0) →
    ∃ out', out'.length = out.length ∧ Dg 4294967296 out' ∧ (∀ p, i + 1 + y.length ≤ p → out'.getD p 0 = 0) ∧
      dv 4294967296 out' = dv 4294967296 out + c * 4294967296 ^ (i + j) + 4294967296 ^ i * x.getD i 0 * (dv 4294967296 y - dv 4294967296 (y.take j)) ∧
      ∀ r, Ev (fun k => impl_limbs_mul.l0 k y out' x (x.length : Int) ((i : Int) + 1)) r → Ev (fun k => impl_limbs_mul.l1 k y out (i : Int) (x.getD i 0) c x (x.length : Int) (i : Int) y (y.length : Int) (j : Int)) r := by
  intro d
  induction d with
  | zero =>
    intro out c j hj hlen hdg hc0 hc1 hz
    obtain rfl : j = y.length := by omega
    rw [List.take_length]
    have hcell : out.getD (i + y.length) 0 = 0 := hz _ (Nat.le_refl _)
    have p1 : ¬ (y.length : Int) < (y.length : Int) := by omega
    have hp : wrap64 ((i : Int) + (y.length : Int)) = ((i + y.length : Nat) : Int) := by rw [w64 (by omega) (by omega)]; omega
    have p2 : (0 : Int) ≤ ((i + y.length : Nat) : Int) := by omega
    have p3 : ((i + y.length : Nat) : Int) < (out.length : Int) := by omega
    have p4 : wrap64 ((i : Int) + 1) = (i : Int) + 1 := w64 (by omega) (by omega)
    refine ⟨out.set (i + y.length) c, by simp, hdg.set hc0 hc1, fun p hp => ?_, ?_, fun r hr => Ev.step (fun k => ?_) hr⟩
    · rw [getD_set_ne _ _ _ _ (by omega)]
      exact hz p (by omega)
    · rw [dv_set _ _ _ _ (by omega), hcell]
      grind
    · simp only [impl_limbs_mul.l1]
      rw [if_neg p1, hp, if_pos p2, if_pos p3, Int.toNat_natCast, Int.emod_eq_of_lt hc0 hc1, p4]
  | succ d ih =>
    intro out c j hj hlen hdg hc0 hc1 hz
    have p1 : (0 : Int) ≤ ((i + j : Nat) : Int) := by omega
    have p2 : ((i + j : Nat) : Int) < (out.length : Int) := by omega
    have p3 : (j : Int) < (y.length : Int) := by omega
    have p6 : (0 : Int) ≤ (j : Int) := by omega
    have p7 : wrap64 ((j : Int) + 1) = ((j + 1 : Nat) : Int) := by rw [w64 (by omega) (by omega)]; omega
    have hp : wrap64 ((i : Int) + (j : Int)) = ((i + j : Nat) : Int) := by rw [w64 (by omega) (by omega)]; omega
    have hyj := hy.get (by omega) j
    have hxi := hx.get (by omega) i
    have ho := hdg.get (by omega) (i + j)
    generalize hv : out.getD (i + j) 0 + c + x.getD i 0 * y.getD j 0 = v
    obtain ⟨q1, hv0, hq1, hq0⟩ := impl_step ho hc0 hc1 hxi hyj hv
    obtain ⟨out', hl', hd', hz', hval, hev⟩ := ih (out.set (i + j) (v % 4294967296)) (v / 4294967296) (j + 1) (by omega) (by simpa using hlen) (hdg.set (Int.emod_nonneg _ (by omega)) (Int.emod_lt_of_pos _ (by omega))) hq0 hq1
      (fun p hp => by rw [getD_set_ne _ _ _ _ (by omega)]; exact hz p hp)
    refine ⟨out', by simpa using hl', hd', hz', ?_, fun r hr => Ev.step (fun k => ?_) (hev r hr)⟩
    · rw [hval, dv_set _ _ _ _ (by omega), dv_take_succ _ _ _ (by omega)]
      have hdm : 4294967296 * (v / 4294967296) + v % 4294967296 = v := Int.mul_ediv_add_emod v 4294967296
      have e1 : (4294967296 : Int) ^ (i + (j + 1)) = 4294967296 ^ (i + j) * 4294967296 := by rw [← Nat.add_assoc, Int.pow_succ]
      have e2 : (4294967296 : Int) ^ (i + j) = 4294967296 ^ i * 4294967296 ^ j := Int.pow_add _ _ _
      rw [e1]
      generalize v / 4294967296 = q at *
      generalize v % 4294967296 = m at *
      subst hdm
      clear q1 hv0 hq1 hq0 hval hev hz' ih hz hl' hd'
      generalize (4294967296 : Int) ^ (i + j) = Bij at *
      generalize (4294967296 : Int) ^ i = Bi at *
      generalize (4294967296 : Int) ^ j = Bj at *
      generalize dv 4294967296 out = D at *
      generalize dv 4294967296 y = Y at *
      generalize dv 4294967296 (List.take j y) = Yj at *
      generalize out.getD (i + j) 0 = o at *
      generalize x.getD i 0 = xi at *
      generalize y.getD j 0 = yj at *
      clear p1 p2 p3 p6 p7 hp ho hxi hyj hc0 hc1 hj hlen hdg hx hy hlx hly hi e1
      subst e2
      grind
    · simp only [impl_limbs_mul.l1]
      rw [if_pos p3, if_pos p6, if_pos p3, hp, if_pos p1, if_pos p2, rd_nat, rd_nat, q1, Int.toNat_natCast, p7]
theorem implmul_out (x y : List Int) (hx : Dg 4294967296 x) (hy : Dg 4294967296 y) (hlx : x.length ≤ 4096) (hly : y.length ≤ 4096) :
    ∀ (d : Nat) (out : List Int) (i : Nat), i + d = x.length → out.length = x.length + y.length → Dg 4294967296 out → (∀ p, i + y.length ≤ p → out.getD p 0 = 0) → dv 4294967296 out = dv 4294967296 (x.take i) * dv 4294967296 y →
    ∃ t, Cn t ∧ Dg 4294967296 t ∧ dv 4294967296 t = dv 4294967296 x * dv 4294967296 y ∧ Ev (fun k => impl_limbs_mul.l0 k y out x (x.length : Int) (i : Int)) t := by
  intro d
  induction d with
  | zero =>
    intro out i hi hlen hdg hz hval
    obtain rfl : i = x.length := by omega
    rw [List.take_length] at hval
    obtain ⟨t, ht, hev⟩ := limbstrim_f out (by omega)
    refine ⟨t, ht.top, ht.dg hdg, by rw [ht.val, hval], Ev.step (fun k => ?_) (ev_bindc hev rfl)⟩
    simp only [impl_limbs_mul.l0]
    rw [if_neg (by omega)]
  | succ d ih =>
    intro out i hi hlen hdg hz hval
    obtain ⟨out', hl', hd', hz', hv', hev⟩ := implmul_in x y hx hy hlx hly i (by omega) y.length out 0 0 (by omega) hlen hdg (by omega) (by omega) hz
    have p1 : (i : Int) < (x.length : Int) := by omega
    have p2 : (0 : Int) ≤ (i : Int) := by omega
    obtain ⟨t, h1, h2, h3, h5⟩ := ih out' (i + 1) (by omega) (by omega) hd' (fun p hp => hz' p (by omega)) (by
      rw [hv', hval, dv_take_succ _ _ _ (by omega)]
      simp only [List.take_zero, dv]
      clear hv' hval hev hz' hz ih
      grind)
    refine ⟨t, h1, h2, h3, Ev.step (fun k => ?_) (hev _ (by simpa using h5))⟩
    simp only [impl_limbs_mul.l0]
    rw [if_pos p1, if_pos p2, if_pos p1, rd_nat]
    rfl
theorem implmul_ev (x y : List Int) (hx : Dg 4294967296 x) (hy : Dg 4294967296 y) (hlx : x.length ≤ 4096) (hly : y.length ≤ 4096) :
    ∃ t, Cn t ∧ Dg 4294967296 t ∧ dv 4294967296 t = dv 4294967296 x * dv 4294967296 y ∧ Ev (fun k => impl_limbs_mul.f k x y) t := by
  obtain ⟨t, h1, h2, h3, h5⟩ := implmul_out x y hx hy hlx hly x.length (List.replicate (x.length + y.length) 0) 0 (by omega) (by simp) (Dg.zeros (by omega) _)
    (fun p hp => by simp [List.getD_eq_getElem?_getD, List.getElem?_replicate]; split <;> rfl) (by simp [dv_zeros, dv])
  refine ⟨t, h1, h2, h3, Ev.congr (fun k => ?_) h5⟩
  simp only [impl_limbs_mul.f]
  have e : wrap64 ((x.length : Int) + (y.length : Int)) = ((x.length + y.length : Nat) : Int) := by
    rw [w64 (by omega) (by omega)]; omega
  rw [e, if_pos (by omega), if_pos (by rw [Int.toNat_natCast]; omega), Int.toNat_natCast]
  rfl
theorem times_ev (a b : Bool) (x y : List Int) (hx : Dg 4294967296 x) (hy : Dg 4294967296 y) (hlx : x.length ≤ 4096) (hly : y.length ≤ 4096) :
    ∃ t, Cn t ∧ Dg 4294967296 t ∧ dv 4294967296 t = dv 4294967296 x * dv 4294967296 y ∧ Ev (fun k => impl_number_times.f k a x b y) ((!(a == b)) && decide (0 < t.length), t) := by
  obtain ⟨t, h1, h2, h3, hev⟩ := implmul_ev x y hx hy hlx hly
  refine ⟨t, h1, h2, h3, ev_bindc hev ?_⟩
  unfold impl_number_fixed.f
  cases (!(a == b)) <;> simp

theorem toUint32S_l0 : ∀ (rest junk pre : List Int), junk.length = rest.length → (pre ++ rest).length ≤ 4611686018427387904 → Ev (fun k => laws_toUint32S.l0 k (pre ++ rest) (pre ++ junk) ((pre.length : Nat) : Int)) (pre ++ rest)
  | [], junk, pre, hj, hl => by
    obtain rfl : junk = [] := List.eq_nil_of_length_eq_zero hj
    exact ⟨1, fun k hk => by obtain ⟨k, rfl⟩ : ∃ m, k = m + 1 := ⟨k - 1, by omega⟩; simp only [laws_toUint32S.l0]; rw [if_neg (by simp)]⟩
  | r :: rest, [], pre, hj, hl => by simp at hj
  | r :: rest, j :: junk, pre, hj, hl => by
    have hlen : (pre ++ r :: rest).length = pre.length + (rest.length + 1) := by simp
    have hlen2 : (pre ++ j :: junk).length = pre.length + (junk.length + 1) := by simp
    have h := toUint32S_l0 rest junk (pre ++ [r]) (by simpa using hj) (by simpa using hl)
    rw [len_snoc, List.append_assoc, List.singleton_append] at h
    refine Ev.step (fun k => ?_) h
    simp only [laws_toUint32S.l0]
    rw [if_pos (by rw [hlen]; omega), if_pos (by omega), if_pos (by rw [hlen2]; omega), set_at, rd_at, w64 (by omega) (by omega)]
theorem toUint32S_ev (l : List Int) (h : l.length ≤ 1048576) : Ev (fun k => laws_toUint32S.f k l) l := by
  have h1 := toUint32S_l0 l (List.replicate l.length 0) [] (by simp) (by simp; omega)
  refine Ev.congr (fun k => ?_) h1
  simp only [laws_toUint32S.f]
  rw [if_pos (by omega), if_pos (by simp; omega)]
  simp

theorem eqUint32S_l0 : ∀ (rest pre : List Int), (pre ++ rest).length ≤ 4611686018427387904 → Ev (fun k => laws_eqUint32S.l0 k (pre ++ rest) (pre ++ rest) ((pre.length : Nat) : Int)) true
  | [], pre, hl => ⟨1, fun k hk => by obtain ⟨k, rfl⟩ : ∃ m, k = m + 1 := ⟨k - 1, by omega⟩; simp only [laws_eqUint32S.l0]; rw [if_neg (by simp)]⟩
  | r :: rest, pre, hl => by
    have hlen : (pre ++ r :: rest).length = pre.length + (rest.length + 1) := by simp
    have h := eqUint32S_l0 rest (pre ++ [r]) (by simpa using hl)
    rw [len_snoc, List.append_assoc, List.singleton_append] at h
    refine Ev.step (fun k => ?_) h
    simp only [laws_eqUint32S.l0]
    rw [if_pos (by rw [hlen]; omega), if_pos (by omega), if_pos (by rw [hlen]; omega), if_pos trivial, w64 (by omega) (by omega)]
theorem eqUint32S_ev (l : List Int) (h : l.length ≤ 4611686018427387904) : Ev (fun k => laws_eqUint32S.f k l l) true := by
  have h1 := eqUint32S_l0 l [] (by simpa using h)
  refine Ev.congr (fun k => ?_) h1
  simp only [laws_eqUint32S.f]
  rw [if_pos trivial]
  rfl

theorem markUint32S_l0 : ∀ (rest pre : List Int) (z : Int), (pre ++ rest).length ≤ 4611686018427387904 → 0 ≤ z → z + rest.length ≤ 4611686018427387904 →
    Ev (fun k => laws_markUint32S.l0 k (pre ++ rest) z ((pre.length : Nat) : Int)) (z + rest.length, pre ++ marks (fun z => z % 4294967296) z rest.length)
  | [], pre, z, hl, h0, h1 => ⟨1, fun k hk => by obtain ⟨k, rfl⟩ : ∃ m, k = m + 1 := ⟨k - 1, by omega⟩; simp only [laws_markUint32S.l0]; rw [if_neg (by simp)]; simp [marks]⟩
  | r :: rest, pre, z, hl, h0, h1 => by
    have hlen : (pre ++ r :: rest).length = pre.length + (rest.length + 1) := by simp
    rw [List.length_cons] at h1
    have h := markUint32S_l0 rest (pre ++ [(fun z => z % 4294967296) z]) (z + 1) (by simpa using hl) (by omega) (by omega)
    rw [len_snoc, List.append_assoc pre [(fun z => z % 4294967296) z] rest, List.append_assoc pre [(fun z => z % 4294967296) z] (marks _ _ _), List.singleton_append, List.singleton_append, show z + 1 + (rest.length : Int) = z + ((r :: rest).length : Nat) from by rw [List.length_cons]; omega] at h
    refine Ev.step (fun k => ?_) h
    simp only [laws_markUint32S.l0]
    rw [if_pos (by rw [hlen]; omega), if_pos (by omega), set_at, w64 (by omega) (by omega), w64 (x := ((pre.length : Nat) : Int) + 1) (by omega) (by omega), List.append_assoc, List.singleton_append]
theorem markUint32S_ev (l : List Int) (z : Int) (h : l.length ≤ 4294967296) (h0 : 0 ≤ z) (h1 : z ≤ 4294967296) : Ev (fun k => laws_markUint32S.f k l z) (z + l.length, marks (fun z => z % 4294967296) z l.length) := by
  have h1 := markUint32S_l0 l [] z (by simp; omega) h0 (by omega)
  exact Ev.congr (fun k => rfl) h1

theorem heldUint32S_l0 : ∀ (n : Nat) (pre : List Int) (z : Int), pre.length + n ≤ 4611686018427387904 → 0 ≤ z → z + n ≤ 4611686018427387904 →
    Ev (fun k => laws_heldUint32S.l0 k (pre ++ marks (fun z => z % 4294967296) z n) z ((pre.length : Nat) : Int)) (z + n)
  | 0, pre, z, hl, h0, h1 => ⟨1, fun k hk => by obtain ⟨k, rfl⟩ : ∃ m, k = m + 1 := ⟨k - 1, by omega⟩; show laws_heldUint32S.l0 (k + 1) (pre ++ []) z _ = _; simp only [laws_heldUint32S.l0, List.append_nil]; rw [if_neg (by omega)]; simp⟩
  | n + 1, pre, z, hl, h0, h1 => by
    have hlen : (pre ++ marks (fun z => z % 4294967296) z (n + 1)).length = pre.length + (n + 1) := by simp [marks_length]
    have h := heldUint32S_l0 n (pre ++ [(fun z => z % 4294967296) z]) (z + 1) (by simp; omega) (by omega) (by omega)
    rw [len_snoc, List.append_assoc, List.singleton_append, show z + 1 + (n : Int) = z + ((n + 1 : Nat) : Int) from by omega] at h
    refine Ev.step (fun k => ?_) h
    rw [show marks (fun z => z % 4294967296) z (n + 1) = (fun z => z % 4294967296) z :: marks (fun z => z % 4294967296) (z + 1) n from rfl] at hlen ⊢
    simp only [laws_heldUint32S.l0]
    rw [if_pos (by rw [hlen]; omega), if_pos (by omega), if_pos (by rw [rd_at]), w64 (by omega) (by omega), w64 (x := ((pre.length : Nat) : Int) + 1) (by omega) (by omega)]
theorem heldUint32S_ev (n : Nat) (z : Int) (h : n ≤ 4294967296) (h0 : 0 ≤ z) (h1 : z ≤ 4294967296) : Ev (fun k => laws_heldUint32S.f k (marks (fun z => z % 4294967296) z n) z) (z + n) := by
  have h1 := heldUint32S_l0 n [] z (by simp; omega) h0 (by omega)
  exact Ev.congr (fun k => rfl) h1

/-! ### Big's helpers -/
theorem szBig_big (a : Bool) (l : List Int) (z : Int) (hz0 : 0 ≤ z) (hz1 : z ≤ 1048576) (hl : l.length ≤ 9223372036854775807) :
    laws_szBig.f a l z = some (if z < l.length then -1 else z - l.length) := by
  unfold laws_szBig.f laws_szUint32S.f
  rw [w64 (by omega) (by omega)]
  by_cases h : z < (l.length : Int)
  · rw [if_pos (by omega), if_pos h]; rfl
  · rw [if_neg (by omega), if_neg h]; simp only [Option.bind_some]; rw [if_neg (by omega)]
theorem toBig_ev (a : Bool) (l : List Int) (h : l.length ≤ 1048576) : Ev (fun k => laws_toBig.f k a l) (a, l) :=
  ev_bindc (toUint32S_ev l h) rfl
theorem eqBig_ev (a : Bool) (l : List Int) (h : l.length ≤ 4611686018427387904) : Ev (fun k => laws_eqBig.f k a l a l) true := by
  refine Ev.congr (fun k => ?_) (ev_bindc (f := fun t => if t = true then some true else some false) (eqUint32S_ev l h) rfl)
  simp only [laws_eqBig.f]
  rw [if_neg (by simp)]

/-! ### limbs into digits, and back -/
def halves : List Int → List Int
  | [] => []
  | x :: r => x % 65536 :: x / 65536 :: halves r
def pairs : List Int → List Int
  | [] => []
  | [a] => [a]
  | a :: b :: r => (a + b * 65536) :: pairs r
theorem halves_append : ∀ xs ys : List Int, halves (xs ++ ys) = halves xs ++ halves ys
  | [], _ => rfl
  | x :: xs, ys => by simp [halves, halves_append xs ys]
theorem halves_length : ∀ l : List Int, (halves l).length = 2 * l.length
  | [] => rfl
  | x :: r => by simp only [halves, List.length_cons, halves_length r]; omega
theorem halves_dv : ∀ l : List Int, dv 65536 (halves l) = dv 4294967296 l
  | [] => rfl
  | x :: r => by
    simp only [halves, dv, halves_dv r]
    have := Int.mul_ediv_add_emod x 65536
    omega
theorem halves_dg : ∀ {l : List Int}, Dg 4294967296 l → Dg 65536 (halves l)
  | [], _ => fun d h => by simp [halves] at h
  | x :: r, h => by
    intro d hd
    have hx := h x (by simp)
    simp only [halves, List.mem_cons] at hd
    rcases hd with rfl | rfl | hd
    · omega
    · omega
    · exact halves_dg (fun z hz => h z (by simp [hz])) d hd
theorem pairs_dv : ∀ l : List Int, dv 4294967296 (pairs l) = dv 65536 l
  | [] => rfl
  | [a] => by simp [pairs, dv]
  | a :: b :: r => by
    simp only [pairs, dv, pairs_dv r]
    omega
theorem pairs_dg : ∀ {l : List Int}, Dg 65536 l → Dg 4294967296 (pairs l)
  | [], _ => fun d h => by simp [pairs] at h
  | [a], h => by
    intro d hd
    have := h a (by simp)
    simp only [pairs, List.mem_singleton] at hd
    omega
  | a :: b :: r, h => by
    intro d hd
    have ha := h a (by simp)
    have hb := h b (by simp)
    simp only [pairs, List.mem_cons] at hd
    rcases hd with rfl | hd
    · omega
    · exact pairs_dg (fun z hz => h z (by simp [hz])) d hd
theorem pairs_nil : ∀ {l : List Int}, pairs l = [] → l = []
  | [], _ => rfl
  | [a], h => by simp [pairs] at h
  | a :: b :: r, h => by simp [pairs] at h
theorem pairs_len : ∀ l : List Int, (pairs l).length ≤ l.length
  | [] => Nat.le_refl _
  | [a] => Nat.le_refl _
  | a :: b :: r => by have := pairs_len r; simp only [pairs, List.length_cons]; omega
theorem cn_cons (a : Int) {r : List Int} (h : r ≠ []) : Cn (a :: r) ↔ Cn r := by
  obtain ⟨b, s, rfl⟩ := List.exists_cons_of_ne_nil h
  simp [Cn]
theorem pairs_cn : ∀ {l : List Int}, Dg 65536 l → Cn l → Cn (pairs l)
  | [], _, _ => Or.inl rfl
  | [a], _, h => h
  | [a, b], hd, h => by
    have ha := hd a (by simp)
    have hb := hd b (by simp)
    simp [Cn] at h
    simp [Cn, pairs]
    omega
  | a :: b :: c :: r, hd, h => by
    have h1 : Cn (c :: r) := (cn_cons b (by simp)).1 ((cn_cons a (by simp)).1 h)
    have h2 := pairs_cn (fun z hz => hd z (by simp [hz])) h1
    have h3 : pairs (c :: r) ≠ [] := fun e => by have := pairs_nil e; simp at this
    exact (cn_cons _ h3).2 h2
theorem l1of_l0 (a : Bool) : ∀ (rest pre : List Int), Dg 4294967296 (pre ++ rest) → (pre ++ rest).length ≤ 1048576 →
    ∃ t, Norm (halves (pre ++ rest)) t ∧ Ev (fun k => spec_l1of.l0 k (halves pre) ((pre.length : Nat) : Int) a (pre ++ rest)) (a && decide (0 < t.length), t)
  | [], pre, hd, hl => by
    rw [List.append_nil] at hd hl ⊢
    obtain ⟨t, ht, hev⟩ := l1make_ev a (halves pre) (by rw [halves_length]; omega)
    refine ⟨t, ht, Ev.step (fun k => ?_) (ev_bindc hev rfl)⟩
    simp only [spec_l1of.l0]
    rw [if_neg (by omega)]
  | x :: rest, pre, hd, hl => by
    have hx := hd x (by simp)
    have hlen : (pre ++ x :: rest).length = pre.length + (rest.length + 1) := by simp
    have hh := halves_length pre
    obtain ⟨t, ht, hev⟩ := l1of_l0 a rest (pre ++ [x]) (by simpa using hd) (by simpa using hl)
    rw [List.append_assoc, List.singleton_append] at ht hev
    refine ⟨t, ht, Ev.step (fun k => ?_) hev⟩
    rw [len_snoc, halves_append]
    simp only [spec_l1of.l0]
    rw [if_pos (by rw [hlen]; omega), if_pos (by omega), if_pos (by omega), rd_at]
    simp only [Option.bind_some, halves]
    rw [if_pos (by simp; omega), Int.tmod_eq_emod_of_nonneg hx.1, Int.tdiv_eq_ediv_of_nonneg hx.1, w64 (x := x % 65536) (by omega) (by omega), w64 (x := ((pre.length : Nat) : Int) + 1) (by omega) (by omega), Int.emod_eq_of_lt (a := x / 65536) (by omega) (by omega)]
    simp
theorem l1of_ev (a : Bool) (l : List Int) (hd : Dg 4294967296 l) (hl : l.length ≤ 1048576) :
    ∃ t, Cn t ∧ Dg 65536 t ∧ dv 65536 t = dv 4294967296 l ∧ t.length ≤ 2 * l.length ∧ Ev (fun k => spec_l1of.f k a l) (a && decide (0 < t.length), t) := by
  obtain ⟨t, ht, hev⟩ := l1of_l0 a l [] (by simpa using hd) (by simpa using hl)
  rw [List.nil_append] at ht hev
  exact ⟨t, ht.top, ht.dg (halves_dg hd), by rw [ht.val, halves_dv], by have := ht.len; rw [halves_length] at this; exact this, Ev.congr (fun k => rfl) hev⟩
def bigOut (a : Bool) (l : List Int) : Bool × List Int × Int := if (l.length : Int) > 512 then (false, [], 2) else (a, l, 0)
theorem l1big_l0 (a : Bool) : ∀ (rest pre out : List Int), Dg 65536 (pre ++ rest) → (pre ++ rest).length ≤ 1048576 → out.length ≤ pre.length →
    Ev (fun k => spec_l1big.l0 k ((pre.length : Nat) : Int) a (pre ++ rest) false out) (bigOut a (out ++ pairs rest))
  | [], pre, out, hd, hl, ho => ⟨1, fun k hk => by
    obtain ⟨k, rfl⟩ : ∃ m, k = m + 1 := ⟨k - 1, by omega⟩
    simp only [spec_l1big.l0, List.append_nil, pairs, bigOut]
    rw [if_neg (by omega)]
    split <;> rfl⟩
  | [x], pre, out, hd, hl, ho => by
    have hx := hd x (by simp)
    have hlen : (pre ++ [x]).length = pre.length + 1 := by simp
    have hend : Ev (fun k => spec_l1big.l0 k (((pre.length : Nat) : Int) + 2) a (pre ++ [x]) false (out ++ [x])) (bigOut a (out ++ [x])) := ⟨1, fun k hk => by
      obtain ⟨k, rfl⟩ : ∃ m, k = m + 1 := ⟨k - 1, by omega⟩
      simp only [spec_l1big.l0, bigOut]
      rw [if_neg (by rw [hlen]; omega)]
      split <;> rfl⟩
    refine Ev.step (fun k => ?_) hend
    simp only [spec_l1big.l0]
    rw [if_pos (by rw [hlen]; omega), if_pos (by omega), w64 (x := ((pre.length : Nat) : Int) + 1) (by omega) (by omega), if_neg (by rw [hlen]; omega), if_pos (by omega), rd_at, Int.emod_eq_of_lt (by omega) (by omega), w64 (by omega) (by omega)]
  | x :: y :: rest, pre, out, hd, hl, ho => by
    have hx := hd x (by simp)
    have hy := hd y (by simp)
    have hlen : (pre ++ x :: y :: rest).length = pre.length + (rest.length + 2) := by simp
    have h := l1big_l0 a rest (pre ++ [x] ++ [y]) (out ++ [x + y * 65536]) (by simpa using hd) (by simpa using hl) (by simp; omega)
    have e1 : pre ++ [x] ++ [y] ++ rest = pre ++ x :: y :: rest := by simp
    have e2 : out ++ [x + y * 65536] ++ pairs rest = out ++ pairs (x :: y :: rest) := by simp [pairs]
    have e3 : (((pre ++ [x] ++ [y]).length : Nat) : Int) = ((pre.length : Nat) : Int) + 2 := by simp only [List.length_append, List.length_singleton]; omega
    rw [e1, e2, e3] at h
    have hr2 : rd (pre ++ x :: y :: rest) (((pre.length : Nat) : Int) + 1) = y := by
      have := rd_at (pre ++ [x]) rest y
      rw [len_snoc, List.append_assoc, List.singleton_append] at this
      exact this
    refine Ev.step (fun k => ?_) h
    simp only [spec_l1big.l0]
    rw [if_pos (by rw [hlen]; omega), if_pos (by omega), w64 (x := ((pre.length : Nat) : Int) + 1) (by omega) (by omega), if_pos (by rw [hlen]; omega), if_pos (by omega), if_pos (by omega), rd_at, hr2, w64 (by omega) (by omega), Int.emod_eq_of_lt (a := y) (by omega) (by omega), Int.emod_eq_of_lt (by omega) (by omega)]
theorem l1big_ev (a : Bool) (l : List Int) (hd : Dg 65536 l) (hl : l.length ≤ 1048576) : Ev (fun k => spec_l1big.f k a l) (bigOut a (pairs l)) := by
  have h := l1big_l0 a l [] [] (by simpa using hd) (by simpa using hl) (Nat.le_refl _)
  exact Ev.congr (fun k => rfl) h
theorem big_f (a : Bool) (l : List Int) : impl_number_big.f a l = some (bigOut a l) := by
  unfold impl_number_big.f bigOut slices_Clone_uint32_uint32.f
  by_cases h : (l.length : Int) > 512
  · rw [if_pos h, if_pos h]
  · rw [if_neg h, if_neg h, if_pos (by omega)]
    rfl

theorem BigValid_both (a : Bool) (l : List Int) (h : l.length ≤ 1048576) : ∃ b, spec_BigValid.f a l = some b ∧ impl_BigValid.f a l = some b ∧ (b = true → l.length ≤ 512) := by
  unfold spec_BigValid.f impl_BigValid.f
  by_cases h0 : (l.length : Int) = 0
  · rw [if_pos h0, if_pos h0]
    cases a
    · exact ⟨true, rfl, by simp, fun _ => by omega⟩
    · exact ⟨false, rfl, by simp [h0], fun h => by cases h⟩
  · rw [if_neg h0, if_neg h0, if_pos (show (l.length : Int) > 0 by omega)]
    by_cases h1 : (l.length : Int) ≤ 512
    · rw [if_pos h1, w64 (by omega) (by omega), if_pos (by omega), if_pos (by omega)]
      exact ⟨_, rfl, rfl, fun _ => by omega⟩
    · rw [if_neg h1]
      exact ⟨_, rfl, rfl, fun h => by cases h⟩
theorem dv_ne_nil {B : Int} {l : List Int} (h : dv B l ≠ 0) : l ≠ [] := by rintro rfl; exact h rfl
theorem BigMul_same (a b : Bool) (x y : List Int) (hx : Dg 4294967296 x) (hy : Dg 4294967296 y) (hlx : x.length ≤ 1048576) (hly : y.length ≤ 1048576) :
    ∃ r, r.2.1.length ≤ 512 ∧ Ev (fun k => spec_BigMul.f k a x b y) r ∧ Ev (fun k => impl_BigMul.f k a x b y) r := by
  obtain ⟨v0, hs0, hi0, hv0⟩ := BigValid_both a x hlx
  obtain ⟨v1, hs1, hi1, hv1⟩ := BigValid_both b y hly
  unfold spec_BigMul.f impl_BigMul.f
  rw [hs0, hi0]
  simp only [Option.bind_some]
  cases v0 with
  | false =>
    refine ⟨(false, [], 1), by simp, ?_, ev_const rfl⟩
    simp only [Bool.false_eq_true, if_false]
    exact ⟨1, fun k hk => by obtain ⟨k, rfl⟩ : ∃ m, k = m + 1 := ⟨k - 1, by omega⟩; rfl⟩
  | true =>
    simp only [if_true]
    rw [hs1, hi1]
    simp only [Option.bind_some]
    cases v1 with
    | false =>
      refine ⟨(false, [], 1), by simp, ?_, ev_const rfl⟩
      exact ⟨1, fun k hk => by obtain ⟨k, rfl⟩ : ∃ m, k = m + 1 := ⟨k - 1, by omega⟩; rfl⟩
    | true =>
      have hx5 := hv0 rfl
      have hy5 := hv1 rfl
      obtain ⟨u, cu, du, vu, lu, eu⟩ := l1of_ev a x hx hlx
      obtain ⟨v, cv, dv', vv, lv, ev⟩ := l1of_ev b y hy hly
      obtain ⟨t, ct, dt, vt, lt, et⟩ := specmul_ev (a && decide (0 < u.length)) (b && decide (0 < v.length)) u v du dv' (by omega) (by omega)
      obtain ⟨s, cs, ds, vs, es⟩ := times_ev a b x y hx hy (by omega) (by omega)
      have hst : s = pairs t := cn_uniq (by omega) ds (pairs_dg dt) cs (pairs_cn dt ct) (by rw [vs, pairs_dv, vt, vu, vv])
      have hneg : ((!((a && decide (0 < u.length)) == (b && decide (0 < v.length)))) && decide (0 < t.length)) = ((!(a == b)) && decide (0 < s.length)) := by
        rcases Nat.eq_zero_or_pos s.length with h0 | h0
        · have h1 : s = [] := List.eq_nil_of_length_eq_zero h0
          have h2 : t = [] := pairs_nil (by rw [← hst, h1])
          rw [h1, h2]
          simp
        · have h1 : s ≠ [] := List.length_pos_iff.1 h0
          have h2 := cn_low (by omega) ds cs h1
          have h3 := one_le_ipow (B := 4294967296) (by omega) (s.length - 1)
          have h4 : dv 4294967296 x ≠ 0 := by intro e; rw [vs, e] at h2; omega
          have h5 : dv 4294967296 y ≠ 0 := by intro e; rw [vs, e, Int.mul_zero] at h2; omega
          have h6 : 0 < u.length := List.length_pos_iff.2 (dv_ne_nil (by rw [vu]; exact h4))
          have h7 : 0 < v.length := List.length_pos_iff.2 (dv_ne_nil (by rw [vv]; exact h5))
          have h8 : 0 < t.length := by
            rcases Nat.eq_zero_or_pos t.length with h | h
            · have : t = [] := List.eq_nil_of_length_eq_zero h
              rw [this] at hst
              exact absurd hst h1
            · exact h
          rw [decide_eq_true h6, decide_eq_true h7, decide_eq_true h8, decide_eq_true h0]
          simp
      refine ⟨bigOut ((!(a == b)) && decide (0 < s.length)) s, ?_, ?_, ?_⟩
      · unfold bigOut
        split
        · simp
        · simp; omega
      · refine Ev.step (f := fun k => (spec_l1of.f k a x).bind fun bt177 => ((spec_l1of.f k b y).bind fun bt181 => ((spec_l1mul.f k bt177.1 bt177.2 bt181.1 bt181.2).bind fun bt185 => ((spec_l1big.f k bt185.1 bt185.2).bind fun bt189 => (some (bt189.1, bt189.2.1, bt189.2.2)))))) (fun k => ?_) ?_
        · simp only [spec_BigMul.j0]
          rfl
        · refine Ev.bind eu ?_
          dsimp only
          refine Ev.bind ev ?_
          dsimp only
          refine Ev.bind et ?_
          dsimp only
          rw [hneg]
          rw [hst]
          exact ev_bindc (l1big_ev _ t dt (by omega)) rfl
      · simp only [if_true]
        exact ev_bindc es (big_f _ _)
theorem markBig_ev (a : Bool) (l : List Int) (z : Int) (h : l.length ≤ 4294967296) (h0 : 0 ≤ z) (h1 : z ≤ 4294967296) : Ev (fun k => laws_markBig.f k a l z) (z + l.length, marks (fun z => z % 4294967296) z l.length) :=
  ev_bindc (markUint32S_ev l z h h0 h1) rfl
theorem heldBig_ev (a : Bool) (n : Nat) (z : Int) (h : n ≤ 4294967296) (h0 : 0 ≤ z) (h1 : z ≤ 4294967296) : Ev (fun k => laws_heldBig.f k a (marks (fun z => z % 4294967296) z n) z) (z + n) :=
  ev_bindc (heldUint32S_ev n z h h0 h1) (by rw [if_neg (by omega)])
theorem wf_dg {l : List Int} (h : ∀ y ∈ l, (Lit.int .u32 y).wf = true) : Dg 4294967296 l := fun d hd => by
  have := h d hd
  simp [Lit.wf, IntKind.min, IntKind.max, IntKind.bits, IntKind.signed] at this
  omega

theorem FnExactBigMul : laws_FnExactBigMul.Pure := by
  rintro ⟨a, x⟩ ⟨b, y⟩ ⟨_, hlx, hwx⟩ ⟨_, hly, hwy⟩
  dsimp only at hlx hly hwx hwy ⊢
  have dx := wf_dg hwx
  have dy := wf_dg hwy
  refine Ev.rounds ?_
  unfold laws_FnExactBigMul.f
  rw [szBig_big a x 1048576 (by omega) (by omega) hlx]
  simp only [Option.bind_some]
  by_cases h : 1048576 < (x.length : Int)
  · rw [if_pos h]
    exact ev_const rfl
  rw [if_neg h]
  simp only [show ¬ (1048576 - (x.length : Int) < 0) from by omega, if_false]
  rw [szBig_big b y _ (by omega) (by omega) hly]
  simp only [Option.bind_some]
  by_cases h' : 1048576 - (x.length : Int) < (y.length : Int)
  · rw [if_pos h']
    exact ev_const rfl
  rw [if_neg h']
  simp only [show ¬ (1048576 - (x.length : Int) - (y.length : Int) < 0) from by omega, if_false]
  have bx : x.length ≤ 1048576 := by omega
  have by' : y.length ≤ 1048576 := by omega
  obtain ⟨⟨r1, r2, r3⟩, hr, hs, hi⟩ := BigMul_same a b x y dx dy bx by'
  have tx := toBig_ev a x bx
  have ty := toBig_ev b y by'
  have ex := eqBig_ev a x (by omega)
  have ey := eqBig_ev b y (by omega)
  have er := eqBig_ev r1 r2 (by dsimp only at hr; omega)
  have mx := markBig_ev a x 1 (by omega) (by omega) (by omega)
  have my := markBig_ev b y (1 + x.length) (by omega) (by omega) (by omega)
  have mr := markBig_ev r1 r2 1 (by dsimp only at hr; omega) (by omega) (by omega)
  have hr' := heldBig_ev r1 r2.length 1 (by dsimp only at hr; omega) (by omega) (by omega)
  refine Ev.bind tx ?_
  refine Ev.bind ty ?_
  refine Ev.bind hs ?_
  refine Ev.bind tx ?_
  refine Ev.bind ty ?_
  refine Ev.bind hi ?_
  dsimp only
  refine Ev.bind er ?_
  simp only [if_true]
  refine Ev.bind tx ?_
  refine Ev.bind ex ?_
  simp only [if_true]
  refine Ev.bind ty ?_
  refine Ev.bind ey ?_
  simp only [if_true]
  refine Ev.bind mx ?_
  refine Ev.bind my ?_
  dsimp only
  simp only [show ¬ ((1 : Int) + x.length + y.length < 0) from by omega, if_false]
  refine Ev.bind er ?_
  simp only [if_true]
  refine Ev.bind mr ?_
  dsimp only
  refine Ev.bind hr' ?_
  simp only [show ¬ ((1 : Int) + r2.length < 0) from by omega, if_false, if_true]
  refine Ev.bind tx ?_
  refine Ev.bind ty ?_
  refine Ev.bind hi ?_
  dsimp only
  refine Ev.bind er ?_
  simp only [if_true]
  refine Ev.bind hr' ?_
  simp only [show ¬ ((1 : Int) + r2.length < 0) from by omega, if_false]
  exact ev_const rfl

end Go.Proofs.Ytcpdeenhjodmfaa.Pure
