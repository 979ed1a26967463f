/- The plain law behind FnExactDecodePictureSaid: the pure functions that the program's Go functions come to answer as the statement says, for every input that the row lets in. -/
import Derived.Test.YtcpdeenhjodmfaaQDecodePicturex7
namespace Go.Proofs.Ytcpdeenhjodmfaa.Pure
open Go.RowKit Go.Proofs.Ytcpdeenhjodmfaa.QDecodePicture Go.Proofs.YtcpdeenhjodmfaaW.PrintWords Go.Proofs.YtcpdeenhjodmfaaW.PrintLast Go.Proofs.YtcpdeenhjodmfaaW.PrintMore
set_option linter.unusedVariables false
set_option linter.unusedSimpArgs false
/-! ### rounds, and lists by index -/
theorem ev_const {α : Type} {a : Option α} {r : α} (h : a = some r) : Ev (fun _ => a) r := ⟨0, fun _ _ => h⟩
theorem ev_bindc {α β : Type} {g : Nat → Option α} {f : α → Option β} {a : α} {r : β} (h : Ev g a) (k : f a = some r) : Ev (fun n => (g n).bind f) r :=
  Ev.bind (f := fun _ => f) h (ev_const k)
theorem ev_cbind {α β : Type} {g : Option α} {f : Nat → α → Option β} {a : α} {r : β} (h : g = some a) (k : Ev (fun n => f n a) r) : Ev (fun n => g.bind (f n)) r :=
  Ev.bind (g := fun _ => g) (ev_const h) k
theorem rd_nat (xs : List Int) (i : Nat) : rd xs (i : Int) = xs.getD i 0 := by simp [rd]
theorem rd_at (pre rest : List Int) (r : Int) : rd (pre ++ r :: rest) ((pre.length : Nat) : Int) = r := by simp [rd]
theorem rdb_at (pre rest : List Bool) (r : Bool) : rdOf false (pre ++ r :: rest) ((pre.length : Nat) : Int) = r := by simp [rdOf]
theorem set_at {α : Type} (pre rest : List α) (r v : α) : (pre ++ r :: rest).set (((pre.length : Nat) : Int)).toNat v = (pre ++ [v]) ++ rest := by simp
theorem w64 {x : Int} (h0 : -9223372036854775808 ≤ x) (h1 : x ≤ 9223372036854775807) : wrap64 x = x := by unfold wrap64; omega
theorem len_snoc {α : Type} (pre : List α) (v : α) : (((pre ++ [v]).length : Nat) : Int) = ((pre.length : Nat) : Int) + 1 := by simp
def marks {α : Type} (M : Int → α) : Int → Nat → List α
  | _, 0 => []
  | k, n + 1 => M k :: marks M (k + 1) n
theorem marks_length {α : Type} (M : Int → α) : ∀ (n : Nat) (k : Int), (marks M k n).length = n
  | 0, _ => rfl
  | n + 1, k => by simp [marks, marks_length M n]

/-! ### words -/
theorem shr_eq (k : IntKind) (x : Int) (s : Nat) (h : s ≤ k.bits) : shr k x ((s : Nat) : Int) = x / 2 ^ s := by
  unfold shr
  rw [Int.toNat_natCast, Nat.min_eq_left h]
theorem shl_eq (k : IntKind) (x : Int) (s : Nat) (h : s ≤ k.bits) : shl k x ((s : Nat) : Int) = k.wrap (x * 2 ^ s) := by
  unfold shl
  rw [Int.toNat_natCast, Nat.min_eq_left h]
theorem tdn (n m : Nat) : Int.tdiv ((n : Nat) : Int) ((m : Nat) : Int) = ((n / m : Nat) : Int) := by
  rw [Int.tdiv_eq_ediv_of_nonneg (by omega)]; rfl
theorem tmn (n m : Nat) : Int.tmod ((n : Nat) : Int) ((m : Nat) : Int) = ((n % m : Nat) : Int) := by
  rw [Int.tmod_eq_emod_of_nonneg (by omega)]; rfl

theorem toByteS_l0 : ∀ (rest junk pre : List Int), junk.length = rest.length → (pre ++ rest).length ≤ 4611686018427387904 → Ev (fun k => laws_toByteS.l0 k (pre ++ rest) (pre ++ junk) ((pre.length : Nat) : Int)) (pre ++ rest)
  | [], junk, pre, hj, hl => by
    obtain rfl : junk = [] := List.eq_nil_of_length_eq_zero hj
    exact ⟨1, fun k hk => by obtain ⟨k, rfl⟩ : ∃ m, k = m + 1 := ⟨k - 1, by omega⟩; simp only [laws_toByteS.l0]; rw [if_neg (by simp)]⟩
  | r :: rest, [], pre, hj, hl => by simp at hj
  | r :: rest, j :: junk, pre, hj, hl => by
    have hlen : (pre ++ r :: rest).length = pre.length + (rest.length + 1) := by simp
    have hlen2 : (pre ++ j :: junk).length = pre.length + (junk.length + 1) := by simp
    have h := toByteS_l0 rest junk (pre ++ [r]) (by simpa using hj) (by simpa using hl)
    rw [len_snoc, List.append_assoc, List.singleton_append] at h
    refine Ev.step (fun k => ?_) h
    simp only [laws_toByteS.l0]
    rw [if_pos (by rw [hlen]; omega), if_pos (by omega), if_pos (by rw [hlen2]; omega), set_at, rd_at, w64 (by omega) (by omega)]
theorem toByteS_ev (l : List Int) (h : l.length ≤ 1048576) : Ev (fun k => laws_toByteS.f k l) l := by
  have h1 := toByteS_l0 l (List.replicate l.length 0) [] (by simp) (by simp; omega)
  refine Ev.congr (fun k => ?_) h1
  simp only [laws_toByteS.f]
  rw [if_pos (by omega), if_pos (by simp; omega)]
  simp

theorem eqByteS_l0 : ∀ (rest pre : List Int), (pre ++ rest).length ≤ 4611686018427387904 → Ev (fun k => laws_eqByteS.l0 k (pre ++ rest) (pre ++ rest) ((pre.length : Nat) : Int)) true
  | [], pre, hl => ⟨1, fun k hk => by obtain ⟨k, rfl⟩ : ∃ m, k = m + 1 := ⟨k - 1, by omega⟩; simp only [laws_eqByteS.l0]; rw [if_neg (by simp)]⟩
  | r :: rest, pre, hl => by
    have hlen : (pre ++ r :: rest).length = pre.length + (rest.length + 1) := by simp
    have h := eqByteS_l0 rest (pre ++ [r]) (by simpa using hl)
    rw [len_snoc, List.append_assoc, List.singleton_append] at h
    refine Ev.step (fun k => ?_) h
    simp only [laws_eqByteS.l0]
    rw [if_pos (by rw [hlen]; omega), if_pos (by omega), if_pos (by rw [hlen]; omega), if_pos trivial, w64 (by omega) (by omega)]
theorem eqByteS_ev (l : List Int) (h : l.length ≤ 4611686018427387904) : Ev (fun k => laws_eqByteS.f k l l) true := by
  have h1 := eqByteS_l0 l [] (by simpa using h)
  refine Ev.congr (fun k => ?_) h1
  simp only [laws_eqByteS.f]
  rw [if_pos trivial]
  rfl

theorem markByteS_l0 : ∀ (rest pre : List Int) (z : Int), (pre ++ rest).length ≤ 4611686018427387904 → 0 ≤ z → z + rest.length ≤ 4611686018427387904 →
    Ev (fun k => laws_markByteS.l0 k (pre ++ rest) z ((pre.length : Nat) : Int)) (z + rest.length, pre ++ marks (fun z => z % 256) z rest.length)
  | [], pre, z, hl, h0, h1 => ⟨1, fun k hk => by obtain ⟨k, rfl⟩ : ∃ m, k = m + 1 := ⟨k - 1, by omega⟩; simp only [laws_markByteS.l0]; rw [if_neg (by simp)]; simp [marks]⟩
  | r :: rest, pre, z, hl, h0, h1 => by
    have hlen : (pre ++ r :: rest).length = pre.length + (rest.length + 1) := by simp
    rw [List.length_cons] at h1
    have h := markByteS_l0 rest (pre ++ [(fun z => z % 256) z]) (z + 1) (by simpa using hl) (by omega) (by omega)
    rw [len_snoc, List.append_assoc pre [(fun z => z % 256) z] rest, List.append_assoc pre [(fun z => z % 256) z] (marks _ _ _), List.singleton_append, List.singleton_append, show z + 1 + (rest.length : Int) = z + ((r :: rest).length : Nat) from by rw [List.length_cons]; omega] at h
    refine Ev.step (fun k => ?_) h
    simp only [laws_markByteS.l0]
    rw [if_pos (by rw [hlen]; omega), if_pos (by omega), set_at, w64 (by omega) (by omega), w64 (x := ((pre.length : Nat) : Int) + 1) (by omega) (by omega), List.append_assoc, List.singleton_append]
theorem markByteS_ev (l : List Int) (z : Int) (h : l.length ≤ 4294967296) (h0 : 0 ≤ z) (h1 : z ≤ 4294967296) : Ev (fun k => laws_markByteS.f k l z) (z + l.length, marks (fun z => z % 256) z l.length) := by
  have h1 := markByteS_l0 l [] z (by simp; omega) h0 (by omega)
  exact Ev.congr (fun k => rfl) h1

theorem eqIntS_l0 : ∀ (rest pre : List Int), (pre ++ rest).length ≤ 4611686018427387904 → Ev (fun k => laws_eqIntS.l0 k (pre ++ rest) (pre ++ rest) ((pre.length : Nat) : Int)) true
  | [], pre, hl => ⟨1, fun k hk => by obtain ⟨k, rfl⟩ : ∃ m, k = m + 1 := ⟨k - 1, by omega⟩; simp only [laws_eqIntS.l0]; rw [if_neg (by simp)]⟩
  | r :: rest, pre, hl => by
    have hlen : (pre ++ r :: rest).length = pre.length + (rest.length + 1) := by simp
    have h := eqIntS_l0 rest (pre ++ [r]) (by simpa using hl)
    rw [len_snoc, List.append_assoc, List.singleton_append] at h
    refine Ev.step (fun k => ?_) h
    simp only [laws_eqIntS.l0]
    rw [if_pos (by rw [hlen]; omega), if_pos (by omega), if_pos (by rw [hlen]; omega), if_pos trivial, w64 (by omega) (by omega)]
theorem eqIntS_ev (l : List Int) (h : l.length ≤ 4611686018427387904) : Ev (fun k => laws_eqIntS.f k l l) true := by
  have h1 := eqIntS_l0 l [] (by simpa using h)
  refine Ev.congr (fun k => ?_) h1
  simp only [laws_eqIntS.f]
  rw [if_pos trivial]
  rfl

theorem eqBoolS_l0 : ∀ (rest pre : List Bool), (pre ++ rest).length ≤ 4611686018427387904 → Ev (fun k => laws_eqBoolS.l0 k (pre ++ rest) (pre ++ rest) ((pre.length : Nat) : Int)) true
  | [], pre, hl => ⟨1, fun k hk => by obtain ⟨k, rfl⟩ : ∃ m, k = m + 1 := ⟨k - 1, by omega⟩; simp only [laws_eqBoolS.l0]; rw [if_neg (by simp)]⟩
  | r :: rest, pre, hl => by
    have hlen : (pre ++ r :: rest).length = pre.length + (rest.length + 1) := by simp
    have h := eqBoolS_l0 rest (pre ++ [r]) (by simpa using hl)
    rw [len_snoc, List.append_assoc, List.singleton_append] at h
    refine Ev.step (fun k => ?_) h
    simp only [laws_eqBoolS.l0]
    rw [if_pos (by rw [hlen]; omega), if_pos (by omega), if_pos (by rw [hlen]; omega), if_neg (by simp), w64 (by omega) (by omega)]
theorem eqBoolS_ev (l : List Bool) (h : l.length ≤ 4611686018427387904) : Ev (fun k => laws_eqBoolS.f k l l) true := by
  have h1 := eqBoolS_l0 l [] (by simpa using h)
  refine Ev.congr (fun k => ?_) h1
  simp only [laws_eqBoolS.f]
  rw [if_pos trivial]
  rfl

theorem markIntS_l0 : ∀ (rest pre : List Int) (z : Int), (pre ++ rest).length ≤ 4611686018427387904 → 0 ≤ z → z + rest.length ≤ 4611686018427387904 →
    Ev (fun k => laws_markIntS.l0 k (pre ++ rest) z ((pre.length : Nat) : Int)) (z + rest.length, pre ++ marks (fun z => z) z rest.length)
  | [], pre, z, hl, h0, h1 => ⟨1, fun k hk => by obtain ⟨k, rfl⟩ : ∃ m, k = m + 1 := ⟨k - 1, by omega⟩; simp only [laws_markIntS.l0]; rw [if_neg (by simp)]; simp [marks]⟩
  | r :: rest, pre, z, hl, h0, h1 => by
    have hlen : (pre ++ r :: rest).length = pre.length + (rest.length + 1) := by simp
    rw [List.length_cons] at h1
    have h := markIntS_l0 rest (pre ++ [(fun z => z) z]) (z + 1) (by simpa using hl) (by omega) (by omega)
    rw [len_snoc, List.append_assoc pre [(fun z => z) z] rest, List.append_assoc pre [(fun z => z) z] (marks _ _ _), List.singleton_append, List.singleton_append, show z + 1 + (rest.length : Int) = z + ((r :: rest).length : Nat) from by rw [List.length_cons]; omega] at h
    refine Ev.step (fun k => ?_) h
    simp only [laws_markIntS.l0]
    rw [if_pos (by rw [hlen]; omega), if_pos (by omega), set_at, w64 (by omega) (by omega), w64 (x := ((pre.length : Nat) : Int) + 1) (by omega) (by omega), List.append_assoc, List.singleton_append]
theorem markIntS_ev (l : List Int) (z : Int) (h : l.length ≤ 4294967296) (h0 : 0 ≤ z) (h1 : z ≤ 4294967296) : Ev (fun k => laws_markIntS.f k l z) (z + l.length, marks (fun z => z) z l.length) := by
  have h1 := markIntS_l0 l [] z (by simp; omega) h0 (by omega)
  exact Ev.congr (fun k => rfl) h1

theorem markBoolS_l0 : ∀ (rest pre : List Bool) (z : Int), (pre ++ rest).length ≤ 4611686018427387904 → 0 ≤ z → z + rest.length ≤ 4611686018427387904 →
    Ev (fun k => laws_markBoolS.l0 k (pre ++ rest) z ((pre.length : Nat) : Int)) (z + rest.length, pre ++ marks (fun z => (Int.tmod z 3 == 0)) z rest.length)
  | [], pre, z, hl, h0, h1 => ⟨1, fun k hk => by obtain ⟨k, rfl⟩ : ∃ m, k = m + 1 := ⟨k - 1, by omega⟩; simp only [laws_markBoolS.l0]; rw [if_neg (by simp)]; simp [marks]⟩
  | r :: rest, pre, z, hl, h0, h1 => by
    have hlen : (pre ++ r :: rest).length = pre.length + (rest.length + 1) := by simp
    rw [List.length_cons] at h1
    have h := markBoolS_l0 rest (pre ++ [(fun z => (Int.tmod z 3 == 0)) z]) (z + 1) (by simpa using hl) (by omega) (by omega)
    rw [len_snoc, List.append_assoc pre [(fun z => (Int.tmod z 3 == 0)) z] rest, List.append_assoc pre [(fun z => (Int.tmod z 3 == 0)) z] (marks _ _ _), List.singleton_append, List.singleton_append, show z + 1 + (rest.length : Int) = z + ((r :: rest).length : Nat) from by rw [List.length_cons]; omega] at h
    refine Ev.step (fun k => ?_) h
    simp only [laws_markBoolS.l0]
    rw [if_pos (by rw [hlen]; omega), if_pos (by omega), set_at, w64 (by omega) (by omega), w64 (x := ((pre.length : Nat) : Int) + 1) (by omega) (by omega), List.append_assoc, List.singleton_append]
theorem markBoolS_ev (l : List Bool) (z : Int) (h : l.length ≤ 4294967296) (h0 : 0 ≤ z) (h1 : z ≤ 4294967296) : Ev (fun k => laws_markBoolS.f k l z) (z + l.length, marks (fun z => (Int.tmod z 3 == 0)) z l.length) := by
  have h1 := markBoolS_l0 l [] z (by simp; omega) h0 (by omega)
  exact Ev.congr (fun k => rfl) h1

theorem heldIntS_l0 : ∀ (n : Nat) (pre : List Int) (z : Int), pre.length + n ≤ 4611686018427387904 → 0 ≤ z → z + n ≤ 4611686018427387904 →
    Ev (fun k => laws_heldIntS.l0 k (pre ++ marks (fun z => z) z n) z ((pre.length : Nat) : Int)) (z + n)
  | 0, pre, z, hl, h0, h1 => ⟨1, fun k hk => by obtain ⟨k, rfl⟩ : ∃ m, k = m + 1 := ⟨k - 1, by omega⟩; show laws_heldIntS.l0 (k + 1) (pre ++ []) z _ = _; simp only [laws_heldIntS.l0, List.append_nil]; rw [if_neg (by omega)]; simp⟩
  | n + 1, pre, z, hl, h0, h1 => by
    have hlen : (pre ++ marks (fun z => z) z (n + 1)).length = pre.length + (n + 1) := by simp [marks_length]
    have h := heldIntS_l0 n (pre ++ [(fun z => z) z]) (z + 1) (by simp; omega) (by omega) (by omega)
    rw [len_snoc, List.append_assoc, List.singleton_append, show z + 1 + (n : Int) = z + ((n + 1 : Nat) : Int) from by omega] at h
    refine Ev.step (fun k => ?_) h
    rw [show marks (fun z => z) z (n + 1) = (fun z => z) z :: marks (fun z => z) (z + 1) n from rfl] at hlen ⊢
    simp only [laws_heldIntS.l0]
    rw [if_pos (by rw [hlen]; omega), if_pos (by omega), if_pos (by rw [rd_at]), w64 (by omega) (by omega), w64 (x := ((pre.length : Nat) : Int) + 1) (by omega) (by omega)]
theorem heldIntS_ev (n : Nat) (z : Int) (h : n ≤ 4294967296) (h0 : 0 ≤ z) (h1 : z ≤ 4294967296) : Ev (fun k => laws_heldIntS.f k (marks (fun z => z) z n) z) (z + n) := by
  have h1 := heldIntS_l0 n [] z (by simp; omega) h0 (by omega)
  exact Ev.congr (fun k => rfl) h1

theorem heldBoolS_l0 : ∀ (n : Nat) (pre : List Bool) (z : Int), pre.length + n ≤ 4611686018427387904 → 0 ≤ z → z + n ≤ 4611686018427387904 →
    Ev (fun k => laws_heldBoolS.l0 k (pre ++ marks (fun z => (Int.tmod z 3 == 0)) z n) z ((pre.length : Nat) : Int)) (z + n)
  | 0, pre, z, hl, h0, h1 => ⟨1, fun k hk => by obtain ⟨k, rfl⟩ : ∃ m, k = m + 1 := ⟨k - 1, by omega⟩; show laws_heldBoolS.l0 (k + 1) (pre ++ []) z _ = _; simp only [laws_heldBoolS.l0, List.append_nil]; rw [if_neg (by omega)]; simp⟩
  | n + 1, pre, z, hl, h0, h1 => by
    have hlen : (pre ++ marks (fun z => (Int.tmod z 3 == 0)) z (n + 1)).length = pre.length + (n + 1) := by simp [marks_length]
    have h := heldBoolS_l0 n (pre ++ [(fun z => (Int.tmod z 3 == 0)) z]) (z + 1) (by simp; omega) (by omega) (by omega)
    rw [len_snoc, List.append_assoc, List.singleton_append, show z + 1 + (n : Int) = z + ((n + 1 : Nat) : Int) from by omega] at h
    refine Ev.step (fun k => ?_) h
    rw [show marks (fun z => (Int.tmod z 3 == 0)) z (n + 1) = (fun z => (Int.tmod z 3 == 0)) z :: marks (fun z => (Int.tmod z 3 == 0)) (z + 1) n from rfl] at hlen ⊢
    simp only [laws_heldBoolS.l0]
    rw [if_pos (by rw [hlen]; omega), if_pos (by omega), if_neg (by rw [rdb_at]; simp), w64 (by omega) (by omega), w64 (x := ((pre.length : Nat) : Int) + 1) (by omega) (by omega)]
theorem heldBoolS_ev (n : Nat) (z : Int) (h : n ≤ 4294967296) (h0 : 0 ≤ z) (h1 : z ≤ 4294967296) : Ev (fun k => laws_heldBoolS.f k (marks (fun z => (Int.tmod z 3 == 0)) z n) z) (z + n) := by
  have h1 := heldBoolS_l0 n [] z (by simp; omega) h0 (by omega)
  exact Ev.congr (fun k => rfl) h1

/-! ### bytes: numbers, bits, and a picture's form -/
def By (b : List Int) : Prop := ∀ x ∈ b, 0 ≤ x ∧ x < 256
def gB (b : List Int) (i : Nat) : Int := b.getD i 0
theorem gB_by {b : List Int} (h : By b) (i : Nat) : 0 ≤ gB b i ∧ gB b i < 256 := by
  unfold gB
  by_cases hi : i < b.length
  · rw [List.getD_eq_getElem?_getD, List.getElem?_eq_getElem hi]
    exact h _ (List.getElem_mem hi)
  · rw [List.getD_eq_getElem?_getD, List.getElem?_eq_none (by omega)]
    simp
theorem rd_gB (b : List Int) (i : Nat) {z : Int} (h : z = (i : Int)) : rd b z = gB b i := by subst h; exact rd_nat b i
theorem wf_by {l : List Int} (h : ∀ y ∈ l, (Lit.int .u8 y).wf = true) : By l := fun d hd => by
  have := h d hd
  simp [Lit.wf, IntKind.min, IntKind.max, IntKind.bits, IntKind.signed] at this
  omega
def u4 (b : List Int) (i : Nat) : Int := gB b i + 256 * gB b (i + 1) + 65536 * gB b (i + 2) + 16777216 * gB b (i + 3)
theorem u4_lt {b : List Int} (h : By b) (i : Nat) : 0 ≤ u4 b i ∧ u4 b i < 4294967296 := by
  have h0 := gB_by h i
  have h1 := gB_by h (i + 1)
  have h2 := gB_by h (i + 2)
  have h3 := gB_by h (i + 3)
  unfold u4
  omega
theorem num_step {b : List Int} (hb : By b) (hl : b.length ≤ 2000000) (a j : Nat) (v z : Int) (hz : z = (j : Int) - 1) (h0 : 0 ≤ v) (h1 : v ≤ 281474976710656) (hj : a + j < b.length) {r : Int}
    (h : Ev (fun k => spec_l6number.l0 k b (a : Int) (v * 256 + gB b (a + j)) z) r) : Ev (fun k => spec_l6number.l0 k b (a : Int) v (j : Int)) r := by
  have hg := gB_by hb (a + j)
  subst hz
  refine Ev.step (fun k => ?_) h
  simp only [spec_l6number.l0]
  rw [if_pos (by omega), w64 (x := (a : Int) + j) (by omega) (by omega), if_pos (by omega), if_pos (by omega), rd_gB b (a + j) (by omega), w64 (x := v * 256) (by omega) (by omega), w64 (x := gB b (a + j)) (by omega) (by omega), w64 (x := v * 256 + gB b (a + j)) (by omega) (by omega), w64 (x := (j : Int) - 1) (by omega) (by omega)]
theorem num_end (b : List Int) (a : Nat) (v : Int) : Ev (fun k => spec_l6number.l0 k b (a : Int) v (-1)) v := ⟨1, fun k hk => by
  obtain ⟨k, rfl⟩ : ∃ m, k = m + 1 := ⟨k - 1, by omega⟩
  simp only [spec_l6number.l0]
  rw [if_neg (by omega)]⟩
theorem number4_ev {b : List Int} (hb : By b) (hl : b.length ≤ 2000000) (a : Nat) (z : Int) (hz : z = (a : Int)) (h : a + 4 ≤ b.length) : Ev (fun k => spec_l6number.f k b z 4) (u4 b a) := by
  have h0 := gB_by hb (a + 0)
  have h1 := gB_by hb (a + 1)
  have h2 := gB_by hb (a + 2)
  have h3 := gB_by hb (a + 3)
  subst hz
  have e : u4 b a = ((((0 : Int) * 256 + gB b (a + 3)) * 256 + gB b (a + 2)) * 256 + gB b (a + 1)) * 256 + gB b (a + 0) := by have e0 : gB b (a + 0) = gB b a := rfl; unfold u4; omega
  rw [e]
  refine Ev.congr (fun k => ?_) (num_step hb hl a 3 0 2 (by omega) (by omega) (by omega) (by omega) (num_step hb hl a 2 _ 1 (by omega) (by omega) (by omega) (by omega) (num_step hb hl a 1 _ 0 (by omega) (by omega) (by omega) (by omega) (num_step hb hl a 0 _ (-1) (by omega) (by omega) (by omega) (by omega) (num_end b a _)))))
  unfold spec_l6number.f
  rw [w64 (x := (a : Int) + 4) (by omega) (by omega), if_neg (by omega), show wrap64 (4 - 1) = ((3 : Nat) : Int) from by unfold wrap64; omega]
theorem number2_ev {b : List Int} (hb : By b) (hl : b.length ≤ 2000000) (a : Nat) (z : Int) (hz : z = (a : Int)) (h : a + 2 ≤ b.length) : Ev (fun k => spec_l6number.f k b z 2) (gB b a + 256 * gB b (a + 1)) := by
  have h0 := gB_by hb (a + 0)
  have h1 := gB_by hb (a + 1)
  subst hz
  have e : gB b a + 256 * gB b (a + 1) = ((0 : Int) * 256 + gB b (a + 1)) * 256 + gB b (a + 0) := by have e0 : gB b (a + 0) = gB b a := rfl; omega
  rw [e]
  refine Ev.congr (fun k => ?_) (num_step hb hl a 1 0 0 (by omega) (by omega) (by omega) (by omega) (num_step hb hl a 0 _ (-1) (by omega) (by omega) (by omega) (by omega) (num_end b a _)))
  unfold spec_l6number.f
  rw [w64 (x := (a : Int) + 2) (by omega) (by omega), if_neg (by omega), show wrap64 (2 - 1) = ((1 : Nat) : Int) from by unfold wrap64; omega]
theorem number1_ev {b : List Int} (hb : By b) (hl : b.length ≤ 2000000) (a : Nat) (z : Int) (hz : z = (a : Int)) (h : a + 1 ≤ b.length) : Ev (fun k => spec_l6number.f k b z 1) (gB b a) := by
  have h0 := gB_by hb (a + 0)
  subst hz
  have e : gB b a = (0 : Int) * 256 + gB b (a + 0) := by have e0 : gB b (a + 0) = gB b a := rfl; omega
  rw [e]
  refine Ev.congr (fun k => ?_) (num_step hb hl a 0 0 (-1) (by omega) (by omega) (by omega) (by omega) (num_end b a _))
  unfold spec_l6number.f
  rw [w64 (x := (a : Int) + 1) (by omega) (by omega), if_neg (by omega), show wrap64 (1 - 1) = ((0 : Nat) : Int) from by unfold wrap64; omega]
theorem number_short {b : List Int} (hl : b.length ≤ 2000000) (a n : Nat) (ha : a ≤ 2000000) (hn : n ≤ 8) (z : Int) (hz : z = (a : Int)) (h : b.length < a + n) : Ev (fun k => spec_l6number.f k b z (n : Int)) (-1) := by
  subst hz
  refine ⟨0, fun k _ => ?_⟩
  show spec_l6number.f k b (a : Int) (n : Int) = some (-1)
  unfold spec_l6number.f
  rw [w64 (x := (a : Int) + n) (by omega) (by omega), if_pos (by omega)]
theorem or_add {n : Nat} {k : IntKind} (hk : k = .u32 ∧ n = 32 ∨ k = .i64 ∧ n = 64) (x y s : Nat) (hx : x < 2 ^ s) (h : x + y * 2 ^ s < 4294967296) {z : Int} (hz : z = ((y * 2 ^ s : Nat) : Int)) : Go.bits .or k ((x : Nat) : Int) z = ((x + y * 2 ^ s : Nat) : Int) := by
  have h2 : x ||| y * 2 ^ s = x + y * 2 ^ s := by
    rw [Nat.or_comm, Nat.mul_comm, ← Nat.two_pow_add_eq_or_of_lt hx, Nat.add_comm]
  subst hz
  skip
  rcases hk with ⟨rfl, rfl⟩ | ⟨rfl, rfl⟩
  · have h32 : (2 : Nat) ^ 32 = 4294967296 := by decide
    show IntKind.u32.wrap (((BitVec.ofInt 32 ((x : Nat) : Int) ||| BitVec.ofInt 32 ((y * 2 ^ s : Nat) : Int)).toNat : Nat) : Int) = _
    rw [BitVec.toNat_or, BitVec.ofInt_natCast, BitVec.ofInt_natCast, BitVec.toNat_ofNat, BitVec.toNat_ofNat, Nat.mod_eq_of_lt (a := x) (by rw [h32]; omega), Nat.mod_eq_of_lt (a := y * 2 ^ s) (by rw [h32]; omega), h2]
    have : ∀ q : Int, IntKind.u32.wrap q = q % 4294967296 := fun q => by simp [IntKind.wrap, IntKind.bits, IntKind.signed]
    rw [this]
    omega
  · have h64 : (2 : Nat) ^ 64 = 18446744073709551616 := by decide
    show IntKind.i64.wrap (((BitVec.ofInt 64 ((x : Nat) : Int) ||| BitVec.ofInt 64 ((y * 2 ^ s : Nat) : Int)).toNat : Nat) : Int) = _
    rw [BitVec.toNat_or, BitVec.ofInt_natCast, BitVec.ofInt_natCast, BitVec.toNat_ofNat, BitVec.toNat_ofNat, Nat.mod_eq_of_lt (a := x) (by rw [h64]; omega), Nat.mod_eq_of_lt (a := y * 2 ^ s) (by rw [h64]; omega), h2, i64_w]
    exact w64 (by omega) (by omega)
/-! ### texts of bytes -/
theorem ba_loop (s : ByteArray) : ∀ (d i : Nat) (r : List UInt8), i + d = s.size → ByteArray.toList.loop s i r = r.reverse ++ s.data.toList.drop i
  | 0, i, r, h => by
    rw [ByteArray.toList.loop, if_neg (by omega), List.drop_eq_nil_of_le (by have hs : s.data.size = s.size := rfl; rw [Array.length_toList]; omega), List.append_nil]
  | d + 1, i, r, h => by
    have hi : i < s.data.toList.length := by have hs : s.data.size = s.size := rfl; rw [Array.length_toList]; omega
    rw [ByteArray.toList.loop, if_pos (by omega), ba_loop s d (i + 1) _ (by omega), List.drop_eq_getElem_cons hi]
    have hi2 : i < s.data.size := by simpa using hi
    have hg : s.get! i = s.data.toList[i] := by
      cases s with | mk d => show d[i]! = _; rw [getElem!_pos d i hi2]; simp
    rw [hg]
    simp
theorem ba_list (s : ByteArray) : s.toList = s.data.toList := by
  unfold ByteArray.toList
  rw [ba_loop s s.size 0 [] (by omega)]
  simp
theorem str_list (l : List Int) : (strOfNums l).toList = l.map fun n => UInt8.ofNat n.toNat := by
  rw [ba_list]
  simp [strOfNums]
theorem u8_inj {x y : Int} (hx : 0 ≤ x ∧ x < 256) (hy : 0 ≤ y ∧ y < 256) (h : UInt8.ofNat x.toNat = UInt8.ofNat y.toNat) : x = y := by
  have h2 := congrArg UInt8.toNat h
  simp at h2
  omega
theorem map_inj : ∀ {l m : List Int}, By l → By m → (l.map fun n => UInt8.ofNat n.toNat) = (m.map fun n => UInt8.ofNat n.toNat) → l = m
  | [], [], _, _, _ => rfl
  | [], y :: m, _, _, h => by simp at h
  | x :: l, [], _, _, h => by simp at h
  | x :: l, y :: m, hl, hm, h => by
    rw [List.map_cons, List.map_cons] at h
    obtain ⟨h1, h2⟩ := List.cons.inj h
    rw [u8_inj (hl x (by simp)) (hm y (by simp)) h1, map_inj (fun z hz => hl z (by simp [hz])) (fun z hz => hm z (by simp [hz])) h2]
theorem str_iff {l m : List Int} (hl : By l) (hm : By m) : (strOfNums l).toList = (strOfNums m).toList ↔ l = m := by
  rw [str_list, str_list]
  exact ⟨map_inj hl hm, fun h => by rw [h]⟩
theorem head_iff {b : List Int} (hb : By b) : (strOfNums (b.take 4)).toList = ([80, 73, 67, 84] : List UInt8) ↔ b.take 4 = [80, 73, 67, 84] := by
  have h : ([80, 73, 67, 84] : List UInt8) = (strOfNums [80, 73, 67, 84]).toList := by rw [str_list]; rfl
  rw [h]
  exact str_iff (fun z hz => hb z (List.mem_of_mem_take hz)) (by intro z hz; simp at hz; omega)
/-! ### bits -/
def bitAt (r : List Int) (i : Nat) : Bool := gB r (i / 8) / 2 ^ (i % 8) % 2 == 1
def bI (c : Bool) : Int := if c then 1 else 0
theorem bI_le (c : Bool) : 0 ≤ bI c ∧ bI c ≤ 1 := by cases c <;> simp [bI]
def pkb (f : Nat → Bool) : Int := bI (f 0) + 2 * bI (f 1) + 4 * bI (f 2) + 8 * bI (f 3) + 16 * bI (f 4) + 32 * bI (f 5) + 64 * bI (f 6) + 128 * bI (f 7)
theorem pkb_by (f : Nat → Bool) : 0 ≤ pkb f ∧ pkb f < 256 := by
  have h0 := bI_le (f 0); have h1 := bI_le (f 1); have h2 := bI_le (f 2); have h3 := bI_le (f 3); have h4 := bI_le (f 4); have h5 := bI_le (f 5); have h6 := bI_le (f 6); have h7 := bI_le (f 7)
  unfold pkb
  omega
theorem bI_eq (x : Int) (h0 : 0 ≤ x) (h1 : x ≤ 1) : bI (x == 1) = x := by
  rcases (by omega : x = 0 ∨ x = 1) with rfl | rfl <;> rfl
theorem pkb_bits {v : Int} (h : 0 ≤ v ∧ v < 256) : pkb (fun k => v / 2 ^ k % 2 == 1) = v := by
  unfold pkb
  simp only [show (2 : Int) ^ 0 = 1 from rfl, show (2 : Int) ^ 1 = 2 from rfl, show (2 : Int) ^ 2 = 4 from rfl, show (2 : Int) ^ 3 = 8 from rfl, show (2 : Int) ^ 4 = 16 from rfl, show (2 : Int) ^ 5 = 32 from rfl, show (2 : Int) ^ 6 = 64 from rfl, show (2 : Int) ^ 7 = 128 from rfl]
  rw [bI_eq _ (by omega) (by omega), bI_eq _ (by omega) (by omega), bI_eq _ (by omega) (by omega), bI_eq _ (by omega) (by omega), bI_eq _ (by omega) (by omega), bI_eq _ (by omega) (by omega), bI_eq _ (by omega) (by omega), bI_eq _ (by omega) (by omega)]
  omega
theorem bits_pkb (f : Nat → Bool) (k : Nat) (hk : k < 8) : (pkb f / 2 ^ k % 2 == 1) = f k := by
  have h0 := bI_le (f 0); have h1 := bI_le (f 1); have h2 := bI_le (f 2); have h3 := bI_le (f 3); have h4 := bI_le (f 4); have h5 := bI_le (f 5); have h6 := bI_le (f 6); have h7 := bI_le (f 7)
  have hb : ∀ c : Bool, (bI c == 1) = c := by intro c; cases c <;> rfl
  have key : pkb f / 2 ^ k % 2 = bI (f k) := by
    unfold pkb
    rcases (by omega : k = 0 ∨ k = 1 ∨ k = 2 ∨ k = 3 ∨ k = 4 ∨ k = 5 ∨ k = 6 ∨ k = 7) with rfl | rfl | rfl | rfl | rfl | rfl | rfl | rfl
    all_goals simp only [show (2 : Int) ^ 0 = 1 from rfl, show (2 : Int) ^ 1 = 2 from rfl, show (2 : Int) ^ 2 = 4 from rfl, show (2 : Int) ^ 3 = 8 from rfl, show (2 : Int) ^ 4 = 16 from rfl, show (2 : Int) ^ 5 = 32 from rfl, show (2 : Int) ^ 6 = 64 from rfl, show (2 : Int) ^ 7 = 128 from rfl]
    all_goals omega
  rw [key, hb]
theorem pkb_congr {f g : Nat → Bool} (h : ∀ k, k < 8 → f k = g k) : pkb f = pkb g := by
  unfold pkb
  rw [h 0 (by omega), h 1 (by omega), h 2 (by omega), h 3 (by omega), h 4 (by omega), h 5 (by omega), h 6 (by omega), h 7 (by omega)]
/-! ### the form of a picture -/
def le (v : Int) : Nat → List Int
  | 0 => []
  | n + 1 => v % 256 :: le (v / 256) n
theorem le_length : ∀ (n : Nat) (v : Int), (le v n).length = n
  | 0, _ => rfl
  | n + 1, v => by simp [le, le_length n]
theorem le_by : ∀ (n : Nat) (v : Int), By (le v n)
  | 0, _ => fun x hx => by simp [le] at hx
  | n + 1, v => fun x hx => by
    rcases List.mem_cons.1 hx with rfl | hx
    · omega
    · exact le_by n _ x hx
def idb (v : Int) : List Int := if v < 0 then [255, 255, 255, 255] else le v 4
theorem idb_length (v : Int) : (idb v).length = 4 := by unfold idb; split <;> simp [le_length]
theorem idb_by (v : Int) : By (idb v) := by
  unfold idb
  split
  · intro x hx; simp at hx; omega
  · exact le_by _ _
def packAll (l : List Bool) : List Int := (List.range ((l.length + 7) / 8)).map fun j => pkb fun k => l.getD (8 * j + k) false
theorem packAll_length (l : List Bool) : (packAll l).length = (l.length + 7) / 8 := by simp [packAll]
theorem packAll_by (l : List Bool) : By (packAll l) := fun x hx => by
  obtain ⟨j, _, rfl⟩ := List.mem_map.1 hx
  exact pkb_by _
def picForm (ids : List Int) (L : Int) (lit : List Bool) : List Int := [80, 73, 67, 84] ++ le ids.length 2 ++ le L 1 ++ ids.flatMap idb ++ packAll lit
theorem flat_length : ∀ ids : List Int, (ids.flatMap idb).length = 4 * ids.length
  | [] => rfl
  | v :: ids => by rw [List.flatMap_cons, List.length_append, idb_length, flat_length ids, List.length_cons]; omega
theorem flat_by (ids : List Int) : By (ids.flatMap idb) := fun x hx => by
  obtain ⟨v, _, hv⟩ := List.mem_flatMap.1 hx
  exact idb_by v x hv
theorem By.append {l m : List Int} (hl : By l) (hm : By m) : By (l ++ m) := fun x hx => by
  rcases List.mem_append.1 hx with h | h
  · exact hl x h
  · exact hm x h
theorem picForm_by (ids : List Int) (L : Int) (lit : List Bool) : By (picForm ids L lit) := by
  unfold picForm
  exact ((((show By [80, 73, 67, 84] from fun x hx => by simp at hx; omega).append (le_by _ _)).append (le_by _ _)).append (flat_by _)).append (packAll_by _)
theorem picForm_length (ids : List Int) (L : Int) (lit : List Bool) : (picForm ids L lit).length = 7 + 4 * ids.length + (lit.length + 7) / 8 := by
  unfold picForm
  simp only [List.length_append, le_length, flat_length, packAll_length, List.length_cons, List.length_nil]
structure VP (ids : List Int) (L : Int) (lit : List Bool) : Prop where
  n : ids.length ≤ 40
  l0 : 0 ≤ L
  l1 : L ≤ 4
  c : (lit.length : Int) = ids.length * L
  i : ∀ v ∈ ids, -1 ≤ v ∧ v < 40
instance (ids : List Int) (L : Int) (lit : List Bool) : Decidable (VP ids L lit) :=
  decidable_of_iff (ids.length ≤ 40 ∧ 0 ≤ L ∧ L ≤ 4 ∧ (lit.length : Int) = ids.length * L ∧ ∀ v ∈ ids, -1 ≤ v ∧ v < 40) ⟨fun ⟨a, b, c, d, e⟩ => ⟨a, b, c, d, e⟩, fun ⟨a, b, c, d, e⟩ => ⟨a, b, c, d, e⟩⟩
theorem VP.lit {ids : List Int} {L : Int} {lit : List Bool} (h : VP ids L lit) : lit.length ≤ 160 := by
  have h1 := h.c
  have h2 : (ids.length : Int) * L ≤ 40 * 4 := Int.mul_le_mul (by have := h.n; omega) h.l1 h.l0 (by omega)
  omega

/-! ### the reference's picture -/
theorem little_l0 (n : Nat) (hn : n ≤ 8) : ∀ (d : Nat) (v : Int) (out : List Int) (i : Nat), i + d = n → 0 ≤ v → v ≤ 9223372036854775807 → out.length = i → Ev (fun k => spec_l6little.l0 k v (n : Int) out (i : Int)) (out ++ le v d)
  | 0, v, out, i, h, h0, h1, ho => ⟨1, fun k hk => by
    obtain ⟨k, rfl⟩ : ∃ m, k = m + 1 := ⟨k - 1, by omega⟩
    simp only [spec_l6little.l0]
    rw [if_neg (by omega)]
    simp [le]⟩
  | d + 1, v, out, i, h, h0, h1, ho => by
    have ih := little_l0 n hn d (v / 256) (out ++ [v % 256]) (i + 1) (by omega) (by omega) (by omega) (by simp [ho])
    rw [List.append_assoc, List.singleton_append] at ih
    refine Ev.step (fun k => ?_) ih
    simp only [spec_l6little.l0]
    rw [if_pos (by omega), if_pos (by omega), Int.tdiv_eq_ediv_of_nonneg h0, Int.tmod_eq_emod_of_nonneg h0, w64 (by omega) (by omega), w64 (by omega) (by omega), show v % 256 % 256 = v % 256 from by omega]
    rfl
theorem little_ev (v : Int) (n : Nat) (hn : n ≤ 8) (h0 : 0 ≤ v) (h1 : v ≤ 9223372036854775807) : Ev (fun k => spec_l6little.f k v (n : Int)) (le v n) := by
  have := little_l0 n hn n v [] 0 (by omega) h0 h1 rfl
  exact this
theorem pic_byte (ids : List Int) (L : Int) (lit : List Bool) (hlit : lit.length ≤ 1000000) (acc : List Int) (hacc : acc.length ≤ 10000000) (j : Nat) (hj : j ≤ 1000000) {r : List Int}
    (h : Ev (fun k => spec_l6picture.l1 k (acc ++ [pkb fun k => lit.getD (j + k) false]) (((j + 8 : Nat)) : Int) ids L lit) r) : Ev (fun k => spec_l6picture.l2 k acc (j : Int) 0 7 ids L lit) r := by
  have hx : ∀ k, 0 ≤ bI (lit.getD (j + k) false) ∧ bI (lit.getD (j + k) false) ≤ 1 := fun k => bI_le _
  have s : ∀ (m : Nat) (z z' v : Int), m ≤ 7 → z = m → z' = (m : Int) - 1 → 0 ≤ v → v ≤ 1000 → Ev (fun k => spec_l6picture.l2 k acc (j : Int) (2 * v + bI (lit.getD (j + m) false)) z' ids L lit) r → Ev (fun k => spec_l6picture.l2 k acc (j : Int) v z ids L lit) r := by
    intro m z z' v hm hz hz' h0 h1 hh
    subst hz
    subst hz'
    refine Ev.step (fun k => ?_) hh
    simp only [spec_l6picture.l2]
    rw [if_pos (by omega), w64 (x := (j : Int) + m) (by omega) (by omega), w64 (x := v * 2) (by omega) (by omega), w64 (x := v * 2 + 1) (by omega) (by omega), w64 (x := (m : Int) - 1) (by omega) (by omega)]
    by_cases hlt : j + m < lit.length
    · rw [if_pos (by omega), if_pos (by omega)]
      have hr : rdOf false lit ((j : Int) + m) = lit.getD (j + m) false := by
        unfold rdOf
        rw [show ((j : Int) + m).toNat = j + m from by omega]
      rw [hr]
      cases hc : lit.getD (j + m) false with
      | true => rw [if_pos rfl, show v * 2 + 1 = 2 * v + bI true from by simp only [bI, if_true]; omega]
      | false => rw [if_neg (by simp), show v * 2 = 2 * v + bI false from by simp only [bI, Bool.false_eq_true, if_false]; omega]
    · rw [if_neg (by omega)]
      have hr : lit.getD (j + m) false = false := by rw [List.getD_eq_getElem?_getD, List.getElem?_eq_none (by omega)]; rfl
      rw [hr, show v * 2 = 2 * v + bI false from by simp only [bI, Bool.false_eq_true, if_false]; omega]
  have h0 := hx 0; have h1 := hx 1; have h2 := hx 2; have h3 := hx 3; have h4 := hx 4; have h5 := hx 5; have h6 := hx 6; have h7 := hx 7
  refine s 7 7 6 0 (by omega) rfl rfl (by omega) (by omega) ?_
  refine s 6 6 5 _ (by omega) rfl rfl (by omega) (by omega) ?_
  refine s 5 5 4 _ (by omega) rfl rfl (by omega) (by omega) ?_
  refine s 4 4 3 _ (by omega) rfl rfl (by omega) (by omega) ?_
  refine s 3 3 2 _ (by omega) rfl rfl (by omega) (by omega) ?_
  refine s 2 2 1 _ (by omega) rfl rfl (by omega) (by omega) ?_
  refine s 1 1 0 _ (by omega) rfl rfl (by omega) (by omega) ?_
  refine s 0 0 (-1) _ (by omega) rfl rfl (by omega) (by omega) ?_
  refine Ev.step (fun k => ?_) h
  simp only [spec_l6picture.l2]
  rw [if_neg (by omega), if_pos (by omega), w64 (x := (j : Int) + 8) (by omega) (by omega)]
  have e : (2 * (2 * (2 * (2 * (2 * (2 * (2 * (2 * 0 + bI (lit.getD (j + 7) false)) + bI (lit.getD (j + 6) false)) + bI (lit.getD (j + 5) false)) + bI (lit.getD (j + 4) false)) + bI (lit.getD (j + 3) false)) + bI (lit.getD (j + 2) false)) + bI (lit.getD (j + 1) false)) + bI (lit.getD (j + 0) false)) % 256 = pkb fun k => lit.getD (j + k) false := by
    simp only [pkb]
    omega
  rw [e]
  rfl
theorem pack_drop (lit : List Bool) (i : Nat) (h : i < (lit.length + 7) / 8) : (packAll lit).drop i = (pkb fun k => lit.getD (8 * i + k) false) :: (packAll lit).drop (i + 1) := by
  have hi : i < (packAll lit).length := by rw [packAll_length]; exact h
  rw [List.drop_eq_getElem_cons hi]
  simp [packAll]
theorem pic_l1 (ids : List Int) (L : Int) (lit : List Bool) (hlit : lit.length ≤ 1000000) : ∀ (d i : Nat) (acc : List Int), i + d = (lit.length + 7) / 8 → acc.length ≤ 1000000 + i →
    Ev (fun k => spec_l6picture.l1 k acc ((8 * i : Nat) : Int) ids L lit) (acc ++ (packAll lit).drop i)
  | 0, i, acc, h, ha => ⟨1, fun k hk => by
    obtain ⟨k, rfl⟩ : ∃ m, k = m + 1 := ⟨k - 1, by omega⟩
    simp only [spec_l6picture.l1]
    rw [if_neg (by omega), List.drop_eq_nil_of_le (by rw [packAll_length]; omega), List.append_nil]⟩
  | d + 1, i, acc, h, ha => by
    have ih := pic_l1 ids L lit hlit d (i + 1) (acc ++ [pkb fun k => lit.getD (8 * i + k) false]) (by omega) (by simp; omega)
    rw [List.append_assoc, List.singleton_append, ← pack_drop lit i (by omega), show 8 * (i + 1) = 8 * i + 8 from by omega] at ih
    refine Ev.step (fun k => ?_) (pic_byte ids L lit hlit acc (by omega) (8 * i) (by omega) ih)
    simp only [spec_l6picture.l1]
    rw [if_pos (by omega)]
theorem pic_l0 (ids : List Int) (hids : ids.length ≤ 100000) (hv : ∀ v ∈ ids, v ≤ 9223372036854775807) (L : Int) (lit : List Bool) (hlit : lit.length ≤ 1000000) : ∀ (d i : Nat) (acc : List Int), i + d = ids.length → acc.length ≤ 100 + 4 * i →
    Ev (fun k => spec_l6picture.l0 k acc (i : Int) ids L lit) (acc ++ (ids.drop i).flatMap idb ++ packAll lit)
  | 0, i, acc, h, ha => by
    have h1 := pic_l1 ids L lit hlit ((lit.length + 7) / 8) 0 acc (by omega) (by omega)
    rw [List.drop_zero] at h1
    rw [List.drop_eq_nil_of_le (by omega), List.flatMap_nil, List.append_nil]
    refine Ev.step (fun k => ?_) h1
    simp only [spec_l6picture.l0]
    rw [if_neg (by omega)]
    rfl
  | d + 1, i, acc, h, ha => by
    have hi : i < ids.length := by omega
    have ih := pic_l0 ids hids hv L lit hlit d (i + 1) (acc ++ idb ids[i]) (by omega) (by rw [List.length_append, idb_length]; omega)
    rw [List.drop_eq_getElem_cons hi, List.flatMap_cons, ← List.append_assoc]
    have hr : rd ids (i : Int) = ids[i] := by rw [rd_nat, List.getD_eq_getElem?_getD, List.getElem?_eq_getElem hi]; rfl
    have hm := hv _ (List.getElem_mem hi)
    by_cases hn : ids[i] < 0
    · have e : idb ids[i] = [255, 255, 255, 255] := by unfold idb; rw [if_pos hn]
      rw [e] at ih ⊢
      refine Ev.step (fun k => ?_) ih
      simp only [spec_l6picture.l0]
      rw [if_pos (by omega), if_pos (by omega), hr, if_pos hn, w64 (x := (i : Int) + 1) (by omega) (by omega)]
      simp only [Option.bind_some]
      rw [if_pos (by simp; omega)]
      rfl
    · have e : idb ids[i] = le ids[i] 4 := by unfold idb; rw [if_neg hn]
      rw [e] at ih ⊢
      have h2 : Ev (fun k => (spec_l6little.f k ids[i] 4).bind fun t149 => (if acc.length + t149.length < 140737488355328 then (spec_l6picture.l0 k (acc ++ t149) (wrap64 ((i : Int) + 1)) ids L lit) else (none))) (acc ++ le ids[i] 4 ++ List.flatMap idb (List.drop (i + 1) ids) ++ packAll lit) := by
        refine Ev.bind (little_ev ids[i] 4 (by omega) (by omega) hm) ?_
        refine Ev.congr (fun k => ?_) ih
        rw [if_pos (by rw [le_length]; omega), w64 (x := (i : Int) + 1) (by omega) (by omega)]
        rfl
      refine Ev.step (fun k => ?_) h2
      simp only [spec_l6picture.l0]
      rw [if_pos (by omega), if_pos (by omega), hr, if_neg hn]
theorem picture_ev (ids : List Int) (L : Int) (lit : List Bool) (h : VP ids L lit) : Ev (fun k => spec_l6picture.f k ids L lit) (picForm ids L lit) := by
  have hl := h.lit
  have hn := h.n
  have h0 := h.l0
  have h1 := h.l1
  have hp := pic_l0 ids (by omega) (fun v hv => by have := h.i v hv; omega) L lit (by omega) ids.length 0 ([80, 73, 67, 84] ++ le ids.length 2 ++ le L 1) (by omega) (by simp [le_length])
  rw [List.drop_zero] at hp
  unfold spec_l6picture.f
  simp only [Option.bind_some]
  refine Ev.bind (little_ev (ids.length : Int) 2 (by omega) (by omega) (by omega)) ?_
  simp only [le_length]
  refine Ev.congr (fun k => if_pos (by simp)) ?_
  refine Ev.bind (little_ev L 1 (by omega) (by omega) (by omega)) ?_
  simp only [le_length, List.length_append]
  refine Ev.congr (fun k => if_pos (by simp)) ?_
  exact hp
theorem specvalid_l0 (ids : List Int) (hl : ids.length ≤ 40) (L : Int) (lit : List Bool) : ∀ (d i : Nat), i + d = ids.length → (∀ j, j < i → -1 ≤ ids.getD j 0 ∧ ids.getD j 0 < 40) →
    Ev (fun k => spec_l6validPicture.l0 k (i : Int) ids L lit) (decide (∀ v ∈ ids, -1 ≤ v ∧ v < 40))
  | 0, i, h, hp => ⟨1, fun k hk => by
    obtain ⟨k, rfl⟩ : ∃ m, k = m + 1 := ⟨k - 1, by omega⟩
    simp only [spec_l6validPicture.l0]
    rw [if_neg (by omega), decide_eq_true]
    intro v hv
    obtain ⟨j, hj, rfl⟩ := List.mem_iff_getElem.1 hv
    have := hp j (by omega)
    rwa [List.getD_eq_getElem?_getD, List.getElem?_eq_getElem hj] at this⟩
  | d + 1, i, h, hp => by
    have hi : i < ids.length := by omega
    by_cases hc : -1 ≤ ids.getD i 0 ∧ ids.getD i 0 < 40
    · have ih := specvalid_l0 ids hl L lit d (i + 1) (by omega) (fun j hj => (Nat.lt_or_ge j i).elim (hp j) (fun g => (show i = j by omega) ▸ hc))
      refine Ev.step (fun k => ?_) ih
      simp only [spec_l6validPicture.l0]
      rw [if_pos (by omega), if_pos (by omega), rd_nat, if_neg (by omega), if_neg (by omega), w64 (by omega) (by omega)]
      rfl
    · refine ⟨1, fun k hk => ?_⟩
      obtain ⟨k, rfl⟩ : ∃ m, k = m + 1 := ⟨k - 1, by omega⟩
      have hf : decide (∀ v ∈ ids, -1 ≤ v ∧ v < 40) = false := by
        refine decide_eq_false fun h2 => hc ?_
        rw [List.getD_eq_getElem?_getD, List.getElem?_eq_getElem hi]
        exact h2 _ (List.getElem_mem hi)
      rw [hf]
      simp only [spec_l6validPicture.l0]
      rw [if_pos (by omega), if_pos (by omega), rd_nat]
      by_cases g : ids.getD i 0 < -1
      · rw [if_pos g]
      · rw [if_neg g, if_pos (by omega)]
theorem vp_false {ids : List Int} {L : Int} {lit : List Bool} (h : ¬ VP ids L lit) : decide (VP ids L lit) = false := decide_eq_false h
theorem specvalid_ev (ids : List Int) (L : Int) (lit : List Bool) (hlit : lit.length ≤ 9223372036854775807) : Ev (fun k => spec_l6validPicture.f k ids L lit) (decide (VP ids L lit)) := by
  have hj : ∀ b : Bool, b = true → Ev (fun k => spec_l6validPicture.j0 k b ids L lit) false := fun b hb => ⟨1, fun k hk => by
    obtain ⟨k, rfl⟩ : ∃ m, k = m + 1 := ⟨k - 1, by omega⟩
    simp only [spec_l6validPicture.j0]
    rw [if_pos hb]⟩
  unfold spec_l6validPicture.f
  by_cases h1 : (ids.length : Int) > 40
  · rw [vp_false (fun h => by have := h.n; omega)]
    exact Ev.congr (fun k => if_pos h1) (hj true rfl)
  refine Ev.congr (fun k => if_neg h1) ?_
  by_cases h2 : L < 0
  · rw [vp_false (fun h => by have := h.l0; omega)]
    exact Ev.congr (fun k => if_pos h2) (hj true rfl)
  refine Ev.congr (fun k => if_neg h2) ?_
  by_cases h3 : L > 4
  · rw [vp_false (fun h => by have := h.l1; omega)]
    exact Ev.congr (fun k => if_pos h3) (hj true rfl)
  refine Ev.congr (fun k => if_neg h3) ?_
  have hm : 0 ≤ (ids.length : Int) * L ∧ (ids.length : Int) * L ≤ 40 * 4 := ⟨Int.mul_nonneg (by omega) (by omega), Int.mul_le_mul (by omega) (by omega) (by omega) (by omega)⟩
  rw [w64 (x := (ids.length : Int) * L) (by omega) (by omega)]
  by_cases h4 : (lit.length : Int) = ids.length * L
  · rw [bne_eq_false_iff_eq.2 h4]
    have ih := specvalid_l0 ids (by omega) L lit ids.length 0 (by omega) (fun j hj => by omega)
    have e : decide (VP ids L lit) = decide (∀ v ∈ ids, -1 ≤ v ∧ v < 40) := decide_eq_decide.2 ⟨fun h => h.i, fun h => ⟨by omega, by omega, by omega, h4, h⟩⟩
    rw [e]
    refine Ev.step (fun k => ?_) ih
    simp only [spec_l6validPicture.j0]
    rw [if_neg (by simp)]
    rfl
  · rw [vp_false (fun h => h4 h.c)]
    exact hj _ (bne_iff_ne.2 h4)

/-! ### the program's picture -/
theorem implvalid_l0 (ids : List Int) (hl : ids.length ≤ 40) : ∀ (d i : Nat), i + d = ids.length → (∀ j, j < i → -1 ≤ ids.getD j 0 ∧ ids.getD j 0 < 40) →
    Ev (fun k => impl_validPicture.l0 k ids (ids.length : Int) (i : Int)) (decide (∀ v ∈ ids, -1 ≤ v ∧ v < 40))
  | 0, i, h, hp => ⟨1, fun k hk => by
    obtain ⟨k, rfl⟩ : ∃ m, k = m + 1 := ⟨k - 1, by omega⟩
    simp only [impl_validPicture.l0]
    rw [if_neg (by omega), decide_eq_true]
    intro v hv
    obtain ⟨j, hj, rfl⟩ := List.mem_iff_getElem.1 hv
    have := hp j (by omega)
    rwa [List.getD_eq_getElem?_getD, List.getElem?_eq_getElem hj] at this⟩
  | d + 1, i, h, hp => by
    have hi : i < ids.length := by omega
    by_cases hc : -1 ≤ ids.getD i 0 ∧ ids.getD i 0 < 40
    · have ih := implvalid_l0 ids hl d (i + 1) (by omega) (fun j hj => (Nat.lt_or_ge j i).elim (hp j) (fun g => (show i = j by omega) ▸ hc))
      refine Ev.step (fun k => ?_) ih
      simp only [impl_validPicture.l0]
      rw [if_pos (by omega), if_pos (by omega), if_pos (by omega), rd_nat, if_neg (by omega), if_neg (by omega), w64 (by omega) (by omega)]
      rfl
    · refine ⟨1, fun k hk => ?_⟩
      obtain ⟨k, rfl⟩ : ∃ m, k = m + 1 := ⟨k - 1, by omega⟩
      have hf : decide (∀ v ∈ ids, -1 ≤ v ∧ v < 40) = false := by
        refine decide_eq_false fun h2 => hc ?_
        rw [List.getD_eq_getElem?_getD, List.getElem?_eq_getElem hi]
        exact h2 _ (List.getElem_mem hi)
      rw [hf]
      simp only [impl_validPicture.l0]
      rw [if_pos (by omega), if_pos (by omega), if_pos (by omega), rd_nat]
      by_cases g : ids.getD i 0 < -1
      · rw [if_pos g]
      · rw [if_neg g, if_pos (by omega)]
theorem implvalid_ev (ids : List Int) (L : Int) (lit : List Bool) (hlit : lit.length ≤ 9223372036854775807) : Ev (fun k => impl_validPicture.f k ids L lit) (decide (VP ids L lit)) := by
  have hj : ∀ b : Bool, b = true → Ev (fun k => impl_validPicture.j0 k b ids L lit) false := fun b hb => ⟨1, fun k hk => by
    obtain ⟨k, rfl⟩ : ∃ m, k = m + 1 := ⟨k - 1, by omega⟩
    simp only [impl_validPicture.j0]
    rw [if_pos hb]⟩
  unfold impl_validPicture.f
  by_cases h1 : (ids.length : Int) > 40
  · rw [vp_false (fun h => by have := h.n; omega)]
    exact Ev.congr (fun k => if_pos h1) (hj true rfl)
  refine Ev.congr (fun k => if_neg h1) ?_
  by_cases h2 : L < 0
  · rw [vp_false (fun h => by have := h.l0; omega)]
    exact Ev.congr (fun k => if_pos h2) (hj true rfl)
  refine Ev.congr (fun k => if_neg h2) ?_
  by_cases h3 : L > 4
  · rw [vp_false (fun h => by have := h.l1; omega)]
    exact Ev.congr (fun k => if_pos h3) (hj true rfl)
  refine Ev.congr (fun k => if_neg h3) ?_
  have hm : 0 ≤ (ids.length : Int) * L ∧ (ids.length : Int) * L ≤ 40 * 4 := ⟨Int.mul_nonneg (by omega) (by omega), Int.mul_le_mul (by omega) (by omega) (by omega) (by omega)⟩
  rw [w64 (x := (ids.length : Int) * L) (by omega) (by omega)]
  by_cases h4 : (lit.length : Int) = ids.length * L
  · rw [bne_eq_false_iff_eq.2 h4]
    have ih := implvalid_l0 ids (by omega) ids.length 0 (by omega) (fun j hj => by omega)
    have e : decide (VP ids L lit) = decide (∀ v ∈ ids, -1 ≤ v ∧ v < 40) := decide_eq_decide.2 ⟨fun h => h.i, fun h => ⟨by omega, by omega, by omega, h4, h⟩⟩
    rw [e]
    refine Ev.step (fun k => ?_) ih
    simp only [impl_validPicture.j0]
    rw [if_neg (by simp)]
    rfl
  · rw [vp_false (fun h => h4 h.c)]
    exact hj _ (bne_iff_ne.2 h4)

/-! ### DecodePicture -/
theorem num_l0_step {b : List Int} (hb : By b) (hl : b.length ≤ 2000000) (a i : Nat) (hi : i ≤ 3) (x : Nat) (hx : x < 2 ^ (8 * i)) (ha : a + i < b.length) {r : Int × Int}
    (h : Ev (fun k => impl_bytesIn_num.l0 k 4 (((x + (gB b (a + i)).toNat * 2 ^ (8 * i) : Nat)) : Int) 4 (((i + 1 : Nat)) : Int) b (a : Int)) r) : Ev (fun k => impl_bytesIn_num.l0 k 4 (x : Int) 4 (i : Int) b (a : Int)) r := by
  have hg := gB_by hb (a + i)
  obtain ⟨y, hy⟩ : ∃ y : Nat, gB b (a + i) = (y : Int) := ⟨(gB b (a + i)).toNat, by omega⟩
  rw [hy, Int.toNat_natCast] at h
  have hp : 2 ^ (8 * i) ≤ 16777216 := by
    have : 2 ^ (8 * i) ≤ 2 ^ 24 := Nat.pow_le_pow_right (by omega) (by omega)
    have e : (2 : Nat) ^ 24 = 16777216 := by decide
    omega
  have hyp : y * 2 ^ (8 * i) ≤ 255 * 16777216 := Nat.mul_le_mul (by omega) hp
  have hyx : x + y * 2 ^ (8 * i) < 4294967296 := by
    have h1 : y * 2 ^ (8 * i) ≤ 255 * 2 ^ (8 * i) := Nat.mul_le_mul_right _ (by omega)
    omega
  have hs : shl .u32 (gB b (a + i) % 4294967296) (wrap64 (8 * (i : Int))) = ((y * 2 ^ (8 * i) : Nat) : Int) := by
    rw [w64 (by omega) (by omega), show (8 : Int) * (i : Int) = ((8 * i : Nat) : Int) from by omega, shl_eq _ _ _ (by show 8 * i ≤ 32; omega), hy]
    have : ∀ q : Int, IntKind.u32.wrap q = q % 4294967296 := fun q => by simp [IntKind.wrap, IntKind.bits, IntKind.signed]
    rw [this, show ((y : Int) % 4294967296) = (y : Int) from by omega, show (y : Int) * 2 ^ (8 * i) = ((y * 2 ^ (8 * i) : Nat) : Int) from by simp]
    omega
  refine Ev.step (fun k => ?_) h
  simp only [impl_bytesIn_num.l0]
  rw [if_pos (by omega), w64 (x := (a : Int) + i) (by omega) (by omega), if_pos (by omega), if_pos (by omega), rd_gB b (a + i) (by omega), hs, or_add (n := 32) (Or.inl ⟨rfl, rfl⟩) x y (8 * i) hx hyx rfl, w64 (x := 8 * (i : Int)) (by omega) (by omega), if_pos (by omega), w64 (x := (i : Int) + 1) (by omega) (by omega)]
  rfl
theorem inum_ev {b : List Int} (hb : By b) (hl : b.length ≤ 2000000) (a : Nat) (z : Int) (hz : z = (a : Int)) (h : a + 4 ≤ b.length) : Ev (fun k => impl_bytesIn_num.f k b z 4) (u4 b a, ((a + 4 : Nat) : Int)) := by
  subst hz
  have h0 := gB_by hb (a + 0)
  have h1 := gB_by hb (a + 1)
  have h2 := gB_by hb (a + 2)
  have h3 := gB_by hb (a + 3)
  have e0 : gB b (a + 0) = gB b a := rfl
  obtain ⟨y0, hy0⟩ : ∃ y : Nat, (gB b (a + 0)).toNat = y := ⟨_, rfl⟩
  obtain ⟨y1, hy1⟩ : ∃ y : Nat, (gB b (a + 1)).toNat = y := ⟨_, rfl⟩
  obtain ⟨y2, hy2⟩ : ∃ y : Nat, (gB b (a + 2)).toNat = y := ⟨_, rfl⟩
  obtain ⟨y3, hy3⟩ : ∃ y : Nat, (gB b (a + 3)).toNat = y := ⟨_, rfl⟩
  have hend : Ev (fun k => impl_bytesIn_num.l0 k 4 (u4 b a) 4 4 b (a : Int)) (u4 b a, ((a + 4 : Nat) : Int)) := ⟨1, fun k hk => by
    obtain ⟨k, rfl⟩ : ∃ m, k = m + 1 := ⟨k - 1, by omega⟩
    simp only [impl_bytesIn_num.l0]
    rw [if_neg (by omega), w64 (by omega) (by omega)]
    rfl⟩
  have p : (2 : Nat) ^ (8 * 0) = 1 ∧ (2 : Nat) ^ (8 * 1) = 256 ∧ (2 : Nat) ^ (8 * 2) = 65536 ∧ (2 : Nat) ^ (8 * 3) = 16777216 := by decide
  obtain ⟨p0, p1, p2, p3⟩ := p
  have hj : Ev (fun k => impl_bytesIn_num.l0 k 4 ((0 : Nat) : Int) 4 ((0 : Nat) : Int) b (a : Int)) (u4 b a, ((a + 4 : Nat) : Int)) := by
    refine num_l0_step hb hl a 0 (by omega) 0 (by omega) (by omega) ?_
    rw [hy0]
    refine num_l0_step hb hl a 1 (by omega) _ (by rw [p0, p1]; omega) (by omega) ?_
    rw [hy1]
    refine num_l0_step hb hl a 2 (by omega) _ (by rw [p0, p1, p2]; omega) (by omega) ?_
    rw [hy2]
    refine num_l0_step hb hl a 3 (by omega) _ (by rw [p0, p1, p2, p3]; omega) (by omega) ?_
    rw [hy3]
    refine Ev.congr (fun k => ?_) hend
    congr 1
    · rw [p0, p1, p2, p3]; unfold u4; omega
  have hj1 : Ev (fun k => impl_bytesIn_num.j0 k 4 b (a : Int)) (u4 b a, ((a + 4 : Nat) : Int)) := by
    refine Ev.step (fun k => ?_) hj
    simp only [impl_bytesIn_num.j0]
    rfl
  refine Ev.congr (fun k => ?_) hj1
  unfold impl_bytesIn_num.f
  rw [w64 (x := (a : Int) + 4) (by omega) (by omega), if_neg (by omega)]
theorem gB_drop (b : List Int) (m i : Nat) : gB (b.drop m) i = gB b (m + i) := by
  unfold gB
  rw [List.getD_eq_getElem?_getD, List.getD_eq_getElem?_getD, List.getElem?_drop]
theorem band1_8 (x : Nat) (hx : x < 256) : Go.bits .and .u8 ((x : Nat) : Int) 1 = ((x % 2 : Nat) : Int) := by
  show IntKind.u8.wrap (((BitVec.ofInt 8 ((x : Nat) : Int) &&& BitVec.ofInt 8 ((1 : Nat) : Int)).toNat : Nat) : Int) = _
  rw [BitVec.toNat_and, BitVec.ofInt_natCast, BitVec.ofInt_natCast, BitVec.toNat_ofNat, BitVec.toNat_ofNat, Nat.mod_eq_of_lt (a := x) (by omega), Nat.mod_eq_of_lt (a := 1) (by omega), Nat.and_one_is_mod]
  have : ∀ q : Int, IntKind.u8.wrap q = q % 256 := fun q => by simp [IntKind.wrap, IntKind.bits, IntKind.signed]
  rw [this]
  omega
theorem impl_bit {v : Int} (hv : 0 ≤ v ∧ v < 256) (i : Nat) : Go.bits .and .u8 (shr .u8 v (Int.tmod ((i : Nat) : Int) 8)) 1 = v / 2 ^ (i % 8) % 2 := by
  rw [show (8 : Int) = ((8 : Nat) : Int) from rfl, tmn, shr_eq _ _ _ (by show i % 8 ≤ 8; omega)]
  obtain ⟨x, rfl⟩ := Int.eq_ofNat_of_zero_le hv.1
  have e : (x : Int) / 2 ^ (i % 8) = ((x / 2 ^ (i % 8) : Nat) : Int) := by simp
  rw [e, band1_8 _ (Nat.lt_of_le_of_lt (Nat.div_le_self _ _) (by omega))]
  omega
theorem spec_bit {v : Int} (hv : 0 ≤ v ∧ v < 256) (i : Nat) : Int.tmod (shr .i64 v (IntKind.u64.wrap (Int.tmod ((i : Nat) : Int) 8))) 2 = v / 2 ^ (i % 8) % 2 := by
  have hw : ∀ q : Int, IntKind.u64.wrap q = q % 18446744073709551616 := fun q => by simp [IntKind.wrap, IntKind.bits, IntKind.signed]
  rw [show (8 : Int) = ((8 : Nat) : Int) from rfl, tmn, hw, show ((i % 8 : Nat) : Int) % 18446744073709551616 = ((i % 8 : Nat) : Int) from by omega, shr_eq _ _ _ (by show i % 8 ≤ 64; omega)]
  obtain ⟨x, rfl⟩ := Int.eq_ofNat_of_zero_le hv.1
  have e : (x : Int) / 2 ^ (i % 8) = ((x / 2 ^ (i % 8) : Nat) : Int) := by simp
  rw [e, show (2 : Int) = ((2 : Nat) : Int) from rfl, tmn]
  rfl
def sId (b : List Int) (i : Nat) : Int := if u4 b (7 + 4 * i) = 4294967295 then -1 else u4 b (7 + 4 * i)
def iId (b : List Int) (i : Nat) : Int := wrap64 (wrap32 (u4 b (7 + 4 * i)))
theorem iId_eq {b : List Int} (hb : By b) (i : Nat) : iId b i = if u4 b (7 + 4 * i) < 2147483648 then u4 b (7 + 4 * i) else u4 b (7 + 4 * i) - 4294967296 := by
  have := u4_lt hb (7 + 4 * i)
  unfold iId
  rw [w64 (by unfold wrap32; omega) (by unfold wrap32; omega)]
  unfold wrap32
  split <;> omega
theorem id_ok {b : List Int} (hb : By b) (i : Nat) : (-1 ≤ sId b i ∧ sId b i < 40 ∨ -1 ≤ iId b i ∧ iId b i < 40) → sId b i = iId b i := by
  have := u4_lt hb (7 + 4 * i)
  rw [iId_eq hb]
  unfold sId
  split <;> split <;> omega
def lits (b : List Int) (n m : Nat) : List Bool := (List.range m).map (bitAt (b.drop (7 + 4 * n)))
def ids (f : Nat → Int) (n : Nat) : List Int := (List.range n).map f
theorem ids_succ (f : Nat → Int) (n : Nat) : ids f (n + 1) = ids f n ++ [f n] := by simp [ids, List.range_succ]
theorem lits_succ (b : List Int) (n m : Nat) : lits b n (m + 1) = lits b n m ++ [bitAt (b.drop (7 + 4 * n)) m] := by simp [lits, List.range_succ]
theorem ids_length (f : Nat → Int) (n : Nat) : (ids f n).length = n := by simp [ids]
theorem lits_length (b : List Int) (n m : Nat) : (lits b n m).length = m := by simp [lits]
def badP : List Int × Int × List Bool × Int := ([], 0, [], 1)
/-- One of two answers: which, a condition says. -/
def Alt {α : Type} (P : Prop) (g : Nat → Option α) (x y : α) : Prop := (P → Ev g x) ∧ (¬ P → Ev g y)
theorem Alt.iff {α : Type} {P Q : Prop} {g : Nat → Option α} {x y : α} (h : P ↔ Q) (k : Alt P g x y) : Alt Q g x y := ⟨fun q => k.1 (h.2 q), fun q => k.2 (fun p => q (h.1 p))⟩
theorem Alt.step {α : Type} {P : Prop} {g f : Nat → Option α} {x y : α} (h : ∀ k, g (k + 1) = f k) (k : Alt P f x y) : Alt P g x y := ⟨fun p => Ev.step h (k.1 p), fun p => Ev.step h (k.2 p)⟩
theorem Alt.congr {α : Type} {P : Prop} {g f : Nat → Option α} {x y : α} (h : ∀ k, g k = f k) (k : Alt P f x y) : Alt P g x y := ⟨fun p => Ev.congr h (k.1 p), fun p => Ev.congr h (k.2 p)⟩
theorem Alt.not {α : Type} {P : Prop} {g : Nat → Option α} {x y : α} (h : ¬ P) (k : Ev g y) : Alt P g x y := ⟨fun p => absurd p h, fun _ => k⟩
theorem Alt.yes {α : Type} {P : Prop} {g : Nat → Option α} {x y : α} (h : P) (k : Ev g x) : Alt P g x y := ⟨fun _ => k, fun p => absurd h p⟩
theorem Alt.bind {α β : Type} {P : Prop} {g : Nat → Option β} {f : Nat → β → Option α} {a : β} {x y : α} (h : Ev g a) (k : Alt P (fun n => f n a) x y) : Alt P (fun n => (g n).bind (f n)) x y := ⟨fun p => Ev.bind h (k.1 p), fun p => Ev.bind h (k.2 p)⟩
theorem Alt.same {α : Type} {P : Prop} {g f : Nat → Option α} {x y : α} (h : ∀ r, Ev g r → Ev f r) (k : Alt P g x y) : Alt P f x y := ⟨fun p => h _ (k.1 p), fun p => h _ (k.2 p)⟩
/-! #### the program's side -/
def Pad (b : List Int) (n i : Nat) : Prop := ∀ j, i ≤ j → j < 8 * (b.drop (7 + 4 * n)).length → bitAt (b.drop (7 + 4 * n)) j = false
def iRes (b : List Int) (n l m : Nat) : List Int × Int × List Bool × Int := (ids (iId b) n, (l : Int), lits b n m, 0)
theorem idec_l1b {b : List Int} (hb : By b) (hl : b.length ≤ 1048576) (n l m : Nat) (hm : m ≤ 1000) : ∀ (d i : Nat), i + d = 8 * (b.drop (7 + 4 * n)).length → m ≤ i →
    Alt (Pad b n i ∧ VP (ids (iId b) n) l (lits b n m)) (fun k => impl_DecodePicture.l1 k (m : Int) (b.drop (7 + 4 * n)) (((8 * (b.drop (7 + 4 * n)).length : Nat)) : Int) (i : Int) (ids (iId b) n) (l : Int) (lits b n m)) (iRes b n l m) badP
  | 0, i, h, hi => by
    have hp : Pad b n i := fun j h1 h2 => by omega
    have hv := implvalid_ev (ids (iId b) n) l (lits b n m) (by rw [lits_length]; omega)
    refine Alt.step (f := fun k => (impl_validPicture.f k (ids (iId b) n) l (lits b n m)).bind fun t201 => (if t201 = true then (some (ids (iId b) n, (l : Int), lits b n m, (0 : Int))) else (some badP))) (fun k => ?_) ?_
    · simp only [impl_DecodePicture.l1]
      rw [if_neg (by omega)]
      rfl
    · refine Alt.bind hv ?_
      by_cases hc : VP (ids (iId b) n) l (lits b n m)
      · rw [decide_eq_true hc]
        exact Alt.yes ⟨hp, hc⟩ (ev_const rfl)
      · rw [decide_eq_false hc]
        exact Alt.not (fun h => hc h.2) (ev_const rfl)
  | d + 1, i, h, hi => by
    have hlen : (b.drop (7 + 4 * n)).length ≤ b.length := by simp
    have hg := gB_by (b := b.drop (7 + 4 * n)) (fun x hx => hb x (List.mem_of_mem_drop hx)) (i / 8)
    have hcond : ∀ k, impl_DecodePicture.l1 (k + 1) (m : Int) (b.drop (7 + 4 * n)) (((8 * (b.drop (7 + 4 * n)).length : Nat)) : Int) (i : Int) (ids (iId b) n) (l : Int) (lits b n m) = if gB (b.drop (7 + 4 * n)) (i / 8) / 2 ^ (i % 8) % 2 = 1 then some badP else impl_DecodePicture.l1 k (m : Int) (b.drop (7 + 4 * n)) (((8 * (b.drop (7 + 4 * n)).length : Nat)) : Int) (((i + 1 : Nat)) : Int) (ids (iId b) n) (l : Int) (lits b n m) := by
      intro k
      simp only [impl_DecodePicture.l1]
      have e1 : wrap64 (Int.tdiv ((i : Nat) : Int) 8) = ((i / 8 : Nat) : Int) := by
        rw [show (8 : Int) = ((8 : Nat) : Int) from rfl, tdn]
        exact w64 (by omega) (by omega)
      have e2 : 0 ≤ Int.tmod ((i : Nat) : Int) 8 := by rw [show (8 : Int) = ((8 : Nat) : Int) from rfl, tmn]; omega
      rw [if_pos (by omega), e1, if_pos (by omega), if_pos (by omega), if_pos e2, if_neg (by omega), rd_gB _ _ rfl, impl_bit hg, w64 (x := (i : Int) + 1) (by omega) (by omega)]
      rfl
    by_cases hbit : gB (b.drop (7 + 4 * n)) (i / 8) / 2 ^ (i % 8) % 2 = 1
    · refine Alt.not (fun hp => ?_) ⟨1, fun k hk => ?_⟩
      · have := hp.1 i (Nat.le_refl _) (by omega)
        unfold bitAt at this
        rw [hbit] at this
        simp at this
      · obtain ⟨k, rfl⟩ : ∃ m, k = m + 1 := ⟨k - 1, by omega⟩
        exact (hcond k).trans (if_pos hbit)
    · have ih := idec_l1b hb hl n l m hm d (i + 1) (by omega) (by omega)
      have hiff : Pad b n (i + 1) ↔ Pad b n i := ⟨fun hp j h1 h2 => by
        rcases Nat.eq_or_lt_of_le h1 with g | g
        · subst g
          unfold bitAt
          rw [beq_eq_false_iff_ne]
          exact hbit
        · exact hp j g h2, fun hp j h1 h2 => hp j (by omega) h2⟩
      exact Alt.iff (and_congr hiff Iff.rfl) (Alt.step (fun k => (hcond k).trans (if_neg hbit)) ih)
theorem idec_l1a {b : List Int} (hb : By b) (hl : b.length ≤ 1048576) (n l m : Nat) (hm : m ≤ 1000) (hT : m ≤ 8 * (b.drop (7 + 4 * n)).length) {r : List Int × Int × List Bool × Int}
    (hr : Ev (fun k => impl_DecodePicture.l1 k (m : Int) (b.drop (7 + 4 * n)) (((8 * (b.drop (7 + 4 * n)).length : Nat)) : Int) (m : Int) (ids (iId b) n) (l : Int) (lits b n m)) r) : ∀ (d i : Nat), i + d = m →
    Ev (fun k => impl_DecodePicture.l1 k (m : Int) (b.drop (7 + 4 * n)) (((8 * (b.drop (7 + 4 * n)).length : Nat)) : Int) (i : Int) (ids (iId b) n) (l : Int) (lits b n i)) r
  | 0, i, h => by
    obtain rfl : i = m := by omega
    exact hr
  | d + 1, i, h => by
    have ih := idec_l1a hb hl n l m hm hT hr d (i + 1) (by omega)
    have hlen : (b.drop (7 + 4 * n)).length ≤ b.length := by simp
    have hg := gB_by (b := b.drop (7 + 4 * n)) (fun x hx => hb x (List.mem_of_mem_drop hx)) (i / 8)
    refine Ev.step (fun k => ?_) ih
    simp only [impl_DecodePicture.l1]
    have e1 : wrap64 (Int.tdiv ((i : Nat) : Int) 8) = ((i / 8 : Nat) : Int) := by
      rw [show (8 : Int) = ((8 : Nat) : Int) from rfl, tdn]
      exact w64 (by omega) (by omega)
    have e2 : 0 ≤ Int.tmod ((i : Nat) : Int) 8 := by rw [show (8 : Int) = ((8 : Nat) : Int) from rfl, tmn]; omega
    rw [if_pos (by omega), e1, if_pos (by omega), if_pos (by omega), if_pos e2, if_pos (by omega), if_pos (by rw [lits_length]; omega), rd_gB _ _ rfl, impl_bit hg, w64 (x := (i : Int) + 1) (by omega) (by omega), lits_succ]
    rfl
theorem idec_l0 {b : List Int} (hb : By b) (hl : b.length ≤ 1048576) (n l m : Nat) (hn : n ≤ 40) (hlen : 7 + 4 * n ≤ b.length) {r : List Int × Int × List Bool × Int}
    (hr : Ev (fun k => impl_DecodePicture.l0 k b (n : Int) (m : Int) (n : Int) (n : Int) (ids (iId b) n) (l : Int) b (((7 + 4 * n : Nat)) : Int)) r) : ∀ (d i : Nat), i + d = n →
    Ev (fun k => impl_DecodePicture.l0 k b (n : Int) (m : Int) (n : Int) (i : Int) (ids (iId b) i) (l : Int) b (((7 + 4 * i : Nat)) : Int)) r
  | 0, i, h => by
    obtain rfl : i = n := by omega
    exact hr
  | d + 1, i, h => by
    have ih := idec_l0 hb hl n l m hn hlen hr d (i + 1) (by omega)
    have h2 : Ev (fun k => (impl_bytesIn_num.f k b (((7 + 4 * i : Nat)) : Int) 4).bind fun bt195 => (if (ids (iId b) i).length < 17592186044416 then (impl_DecodePicture.l0 k b (n : Int) (m : Int) (n : Int) (wrap64 ((i : Int) + 1)) (ids (iId b) i ++ [wrap64 (wrap32 (bt195.1))]) (l : Int) b bt195.2) else (none))) r := by
      refine Ev.bind (inum_ev hb (by omega) (7 + 4 * i) _ rfl (by omega)) ?_
      refine Ev.congr (fun k => ?_) ih
      dsimp only
      rw [if_pos (by rw [ids_length]; omega), w64 (x := (i : Int) + 1) (by omega) (by omega), ids_succ]
      rfl
    refine Ev.step (fun k => ?_) h2
    simp only [impl_DecodePicture.l0]
    rw [if_pos (by omega)]
def OkI (b : List Int) (n l : Nat) : Prop := b.take 4 = [80, 73, 67, 84] ∧ n ≤ 40 ∧ l ≤ 4 ∧ b.length = 7 + 4 * n + (n * l + 7) / 8 ∧ Pad b n (n * l) ∧ VP (ids (iId b) n) l (lits b n (n * l))
theorem len_expr (n m : Nat) (hn : n ≤ 40) (hm : m ≤ 160) : wrap64 ((wrap64 (7 + (wrap64 (4 * (n : Int))))) + (wrap64 (Int.tdiv (wrap64 ((m : Int) + 7)) 8))) = ((7 + 4 * n + (m + 7) / 8 : Nat) : Int) := by
  rw [w64 (x := (m : Int) + 7) (by omega) (by omega), show (m : Int) + 7 = ((m + 7 : Nat) : Int) from by omega, show (8 : Int) = ((8 : Nat) : Int) from rfl, tdn, w64 (x := 4 * (n : Int)) (by omega) (by omega), w64 (x := 7 + 4 * (n : Int)) (by omega) (by omega), w64 (x := (((m + 7) / 8 : Nat) : Int)) (by omega) (by omega), w64 (by omega) (by omega)]
  omega
theorem idec_j1 {b : List Int} (hb : By b) (hl : b.length ≤ 1048576) (n l : Nat) (hh : b.take 4 = [80, 73, 67, 84]) (hn40 : n ≤ 40) (hl4 : l ≤ 4) (hlen : b.length = 7 + 4 * n + (n * l + 7) / 8) :
    Alt (OkI b n l) (fun k => impl_DecodePicture.j1 k b (n : Int) (((n * l : Nat)) : Int) false (l : Int)) (iRes b n l (n * l)) badP := by
  have hm : n * l ≤ 40 * 4 := Nat.mul_le_mul hn40 hl4
  have hiff : (Pad b n (n * l) ∧ VP (ids (iId b) n) l (lits b n (n * l))) ↔ OkI b n l := ⟨fun h => ⟨hh, hn40, hl4, hlen, h⟩, fun h => h.2.2.2.2⟩
  refine Alt.iff hiff ?_
  clear hiff
  generalize n * l = m at hm hlen ⊢
  have hrest : (b.drop (7 + 4 * n)).length = (m + 7) / 8 := by rw [List.length_drop]; omega
  have hb1 := idec_l1b hb hl n l m (by omega) (8 * (b.drop (7 + 4 * n)).length - m) m (by omega) (Nat.le_refl _)
  refine Alt.same (fun r hr => ?_) hb1
  have ha1 := idec_l1a hb hl n l m (by omega) (by omega) hr m 0 (by omega)
  have e7 : wrap64 (7 + wrap64 (4 * (n : Int))) = ((7 + 4 * n : Nat) : Int) := by rw [w64 (x := 4 * (n : Int)) (by omega) (by omega), w64 (by omega) (by omega)]; omega
  have h0 : Ev (fun k => impl_DecodePicture.l0 k b (n : Int) (m : Int) (n : Int) (n : Int) (ids (iId b) n) (l : Int) b (((7 + 4 * n : Nat)) : Int)) r := by
    refine Ev.step (fun k => ?_) ha1
    simp only [impl_DecodePicture.l0]
    rw [if_neg (by omega), e7, if_pos (by omega), if_pos (by omega), Int.toNat_natCast, w64 (x := 8 * (((b.drop (7 + 4 * n)).length : Nat) : Int)) (by omega) (by omega)]
    rfl
  have h1 := idec_l0 hb hl n l m hn40 (by omega) h0 n 0 (by omega)
  refine Ev.step (fun k => ?_) h1
  simp only [impl_DecodePicture.j1]
  rw [if_neg (by simp)]
  rfl
theorem idec_ev {b : List Int} (hb : By b) (hl : b.length ≤ 1048576) (h7 : 7 ≤ b.length) (n l : Nat) (hn : gB b 4 + 256 * gB b 5 = n) (hL : gB b 6 = l) :
    Alt (OkI b n l) (fun k => impl_DecodePicture.f k b) (iRes b n l (n * l)) badP := by
  have g4 := gB_by hb 4
  have g5 := gB_by hb 5
  have g6 := gB_by hb 6
  obtain ⟨x4, hx4⟩ : ∃ x : Nat, gB b 4 = (x : Int) := ⟨_, (Int.toNat_of_nonneg g4.1).symm⟩
  obtain ⟨x5, hx5⟩ : ∃ x : Nat, gB b 5 = (x : Int) := ⟨_, (Int.toNat_of_nonneg g5.1).symm⟩
  have hor : Go.bits .or .i64 (wrap64 (rd b 4)) (wrap64 ((wrap64 (rd b 5)) * 256)) = (n : Int) := by
    rw [show rd b 4 = gB b 4 from rfl, show rd b 5 = gB b 5 from rfl, w64 (x := gB b 4) (by omega) (by omega), w64 (x := gB b 5) (by omega) (by omega), w64 (x := gB b 5 * 256) (by omega) (by omega), hx4, hx5, or_add (n := 64) (Or.inr ⟨rfl, rfl⟩) x4 x5 8 (by omega) (by omega) (by omega)]
    omega
  have hr6 : wrap64 (rd b 6) = (l : Int) := by rw [show rd b 6 = gB b 6 from rfl, w64 (by omega) (by omega), hL]
  have hbad1 : ∀ v : Bool, v = true → ∀ (a c : Int), Ev (fun k => impl_DecodePicture.j1 k b (n : Int) a v c) badP := fun v hv a c => ⟨1, fun k hk => by
    obtain ⟨k, rfl⟩ : ∃ m, k = m + 1 := ⟨k - 1, by omega⟩
    simp only [impl_DecodePicture.j1]
    rw [if_pos hv]
    rfl⟩
  have hbad0 : ∀ v : Bool, v = true → Ev (fun k => impl_DecodePicture.j0 k b v) badP := fun v hv => ⟨1, fun k hk => by
    obtain ⟨k, rfl⟩ : ∃ m, k = m + 1 := ⟨k - 1, by omega⟩
    simp only [impl_DecodePicture.j0]
    rw [if_pos hv]
    rfl⟩
  refine Alt.congr (f := fun k => impl_DecodePicture.j0 k b ((strOfNums (b.take 4)).toList != ([80, 73, 67, 84] : List UInt8))) (fun k => ?_) ?_
  · unfold impl_DecodePicture.f
    rw [if_neg (by omega), if_pos (by omega)]
  by_cases hh : b.take 4 = [80, 73, 67, 84]
  rotate_left
  · exact Alt.not (fun h => hh h.1) (hbad0 _ (bne_iff_ne.2 (fun h => hh ((head_iff hb).1 h))))
  rw [bne_eq_false_iff_eq.2 ((head_iff hb).2 hh)]
  refine Alt.step (f := fun k => if (n : Int) > 40 then impl_DecodePicture.j1 k b n (wrap64 ((n : Int) * l)) true l else (if (l : Int) > 4 then impl_DecodePicture.j1 k b n (wrap64 ((n : Int) * l)) true l else impl_DecodePicture.j1 k b n (wrap64 ((n : Int) * l)) ((b.length : Int) != (wrap64 ((wrap64 (7 + (wrap64 (4 * (n : Int))))) + (wrap64 (Int.tdiv (wrap64 ((wrap64 ((n : Int) * l)) + 7)) 8))))) l)) (fun k => ?_) ?_
  · simp only [impl_DecodePicture.j0]
    rw [if_neg (by simp), if_pos (by omega), if_pos (by omega), if_pos (by omega), hor, hr6]
  by_cases hn40 : n ≤ 40
  rotate_left
  · exact Alt.not (fun h => hn40 h.2.1) (Ev.congr (fun k => if_pos (by omega)) (hbad1 true rfl _ _))
  refine Alt.congr (fun k => if_neg (by omega)) ?_
  by_cases hl4 : l ≤ 4
  rotate_left
  · exact Alt.not (fun h => hl4 h.2.2.1) (Ev.congr (fun k => if_pos (by omega)) (hbad1 true rfl _ _))
  refine Alt.congr (fun k => if_neg (by omega)) ?_
  have hm : n * l ≤ 40 * 4 := Nat.mul_le_mul hn40 hl4
  have em : wrap64 ((n : Int) * l) = ((n * l : Nat) : Int) := by
    rw [← Int.natCast_mul]
    exact w64 (by omega) (by omega)
  rw [em, len_expr n (n * l) hn40 hm]
  by_cases hlen : b.length = 7 + 4 * n + (n * l + 7) / 8
  rotate_left
  · refine Alt.not (fun h => hlen h.2.2.2.1) (hbad1 _ (bne_iff_ne.2 (fun h => hlen ?_)) _ _)
    exact Int.ofNat.inj h
  rw [bne_eq_false_iff_eq.2 (by rw [hlen])]
  exact idec_j1 hb hl n l hh hn40 hl4 hlen

/-! #### the reference's side -/
def sRes (b : List Int) (n l m : Nat) : List Int × Int × List Bool × Int := (ids (sId b) n, (l : Int), lits b n m, 0)
def FinS (b : List Int) (n l m : Nat) : Prop := VP (ids (sId b) n) l (lits b n m) ∧ picForm (ids (sId b) n) l (lits b n m) = b
theorem sdec_l1 {b : List Int} (hb : By b) (hl : b.length ≤ 1048576) (n l m : Nat) (hn : n ≤ 40) (hl4 : l ≤ 4) (hm : n * l = m) : ∀ (d i : Nat), i + d = m → (∀ j, j < i → 7 + 4 * n + j / 8 < b.length) → 7 + 4 * n ≤ b.length →
    Alt (7 + 4 * n + (m + 7) / 8 ≤ b.length ∧ FinS b n l m) (fun k => spec_DecodePicture.l1 k b (n : Int) (i : Int) (ids (sId b) n) (l : Int) (lits b n i)) (sRes b n l m) badP
  | 0, i, h, hp, h0 => by
    obtain rfl : i = m := by omega
    have hm2 : n * l ≤ 40 * 4 := Nat.mul_le_mul hn hl4
    have hv := specvalid_ev (ids (sId b) n) l (lits b n i) (by rw [lits_length]; omega)
    have hlen : 7 + 4 * n + (i + 7) / 8 ≤ b.length := by
      rcases Nat.eq_zero_or_pos i with g | g
      · omega
      · have := hp (i - 1) (by omega)
        omega
    have em : wrap64 ((n : Int) * l) = ((i : Nat) : Int) := by
      rw [← Int.natCast_mul, hm]
      exact w64 (by omega) (by omega)
    refine Alt.step (f := fun k => (spec_l6validPicture.f k (ids (sId b) n) l (lits b n i)).bind fun t175 => (if t175 = true then ((spec_l6picture.f k (ids (sId b) n) l (lits b n i)).bind fun t176 => (if (strOfNums t176).toList = (strOfNums b).toList then (some (ids (sId b) n, (l : Int), lits b n i, (0 : Int))) else (some badP))) else (some badP))) (fun k => ?_) ?_
    · simp only [spec_DecodePicture.l1]
      rw [em, if_neg (by omega)]
      rfl
    · refine Alt.bind hv ?_
      by_cases hc : VP (ids (sId b) n) l (lits b n i)
      · rw [decide_eq_true hc]
        refine Alt.congr (fun k => if_pos rfl) ?_
        refine Alt.bind (picture_ev _ _ _ hc) ?_
        by_cases hf : picForm (ids (sId b) n) l (lits b n i) = b
        · exact Alt.yes ⟨hlen, hc, hf⟩ (Ev.congr (fun k => if_pos ((str_iff (picForm_by _ _ _) hb).2 hf)) (ev_const rfl))
        · exact Alt.not (fun h => hf h.2.2) (Ev.congr (fun k => if_neg (fun h => hf ((str_iff (picForm_by _ _ _) hb).1 h))) (ev_const rfl))
      · rw [decide_eq_false hc]
        exact Alt.not (fun h => hc h.2.1) (Ev.congr (fun k => if_neg (by simp)) (ev_const rfl))
  | d + 1, i, h, hp, h0 => by
    have hm2 : n * l ≤ 40 * 4 := Nat.mul_le_mul hn hl4
    have em : wrap64 ((n : Int) * l) = ((m : Nat) : Int) := by
      rw [← Int.natCast_mul, hm]
      exact w64 (by omega) (by omega)
    have ea : wrap64 ((wrap64 (7 + (wrap64 (4 * (n : Int))))) + (wrap64 (Int.tdiv (i : Int) 8))) = ((7 + 4 * n + i / 8 : Nat) : Int) := by
      rw [show (8 : Int) = ((8 : Nat) : Int) from rfl, tdn, w64 (x := 4 * (n : Int)) (by omega) (by omega), w64 (x := 7 + 4 * (n : Int)) (by omega) (by omega), w64 (x := ((i / 8 : Nat) : Int)) (by omega) (by omega), w64 (by omega) (by omega)]
      omega
    have hs : ∀ {r}, Alt r (fun k => (spec_l6number.f k b (((7 + 4 * n + i / 8 : Nat)) : Int) 1).bind fun t171 => (if t171 < 0 then (some badP) else (if 0 ≤ (IntKind.u64.wrap (Int.tmod (i : Int) 8)) then (if (lits b n i).length < 140737488355328 then (spec_DecodePicture.l1 k b (n : Int) (wrap64 ((i : Int) + 1)) (ids (sId b) n) (l : Int) (lits b n i ++ [((Int.tmod (shr .i64 t171 (IntKind.u64.wrap (Int.tmod (i : Int) 8))) 2) == 1)])) else (none)) else (none)))) (sRes b n l m) badP → Alt r (fun k => spec_DecodePicture.l1 k b (n : Int) (i : Int) (ids (sId b) n) (l : Int) (lits b n i)) (sRes b n l m) badP := fun h => Alt.step (fun k => by
      simp only [spec_DecodePicture.l1]
      rw [em, if_pos (by omega), ea]
      rfl) h
    refine hs ?_
    by_cases hi : 7 + 4 * n + i / 8 < b.length
    · have ih := sdec_l1 hb hl n l m hn hl4 hm d (i + 1) (by omega) (fun j hj => (Nat.lt_or_ge j i).elim (hp j) (fun g => (show i = j by omega) ▸ hi)) h0
      have hg := gB_by hb (7 + 4 * n + i / 8)
      refine Alt.bind (number1_ev hb (by omega) (7 + 4 * n + i / 8) _ rfl (by omega)) ?_
      refine Alt.congr (fun k => ?_) ih
      have hw : ∀ q : Int, IntKind.u64.wrap q = q % 18446744073709551616 := fun q => by simp [IntKind.wrap, IntKind.bits, IntKind.signed]
      rw [if_neg (by omega), if_pos (by rw [hw]; omega), if_pos (by rw [lits_length]; omega), spec_bit hg, w64 (x := (i : Int) + 1) (by omega) (by omega), lits_succ]
      have e : bitAt (b.drop (7 + 4 * n)) i = (gB b (7 + 4 * n + i / 8) / 2 ^ (i % 8) % 2 == 1) := by unfold bitAt; rw [gB_drop]
      rw [e]
      rfl
    · refine Alt.not (fun h => by have := h.1; omega) ?_
      refine Ev.bind (number_short (by omega) (7 + 4 * n + i / 8) 1 (by omega) (by omega) _ rfl (by omega)) ?_
      exact Ev.congr (fun k => if_pos (by omega)) (ev_const rfl)
theorem sdec_l0 {b : List Int} (hb : By b) (hl : b.length ≤ 1048576) (n l m : Nat) (hn : n ≤ 40) (hl4 : l ≤ 4) (hm : n * l = m) (h7 : 7 ≤ b.length) : ∀ (d i : Nat), i + d = n → 7 + 4 * i ≤ b.length →
    Alt (7 + 4 * n + (m + 7) / 8 ≤ b.length ∧ FinS b n l m) (fun k => spec_DecodePicture.l0 k b (n : Int) (i : Int) (ids (sId b) i) (l : Int)) (sRes b n l m) badP
  | 0, i, h, hi => by
    obtain rfl : i = n := by omega
    have h1 := sdec_l1 hb hl i l m hn hl4 hm m 0 (by omega) (fun j hj => by omega) hi
    refine Alt.step (fun k => ?_) h1
    simp only [spec_DecodePicture.l0]
    rw [if_neg (by omega)]
    rfl
  | d + 1, i, h, hi => by
    have ea : wrap64 (7 + wrap64 (4 * (i : Int))) = ((7 + 4 * i : Nat) : Int) := by rw [w64 (x := 4 * (i : Int)) (by omega) (by omega), w64 (by omega) (by omega)]; omega
    refine Alt.step (f := fun k => (spec_l6number.f k b (((7 + 4 * i : Nat)) : Int) 4).bind fun t164 => (if t164 = 4294967295 then (if (ids (sId b) i).length < 17592186044416 then (spec_DecodePicture.l0 k b (n : Int) (wrap64 ((i : Int) + 1)) (ids (sId b) i ++ [(-1)]) (l : Int)) else (none)) else (if t164 < 0 then (some badP) else (if (ids (sId b) i).length < 17592186044416 then (spec_DecodePicture.l0 k b (n : Int) (wrap64 ((i : Int) + 1)) (ids (sId b) i ++ [t164]) (l : Int)) else (none))))) (fun k => ?_) ?_
    · simp only [spec_DecodePicture.l0]
      rw [if_pos (by omega), ea]
      rfl
    by_cases hi4 : 7 + 4 * (i + 1) ≤ b.length
    · have ih := sdec_l0 hb hl n l m hn hl4 hm h7 d (i + 1) (by omega) hi4
      have hu := u4_lt hb (7 + 4 * i)
      refine Alt.bind (number4_ev hb (by omega) (7 + 4 * i) _ rfl (by omega)) ?_
      refine Alt.congr (fun k => ?_) ih
      rw [ids_succ, w64 (x := (i : Int) + 1) (by omega) (by omega)]
      unfold sId
      by_cases hc : u4 b (7 + 4 * i) = 4294967295
      · rw [if_pos hc, if_pos (by rw [ids_length]; omega), if_pos hc]
        rfl
      · rw [if_neg hc, if_neg (by omega), if_pos (by rw [ids_length]; omega), if_neg hc]
        rfl
    · refine Alt.not (fun h => by have := h.1; omega) ?_
      refine Ev.bind (number_short (by omega) (7 + 4 * i) 4 (by omega) (by omega) _ rfl (by omega)) ?_
      refine Ev.congr (fun k => if_neg (by omega)) ?_
      exact Ev.congr (fun k => if_pos (by omega)) (ev_const rfl)
def OkS (b : List Int) (n l : Nat) : Prop := n ≤ 40 ∧ l ≤ 4 ∧ 7 + 4 * n + (n * l + 7) / 8 ≤ b.length ∧ FinS b n l (n * l)
theorem sdec_j0 (b : List Int) (v : Bool) (hv : v = true) (a c : Int) : Ev (fun k => spec_DecodePicture.j0 k b a v c) badP := ⟨1, fun k hk => by
  obtain ⟨k, rfl⟩ : ∃ m, k = m + 1 := ⟨k - 1, by omega⟩
  simp only [spec_DecodePicture.j0]
  rw [if_pos hv]
  rfl⟩
theorem sdec_ev {b : List Int} (hb : By b) (hl : b.length ≤ 1048576) (h7 : 7 ≤ b.length) (n l : Nat) (hn : gB b 4 + 256 * gB b 5 = n) (hL : gB b 6 = l) :
    Alt (OkS b n l) (fun k => spec_DecodePicture.f k b) (sRes b n l (n * l)) badP := by
  unfold spec_DecodePicture.f
  refine Alt.bind (number2_ev hb (by omega) 4 4 rfl (by omega)) ?_
  refine Alt.bind (number1_ev hb (by omega) 6 6 rfl (by omega)) ?_
  rw [show gB b 4 + 256 * gB b (4 + 1) = (n : Int) from hn, hL]
  refine Alt.congr (fun k => if_neg (by omega)) ?_
  by_cases hn40 : n ≤ 40
  rotate_left
  · exact Alt.not (fun h => hn40 h.1) (Ev.congr (fun k => if_pos (by omega)) (sdec_j0 b true rfl _ _))
  refine Alt.congr (fun k => if_neg (by omega)) ?_
  refine Alt.congr (fun k => if_neg (by omega)) ?_
  by_cases hl4 : l ≤ 4
  rotate_left
  · exact Alt.not (fun h => hl4 h.2.1) (sdec_j0 b _ (decide_eq_true (by omega)) _ _)
  rw [decide_eq_false (show ¬ ((l : Int) > 4) by omega)]
  have h0 := sdec_l0 hb hl n l (n * l) hn40 hl4 rfl h7 n 0 (by omega) (by omega)
  refine Alt.iff ⟨fun h => ⟨hn40, hl4, h⟩, fun h => h.2.2⟩ (Alt.step (fun k => ?_) h0)
  simp only [spec_DecodePicture.j0]
  rw [if_neg (by simp)]
  rfl
theorem sdec_short {b : List Int} (hb : By b) (hl : b.length ≤ 1048576) (h7 : b.length < 7) : Ev (fun k => spec_DecodePicture.f k b) badP := by
  have h6 : Ev (fun k => spec_l6number.f k b 6 1) (-1) := number_short (by omega) 6 1 (by omega) (by omega) _ rfl (by omega)
  have hq : ∃ q, -1 ≤ q ∧ q ≤ 65535 ∧ Ev (fun k => spec_l6number.f k b 4 2) q := by
    have g4 := gB_by hb 4
    have g5 := gB_by hb (4 + 1)
    by_cases h : 6 ≤ b.length
    · exact ⟨_, by omega, by omega, number2_ev hb (by omega) 4 4 rfl (by omega)⟩
    · exact ⟨-1, by omega, by omega, number_short (by omega) 4 2 (by omega) (by omega) _ rfl (by omega)⟩
  obtain ⟨q, q0, q1, hq⟩ := hq
  unfold spec_DecodePicture.f
  refine Ev.bind hq ?_
  refine Ev.bind h6 ?_
  by_cases h1 : q < 0
  · exact Ev.congr (fun k => if_pos h1) (sdec_j0 b true rfl _ _)
  refine Ev.congr (fun k => if_neg h1) ?_
  by_cases h2 : q > 40
  · exact Ev.congr (fun k => if_pos h2) (sdec_j0 b true rfl _ _)
  refine Ev.congr (fun k => if_neg h2) ?_
  exact Ev.congr (fun k => if_pos (by omega)) (sdec_j0 b true rfl _ _)
theorem idec_short {b : List Int} (h7 : b.length < 7) : Ev (fun k => impl_DecodePicture.f k b) badP := ⟨1, fun k hk => by
  obtain ⟨k, rfl⟩ : ∃ m, k = m + 1 := ⟨k - 1, by omega⟩
  show impl_DecodePicture.f (k + 1) b = _
  unfold impl_DecodePicture.f
  rw [if_pos (by omega)]
  simp only [impl_DecodePicture.j0]
  rw [if_pos trivial]
  rfl⟩
/-! #### both conditions are one -/
theorem take2 (b : List Int) (a : Nat) (h : a + 2 ≤ b.length) : (b.drop a).take 2 = [gB b a, gB b (a + 1)] := by
  unfold gB
  rw [List.drop_eq_getElem_cons (show a < b.length by omega), List.drop_eq_getElem_cons (show a + 1 < b.length by omega), List.take_succ_cons, List.take_succ_cons, List.take_zero, List.getD_eq_getElem?_getD, List.getD_eq_getElem?_getD, List.getElem?_eq_getElem (show a < b.length by omega), List.getElem?_eq_getElem (show a + 1 < b.length by omega)]
  rfl
theorem take1 (b : List Int) (a : Nat) (h : a + 1 ≤ b.length) : (b.drop a).take 1 = [gB b a] := by
  unfold gB
  rw [List.drop_eq_getElem_cons (show a < b.length by omega), List.take_succ_cons, List.take_zero, List.getD_eq_getElem?_getD, List.getElem?_eq_getElem (show a < b.length by omega)]
  rfl
theorem take4 (b : List Int) (a : Nat) (h : a + 4 ≤ b.length) : (b.drop a).take 4 = [gB b a, gB b (a + 1), gB b (a + 2), gB b (a + 3)] := by
  have e : (b.drop a).take 4 = (b.drop a).take 2 ++ (b.drop (a + 2)).take 2 := by
    rw [show (4 : Nat) = 2 + 2 from rfl, List.take_add, List.drop_drop]
  rw [e, take2 b a (by omega), take2 b (a + 2) (by omega)]
  rfl
theorem idb_u4 {b : List Int} (hb : By b) (i : Nat) (h : 7 + 4 * i + 4 ≤ b.length) (hok : -1 ≤ sId b i ∧ sId b i < 40) : idb (sId b i) = (b.drop (7 + 4 * i)).take 4 := by
  have h0 := gB_by hb (7 + 4 * i)
  have h1 := gB_by hb (7 + 4 * i + 1)
  have h2 := gB_by hb (7 + 4 * i + 2)
  have h3 := gB_by hb (7 + 4 * i + 3)
  rw [take4 b _ h]
  have hu : u4 b (7 + 4 * i) = gB b (7 + 4 * i) + 256 * gB b (7 + 4 * i + 1) + 65536 * gB b (7 + 4 * i + 2) + 16777216 * gB b (7 + 4 * i + 3) := rfl
  unfold sId at hok ⊢
  by_cases hc : u4 b (7 + 4 * i) = 4294967295
  · rw [if_pos hc]
    rw [hu] at hc
    unfold idb
    rw [if_pos (by omega), show gB b (7 + 4 * i) = 255 from by omega, show gB b (7 + 4 * i + 1) = 255 from by omega, show gB b (7 + 4 * i + 2) = 255 from by omega, show gB b (7 + 4 * i + 3) = 255 from by omega]
  · rw [if_neg hc] at hok ⊢
    rw [hu] at hok ⊢
    unfold idb
    rw [if_neg (by omega)]
    simp only [le]
    congr 1
    · omega
    congr 1
    · omega
    congr 1
    · omega
    congr 1
    omega
theorem mid_eq {b : List Int} (hb : By b) : ∀ n : Nat, 7 + 4 * n ≤ b.length → (∀ i, i < n → -1 ≤ sId b i ∧ sId b i < 40) → (ids (sId b) n).flatMap idb = (b.drop 7).take (4 * n)
  | 0, _, _ => by simp [ids]
  | n + 1, h, hok => by
    rw [ids_succ, List.flatMap_append, mid_eq hb n (by omega) (fun i hi => hok i (by omega)), show 4 * (n + 1) = 4 * n + 4 from by omega, List.take_add, List.drop_drop]
    congr 1
    simp only [List.flatMap_cons, List.flatMap_nil, List.append_nil]
    exact idb_u4 hb n (by omega) (hok n (by omega))
theorem lits_get (b : List Int) (n m i : Nat) (h : i < m) : (lits b n m).getD i false = bitAt (b.drop (7 + 4 * n)) i := by
  unfold lits
  rw [List.getD_eq_getElem?_getD, List.getElem?_eq_getElem (by simpa using h)]
  simp
theorem lits_out (b : List Int) (n m i : Nat) (h : m ≤ i) : (lits b n m).getD i false = false := by
  rw [List.getD_eq_getElem?_getD, List.getElem?_eq_none (by rw [lits_length]; exact h)]
  rfl
theorem bitAt_in (r : List Int) (j k : Nat) (hk : k < 8) : bitAt r (8 * j + k) = (gB r j / 2 ^ k % 2 == 1) := by
  unfold bitAt
  rw [show (8 * j + k) / 8 = j from by omega, show (8 * j + k) % 8 = k from by omega]
theorem pack_iff {b : List Int} (hb : By b) (n m : Nat) (hlen : (b.drop (7 + 4 * n)).length = (m + 7) / 8) : packAll (lits b n m) = b.drop (7 + 4 * n) ↔ Pad b n m := by
  have hr : By (b.drop (7 + 4 * n)) := fun x hx => hb x (List.mem_of_mem_drop hx)
  have hel : ∀ (j : Nat) (h : j < (packAll (lits b n m)).length), (packAll (lits b n m))[j] = pkb fun k => (lits b n m).getD (8 * j + k) false := fun j h => by simp [packAll]
  constructor
  · intro h i h1 h2
    have hj : i / 8 < (packAll (lits b n m)).length := by rw [packAll_length, lits_length]; omega
    have e := hel (i / 8) hj
    have e2 : (packAll (lits b n m))[i / 8] = gB (b.drop (7 + 4 * n)) (i / 8) := by
      unfold gB
      rw [List.getD_eq_getElem?_getD, ← h, List.getElem?_eq_getElem hj]
      rfl
    have e3 := bitAt_in (b.drop (7 + 4 * n)) (i / 8) (i % 8) (by omega)
    rw [show 8 * (i / 8) + i % 8 = i from by omega, ← e2, e, bits_pkb _ _ (by omega), show 8 * (i / 8) + i % 8 = i from by omega] at e3
    rw [e3, lits_out b n m i h1]
  · intro hp
    apply List.ext_getElem
    · rw [packAll_length, lits_length, hlen]
    · intro j h1 h2
      rw [hel j h1]
      have hg : (b.drop (7 + 4 * n))[j] = gB (b.drop (7 + 4 * n)) j := by
        unfold gB
        rw [List.getD_eq_getElem?_getD, List.getElem?_eq_getElem h2]
        rfl
      rw [hg, ← pkb_bits (gB_by hr j)]
      refine pkb_congr fun k hk => ?_
      rw [← bitAt_in _ j k hk]
      rcases Nat.lt_or_ge (8 * j + k) m with g | g
      · exact lits_get b n m _ g
      · rw [lits_out b n m _ g]
        exact (hp _ g (by omega)).symm
theorem form_iff {b : List Int} (hb : By b) (n l : Nat) (hn : gB b 4 + 256 * gB b 5 = n) (hL : gB b 6 = l) (m : Nat) (hlen : b.length = 7 + 4 * n + (m + 7) / 8) (hok : ∀ i, i < n → -1 ≤ sId b i ∧ sId b i < 40) :
    picForm (ids (sId b) n) l (lits b n m) = b ↔ b.take 4 = [80, 73, 67, 84] ∧ Pad b n m := by
  have g4 := gB_by hb 4
  have g5 := gB_by hb 5
  have g6 := gB_by hb 6
  have hrest : (b.drop (7 + 4 * n)).length = (m + 7) / 8 := by rw [List.length_drop]; omega
  have hsplit : b = b.take 4 ++ [gB b 4, gB b 5] ++ [gB b 6] ++ (b.drop 7).take (4 * n) ++ b.drop (7 + 4 * n) := by
    have e1 := take2 b 4 (by omega)
    have e2 := take1 b 6 (by omega)
    have e3 : b.drop 7 = (b.drop 7).take (4 * n) ++ b.drop (7 + 4 * n) := by
      conv => lhs; rw [← List.take_append_drop (4 * n) (b.drop 7), List.drop_drop]
    have e4 : b.drop 6 = [gB b 6] ++ b.drop 7 := by
      conv => lhs; rw [← List.take_append_drop 1 (b.drop 6), List.drop_drop, e2]
    have e5 : b.drop 4 = [gB b 4, gB b 5] ++ b.drop 6 := by
      conv => lhs; rw [← List.take_append_drop 2 (b.drop 4), List.drop_drop, e1]
    conv => lhs; rw [← List.take_append_drop 4 b, e5, e4, e3]
    simp only [List.append_assoc]
  have hform : picForm (ids (sId b) n) l (lits b n m) = [80, 73, 67, 84] ++ [gB b 4, gB b 5] ++ [gB b 6] ++ (b.drop 7).take (4 * n) ++ packAll (lits b n m) := by
    unfold picForm
    rw [mid_eq hb n (by omega) hok, ids_length]
    have e1 : le (n : Int) 2 = [gB b 4, gB b 5] := by
      simp only [le]
      congr 1
      · omega
      congr 1
      omega
    have e2 : le (l : Int) 1 = [gB b 6] := by
      simp only [le]
      congr 1
      omega
    rw [e1, e2]
  have ht4 : (b.take 4).length = 4 := by rw [List.length_take]; omega
  constructor
  · intro h
    have h2 := (hform.symm.trans h).trans hsplit
    have i1 := List.append_inj h2 (by simp only [List.length_append, ht4]; rfl)
    have i2 := List.append_inj i1.1 (by simp only [List.length_append, ht4]; rfl)
    have i3 := List.append_inj i2.1 (by simp only [List.length_append, ht4]; rfl)
    have i4 := List.append_inj i3.1 (by simp only [List.length_append, ht4]; rfl)
    exact ⟨i4.1.symm, (pack_iff hb n m hrest).1 i1.2⟩
  · rintro ⟨h1, h2⟩
    rw [hform, (pack_iff hb n m hrest).2 h2, ← h1]
    exact hsplit.symm
theorem ok_iff {b : List Int} (hb : By b) (h7 : 7 ≤ b.length) (n l : Nat) (hn : gB b 4 + 256 * gB b 5 = n) (hL : gB b 6 = l) : (OkS b n l ↔ OkI b n l) ∧ (OkI b n l → sRes b n l (n * l) = iRes b n l (n * l)) := by
  have hids : (∀ v ∈ ids (sId b) n, -1 ≤ v ∧ v < 40) → ids (sId b) n = ids (iId b) n := fun h => by
    refine List.map_congr_left fun i hi => id_ok hb i (Or.inl (h _ (List.mem_map.2 ⟨i, hi, rfl⟩)))
  have hids' : (∀ v ∈ ids (iId b) n, -1 ≤ v ∧ v < 40) → ids (sId b) n = ids (iId b) n := fun h => by
    refine List.map_congr_left fun i hi => id_ok hb i (Or.inr (h _ (List.mem_map.2 ⟨i, hi, rfl⟩)))
  have hok : (∀ v ∈ ids (sId b) n, -1 ≤ v ∧ v < 40) → ∀ i, i < n → -1 ≤ sId b i ∧ sId b i < 40 := fun h i hi => h _ (List.mem_map.2 ⟨i, by simpa using hi, rfl⟩)
  refine ⟨⟨?_, ?_⟩, fun h => ?_⟩
  · rintro ⟨h1, h2, h3, h4, h5⟩
    have hlen : b.length = 7 + 4 * n + (n * l + 7) / 8 := by
      rw [← h5, picForm_length, ids_length, lits_length]
    have hf := (form_iff hb n l hn hL (n * l) hlen (hok h4.i)).1 h5
    refine ⟨hf.1, h1, h2, hlen, hf.2, ?_⟩
    rw [← hids h4.i]
    exact h4
  · rintro ⟨h1, h2, h3, h4, h5, h6⟩
    have he := hids' h6.i
    rw [← he] at h6
    exact ⟨h2, h3, by omega, h6, (form_iff hb n l hn hL (n * l) h4 (hok h6.i)).2 ⟨h1, h5⟩⟩
  · have he := hids' h.2.2.2.2.2.i
    unfold sRes iRes
    rw [he]
theorem DecodePicture_same {b : List Int} (hb : By b) (hl : b.length ≤ 1048576) : ∃ r : List Int × Int × List Bool × Int, r.1.length ≤ 40 ∧ r.2.2.1.length ≤ 160 ∧ Ev (fun k => spec_DecodePicture.f k b) r ∧ Ev (fun k => impl_DecodePicture.f k b) r := by
  by_cases h7 : b.length < 7
  · exact ⟨badP, by simp [badP], by simp [badP], sdec_short hb hl h7, idec_short h7⟩
  · have g4 := gB_by hb 4
    have g5 := gB_by hb 5
    have g6 := gB_by hb 6
    obtain ⟨n, hn⟩ : ∃ n : Nat, gB b 4 + 256 * gB b 5 = (n : Int) := ⟨(gB b 4 + 256 * gB b 5).toNat, by omega⟩
    obtain ⟨l, hL⟩ : ∃ l : Nat, gB b 6 = (l : Int) := ⟨(gB b 6).toNat, by omega⟩
    have hs := sdec_ev hb hl (by omega) n l hn hL
    have hi := idec_ev hb hl (by omega) n l hn hL
    have ho := ok_iff hb (by omega) n l hn hL
    by_cases h : OkI b n l
    · refine ⟨iRes b n l (n * l), by unfold iRes; rw [ids_length]; exact h.2.1, ?_, ?_, hi.1 h⟩
      · unfold iRes
        rw [lits_length]
        have : n * l ≤ 40 * 4 := Nat.mul_le_mul h.2.1 h.2.2.1
        exact this
      · rw [← ho.2 h]
        exact hs.1 (ho.1.2 h)
    · exact ⟨badP, by simp [badP], by simp [badP], hs.2 (fun h2 => h (ho.1.1 h2)), hi.2 h⟩

/-! ### the law's helpers of Picture -/
theorem eqPicture_ev (i : List Int) (L : Int) (l : List Bool) (h1 : i.length ≤ 1048576) (h2 : l.length ≤ 1048576) : Ev (fun k => laws_eqPicture.f k i L l i L l) true := by
  unfold laws_eqPicture.f
  refine Ev.bind (eqIntS_ev i (by omega)) ?_
  refine Ev.congr (fun k => if_pos rfl) ?_
  refine Ev.congr (fun k => if_pos rfl) ?_
  refine Ev.bind (eqBoolS_ev l (by omega)) ?_
  exact ev_const rfl
theorem markPicture_ev (i : List Int) (L : Int) (l : List Bool) (z : Int) (h1 : i.length ≤ 1048576) (h2 : l.length ≤ 1048576) (h0 : 0 ≤ z) (h3 : z ≤ 1048576) :
    Ev (fun k => laws_markPicture.f k i L l z) (z + i.length + l.length, marks (fun z => z) z i.length, marks (fun z => (Int.tmod z 3 == 0)) (z + i.length) l.length) := by
  unfold laws_markPicture.f
  refine Ev.bind (markIntS_ev i z (by omega) h0 (by omega)) ?_
  refine Ev.bind (markBoolS_ev l (z + i.length) (by omega) (by omega) (by omega)) ?_
  exact ev_const rfl
theorem heldPicture_ev (n m : Nat) (L : Int) (z : Int) (h1 : n ≤ 1048576) (h2 : m ≤ 1048576) (h0 : 0 ≤ z) (h3 : z ≤ 1048576) :
    Ev (fun k => laws_heldPicture.f k (marks (fun z => z) z n) L (marks (fun z => (Int.tmod z 3 == 0)) (z + n) m) z) (z + n + m) := by
  unfold laws_heldPicture.f
  refine Ev.bind (heldIntS_ev n z (by omega) h0 (by omega)) ?_
  refine Ev.congr (fun k => if_neg (by omega)) ?_
  refine Ev.bind (heldBoolS_ev m (z + n) (by omega) (by omega) (by omega)) ?_
  refine Ev.congr (fun k => if_neg (by omega)) ?_
  exact ev_const rfl
theorem FnExactDecodePicture : laws_FnExactDecodePicture.Pure := by
  intro b hmx _ hwf
  have hlm : b.length ≤ 9223372036854775807 := by unfold maxLen at hmx; omega
  refine Ev.rounds ?_
  unfold laws_FnExactDecodePicture.f
  by_cases hbig : (b.length : Int) > 1048576
  · exact Ev.congr (fun k => if_pos hbig) (ev_const rfl)
  refine Ev.congr (fun k => if_neg hbig) ?_
  have hl : b.length ≤ 1048576 := by omega
  have hb := wf_by hwf
  obtain ⟨⟨r1, r2, r3, r4⟩, hr1, hr3, hs, hi⟩ := DecodePicture_same hb hl
  dsimp only at hr1 hr3
  have tb := toByteS_ev b hl
  have er := eqPicture_ev r1 r2 r3 (by omega) (by omega)
  have eb := eqByteS_ev b (by omega)
  have mb := markByteS_ev b 1 (by omega) (by omega) (by omega)
  have mr := markPicture_ev r1 r2 r3 1 (by omega) (by omega) (by omega) (by omega)
  have hh := heldPicture_ev r1.length r3.length r2 1 (by omega) (by omega) (by omega) (by omega)
  refine Ev.bind tb ?_
  refine Ev.bind hs ?_
  refine Ev.bind tb ?_
  refine Ev.bind hi ?_
  dsimp only
  refine Ev.bind er ?_
  simp only [if_true]
  refine Ev.bind tb ?_
  refine Ev.bind eb ?_
  simp only [if_true]
  refine Ev.bind mb ?_
  dsimp only
  refine Ev.congr (fun k => if_neg (by omega)) ?_
  refine Ev.bind er ?_
  simp only [if_true]
  refine Ev.bind mr ?_
  dsimp only
  refine Ev.bind hh ?_
  refine Ev.congr (fun k => if_neg (by omega)) ?_
  simp only [if_true]
  refine Ev.bind tb ?_
  refine Ev.bind hi ?_
  dsimp only
  refine Ev.bind er ?_
  simp only [if_true]
  refine Ev.bind hh ?_
  refine Ev.congr (fun k => if_neg (by omega)) ?_
  exact ev_const (if_pos rfl)

end Go.Proofs.Ytcpdeenhjodmfaa.Pure
