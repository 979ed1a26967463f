/- The plain law behind FnExactDecodeSceneSaid: the pure functions that the program's Go functions come to answer as the statement says, for every input that the row lets in. -/
import Derived.Test.YtcpdeenhjodmfaaDoorQDecodeScenex9
namespace Go.Proofs.YtcpdeenhjodmfaaDoor.Pure
open Go.RowKit Go.Proofs.YtcpdeenhjodmfaaDoor.QDecodeScene Go.Proofs.YtcpdeenhjodmfaaDoorW.PrintWords Go.Proofs.YtcpdeenhjodmfaaDoorW.PrintLast Go.Proofs.YtcpdeenhjodmfaaDoorW.PrintMore
set_option linter.unusedVariables false
set_option linter.unusedSimpArgs false
/-! ### rounds, and lists by index -/
theorem ev_const {α : Type} {a : Option α} {r : α} (h : a = some r) : Ev (fun _ => a) r := ⟨0, fun _ _ => h⟩
theorem ev_bindc {α β : Type} {g : Nat → Option α} {f : α → Option β} {a : α} {r : β} (h : Ev g a) (k : f a = some r) : Ev (fun n => (g n).bind f) r :=
  Ev.bind (f := fun _ => f) h (ev_const k)
theorem ev_cbind {α β : Type} {g : Option α} {f : Nat → α → Option β} {a : α} {r : β} (h : g = some a) (k : Ev (fun n => f n a) r) : Ev (fun n => g.bind (f n)) r :=
  Ev.bind (g := fun _ => g) (ev_const h) k
theorem rd_nat (xs : List Int) (i : Nat) : rd xs (i : Int) = xs.getD i 0 := by simp [rd]
theorem rd_at (pre rest : List Int) (r : Int) : rd (pre ++ r :: rest) ((pre.length : Nat) : Int) = r := by simp [rd]
theorem rdb_at (pre rest : List Bool) (r : Bool) : rdOf false (pre ++ r :: rest) ((pre.length : Nat) : Int) = r := by simp [rdOf]
theorem set_at {α : Type} (pre rest : List α) (r v : α) : (pre ++ r :: rest).set (((pre.length : Nat) : Int)).toNat v = (pre ++ [v]) ++ rest := by simp
theorem w64 {x : Int} (h0 : -9223372036854775808 ≤ x) (h1 : x ≤ 9223372036854775807) : wrap64 x = x := by unfold wrap64; omega
theorem len_snoc {α : Type} (pre : List α) (v : α) : (((pre ++ [v]).length : Nat) : Int) = ((pre.length : Nat) : Int) + 1 := by simp
def marks {α : Type} (M : Int → α) : Int → Nat → List α
  | _, 0 => []
  | k, n + 1 => M k :: marks M (k + 1) n
theorem marks_length {α : Type} (M : Int → α) : ∀ (n : Nat) (k : Int), (marks M k n).length = n
  | 0, _ => rfl
  | n + 1, k => by simp [marks, marks_length M n]

/-! ### words -/
theorem shr_eq (k : IntKind) (x : Int) (s : Nat) (h : s ≤ k.bits) : shr k x ((s : Nat) : Int) = x / 2 ^ s := by
  unfold shr
  rw [Int.toNat_natCast, Nat.min_eq_left h]
theorem shl_eq (k : IntKind) (x : Int) (s : Nat) (h : s ≤ k.bits) : shl k x ((s : Nat) : Int) = k.wrap (x * 2 ^ s) := by
  unfold shl
  rw [Int.toNat_natCast, Nat.min_eq_left h]
theorem tdn (n m : Nat) : Int.tdiv ((n : Nat) : Int) ((m : Nat) : Int) = ((n / m : Nat) : Int) := by
  rw [Int.tdiv_eq_ediv_of_nonneg (by omega)]; rfl
theorem tmn (n m : Nat) : Int.tmod ((n : Nat) : Int) ((m : Nat) : Int) = ((n % m : Nat) : Int) := by
  rw [Int.tmod_eq_emod_of_nonneg (by omega)]; rfl

theorem toByteS_l0 : ∀ (rest junk pre : List Int), junk.length = rest.length → (pre ++ rest).length ≤ 4611686018427387904 → Ev (fun k => laws_toByteS.l0 k (pre ++ rest) (pre ++ junk) ((pre.length : Nat) : Int)) (pre ++ rest)
  | [], junk, pre, hj, hl => by
    obtain rfl : junk = [] := List.eq_nil_of_length_eq_zero hj
    exact ⟨1, fun k hk => by obtain ⟨k, rfl⟩ : ∃ m, k = m + 1 := ⟨k - 1, by omega⟩; simp only [laws_toByteS.l0]; rw [if_neg (by simp)]⟩
  | r :: rest, [], pre, hj, hl => by simp at hj
  | r :: rest, j :: junk, pre, hj, hl => by
    have hlen : (pre ++ r :: rest).length = pre.length + (rest.length + 1) := by simp
    have hlen2 : (pre ++ j :: junk).length = pre.length + (junk.length + 1) := by simp
    have h := toByteS_l0 rest junk (pre ++ [r]) (by simpa using hj) (by simpa using hl)
    rw [len_snoc, List.append_assoc, List.singleton_append] at h
    refine Ev.step (fun k => ?_) h
    simp only [laws_toByteS.l0]
    rw [if_pos (by rw [hlen]; omega), if_pos (by omega), if_pos (by rw [hlen2]; omega), set_at, rd_at, w64 (by omega) (by omega)]
theorem toByteS_ev (l : List Int) (h : l.length ≤ 1048576) : Ev (fun k => laws_toByteS.f k l) l := by
  have h1 := toByteS_l0 l (List.replicate l.length 0) [] (by simp) (by simp; omega)
  refine Ev.congr (fun k => ?_) h1
  simp only [laws_toByteS.f]
  rw [if_pos (by omega), if_pos (by simp; omega)]
  simp

theorem eqByteS_l0 : ∀ (rest pre : List Int), (pre ++ rest).length ≤ 4611686018427387904 → Ev (fun k => laws_eqByteS.l0 k (pre ++ rest) (pre ++ rest) ((pre.length : Nat) : Int)) true
  | [], pre, hl => ⟨1, fun k hk => by obtain ⟨k, rfl⟩ : ∃ m, k = m + 1 := ⟨k - 1, by omega⟩; simp only [laws_eqByteS.l0]; rw [if_neg (by simp)]⟩
  | r :: rest, pre, hl => by
    have hlen : (pre ++ r :: rest).length = pre.length + (rest.length + 1) := by simp
    have h := eqByteS_l0 rest (pre ++ [r]) (by simpa using hl)
    rw [len_snoc, List.append_assoc, List.singleton_append] at h
    refine Ev.step (fun k => ?_) h
    simp only [laws_eqByteS.l0]
    rw [if_pos (by rw [hlen]; omega), if_pos (by omega), if_pos (by rw [hlen]; omega), if_pos trivial, w64 (by omega) (by omega)]
theorem eqByteS_ev (l : List Int) (h : l.length ≤ 4611686018427387904) : Ev (fun k => laws_eqByteS.f k l l) true := by
  have h1 := eqByteS_l0 l [] (by simpa using h)
  refine Ev.congr (fun k => ?_) h1
  simp only [laws_eqByteS.f]
  rw [if_pos trivial]
  rfl

theorem markByteS_l0 : ∀ (rest pre : List Int) (z : Int), (pre ++ rest).length ≤ 4611686018427387904 → 0 ≤ z → z + rest.length ≤ 4611686018427387904 →
    Ev (fun k => laws_markByteS.l0 k (pre ++ rest) z ((pre.length : Nat) : Int)) (z + rest.length, pre ++ marks (fun z => z % 256) z rest.length)
  | [], pre, z, hl, h0, h1 => ⟨1, fun k hk => by obtain ⟨k, rfl⟩ : ∃ m, k = m + 1 := ⟨k - 1, by omega⟩; simp only [laws_markByteS.l0]; rw [if_neg (by simp)]; simp [marks]⟩
  | r :: rest, pre, z, hl, h0, h1 => by
    have hlen : (pre ++ r :: rest).length = pre.length + (rest.length + 1) := by simp
    rw [List.length_cons] at h1
    have h := markByteS_l0 rest (pre ++ [(fun z => z % 256) z]) (z + 1) (by simpa using hl) (by omega) (by omega)
    rw [len_snoc, List.append_assoc pre [(fun z => z % 256) z] rest, List.append_assoc pre [(fun z => z % 256) z] (marks _ _ _), List.singleton_append, List.singleton_append, show z + 1 + (rest.length : Int) = z + ((r :: rest).length : Nat) from by rw [List.length_cons]; omega] at h
    refine Ev.step (fun k => ?_) h
    simp only [laws_markByteS.l0]
    rw [if_pos (by rw [hlen]; omega), if_pos (by omega), set_at, w64 (by omega) (by omega), w64 (x := ((pre.length : Nat) : Int) + 1) (by omega) (by omega), List.append_assoc, List.singleton_append]
theorem markByteS_ev (l : List Int) (z : Int) (h : l.length ≤ 4294967296) (h0 : 0 ≤ z) (h1 : z ≤ 4294967296) : Ev (fun k => laws_markByteS.f k l z) (z + l.length, marks (fun z => z % 256) z l.length) := by
  have h1 := markByteS_l0 l [] z (by simp; omega) h0 (by omega)
  exact Ev.congr (fun k => rfl) h1

/-! ### finite -/
theorem l2finite_f (x : Nat) (hx : x < 4294967296) : spec_l2finite.f (x : Int) = some (x / 8388608 % 256 != 255) := by
  unfold spec_l2finite.f
  rw [show (8388608 : Int) = ((8388608 : Nat) : Int) from rfl, tdn]
  congr 1
  by_cases h : x / 8388608 % 256 = 255
  · rw [bne_eq_false_iff_eq.2 h, bne_eq_false_iff_eq]; omega
  · rw [bne_iff_ne.2 h, bne_iff_ne]; omega
theorem finite_f (x : Nat) (hx : x < 4294967296) : impl_finite.f (x : Int) = some (x / 8388608 % 256 != 255) := by
  unfold impl_finite.f
  rw [if_pos (by omega)]
  congr 1
  by_cases h : x / 8388608 % 256 = 255
  · rw [bne_eq_false_iff_eq.2 h, bne_eq_false_iff_eq]; omega
  · rw [bne_iff_ne.2 h, bne_iff_ne]; omega
theorem u32_nat {a : Int} (h : (Lit.int .u32 a).wf = true) : ∃ n : Nat, a = (n : Int) ∧ n < 4294967296 := by
  have h2 : 0 ≤ a ∧ a < 4294967296 := by
    simp [Lit.wf, IntKind.min, IntKind.max, IntKind.bits, IntKind.signed] at h
    omega
  obtain ⟨n, rfl⟩ := Int.eq_ofNat_of_zero_le h2.1
  exact ⟨n, rfl, by omega⟩

/-! ### bytes: numbers, bits, and a picture's form -/
def By (b : List Int) : Prop := ∀ x ∈ b, 0 ≤ x ∧ x < 256
def gB (b : List Int) (i : Nat) : Int := b.getD i 0
theorem gB_by {b : List Int} (h : By b) (i : Nat) : 0 ≤ gB b i ∧ gB b i < 256 := by
  unfold gB
  by_cases hi : i < b.length
  · rw [List.getD_eq_getElem?_getD, List.getElem?_eq_getElem hi]
    exact h _ (List.getElem_mem hi)
  · rw [List.getD_eq_getElem?_getD, List.getElem?_eq_none (by omega)]
    simp
theorem rd_gB (b : List Int) (i : Nat) {z : Int} (h : z = (i : Int)) : rd b z = gB b i := by subst h; exact rd_nat b i
theorem wf_by {l : List Int} (h : ∀ y ∈ l, (Lit.int .u8 y).wf = true) : By l := fun d hd => by
  have := h d hd
  simp [Lit.wf, IntKind.min, IntKind.max, IntKind.bits, IntKind.signed] at this
  omega
/-! ### texts of bytes -/

/-! ### numbers in bytes -/
def u4 (b : List Int) (i : Nat) : Int := gB b i + 256 * gB b (i + 1) + 65536 * gB b (i + 2) + 16777216 * gB b (i + 3)
theorem u4_lt {b : List Int} (h : By b) (i : Nat) : 0 ≤ u4 b i ∧ u4 b i < 4294967296 := by
  have h0 := gB_by h i
  have h1 := gB_by h (i + 1)
  have h2 := gB_by h (i + 2)
  have h3 := gB_by h (i + 3)
  unfold u4
  omega
theorem num_step {b : List Int} (hb : By b) (hl : b.length ≤ 2000000) (a j : Nat) (v z : Int) (hz : z = (j : Int) - 1) (h0 : 0 ≤ v) (h1 : v ≤ 281474976710656) (hj : a + j < b.length) {r : Int}
    (h : Ev (fun k => spec_l6number.l0 k b (a : Int) (v * 256 + gB b (a + j)) z) r) : Ev (fun k => spec_l6number.l0 k b (a : Int) v (j : Int)) r := by
  have hg := gB_by hb (a + j)
  subst hz
  refine Ev.step (fun k => ?_) h
  simp only [spec_l6number.l0]
  rw [if_pos (by omega), w64 (x := (a : Int) + j) (by omega) (by omega), if_pos (by omega), if_pos (by omega), rd_gB b (a + j) (by omega), w64 (x := v * 256) (by omega) (by omega), w64 (x := gB b (a + j)) (by omega) (by omega), w64 (x := v * 256 + gB b (a + j)) (by omega) (by omega), w64 (x := (j : Int) - 1) (by omega) (by omega)]
theorem num_end (b : List Int) (a : Nat) (v : Int) : Ev (fun k => spec_l6number.l0 k b (a : Int) v (-1)) v := ⟨1, fun k hk => by
  obtain ⟨k, rfl⟩ : ∃ m, k = m + 1 := ⟨k - 1, by omega⟩
  simp only [spec_l6number.l0]
  rw [if_neg (by omega)]⟩
theorem number4_ev {b : List Int} (hb : By b) (hl : b.length ≤ 2000000) (a : Nat) (z : Int) (hz : z = (a : Int)) (h : a + 4 ≤ b.length) : Ev (fun k => spec_l6number.f k b z 4) (u4 b a) := by
  have h0 := gB_by hb (a + 0)
  have h1 := gB_by hb (a + 1)
  have h2 := gB_by hb (a + 2)
  have h3 := gB_by hb (a + 3)
  subst hz
  have e : u4 b a = ((((0 : Int) * 256 + gB b (a + 3)) * 256 + gB b (a + 2)) * 256 + gB b (a + 1)) * 256 + gB b (a + 0) := by have e0 : gB b (a + 0) = gB b a := rfl; unfold u4; omega
  rw [e]
  refine Ev.congr (fun k => ?_) (num_step hb hl a 3 0 2 (by omega) (by omega) (by omega) (by omega) (num_step hb hl a 2 _ 1 (by omega) (by omega) (by omega) (by omega) (num_step hb hl a 1 _ 0 (by omega) (by omega) (by omega) (by omega) (num_step hb hl a 0 _ (-1) (by omega) (by omega) (by omega) (by omega) (num_end b a _)))))
  unfold spec_l6number.f
  rw [w64 (x := (a : Int) + 4) (by omega) (by omega), if_neg (by omega), show wrap64 (4 - 1) = ((3 : Nat) : Int) from by unfold wrap64; omega]
theorem number2_ev {b : List Int} (hb : By b) (hl : b.length ≤ 2000000) (a : Nat) (z : Int) (hz : z = (a : Int)) (h : a + 2 ≤ b.length) : Ev (fun k => spec_l6number.f k b z 2) (gB b a + 256 * gB b (a + 1)) := by
  have h0 := gB_by hb (a + 0)
  have h1 := gB_by hb (a + 1)
  subst hz
  have e : gB b a + 256 * gB b (a + 1) = ((0 : Int) * 256 + gB b (a + 1)) * 256 + gB b (a + 0) := by have e0 : gB b (a + 0) = gB b a := rfl; omega
  rw [e]
  refine Ev.congr (fun k => ?_) (num_step hb hl a 1 0 0 (by omega) (by omega) (by omega) (by omega) (num_step hb hl a 0 _ (-1) (by omega) (by omega) (by omega) (by omega) (num_end b a _)))
  unfold spec_l6number.f
  rw [w64 (x := (a : Int) + 2) (by omega) (by omega), if_neg (by omega), show wrap64 (2 - 1) = ((1 : Nat) : Int) from by unfold wrap64; omega]
theorem number1_ev {b : List Int} (hb : By b) (hl : b.length ≤ 2000000) (a : Nat) (z : Int) (hz : z = (a : Int)) (h : a + 1 ≤ b.length) : Ev (fun k => spec_l6number.f k b z 1) (gB b a) := by
  have h0 := gB_by hb (a + 0)
  subst hz
  have e : gB b a = (0 : Int) * 256 + gB b (a + 0) := by have e0 : gB b (a + 0) = gB b a := rfl; omega
  rw [e]
  refine Ev.congr (fun k => ?_) (num_step hb hl a 0 0 (-1) (by omega) (by omega) (by omega) (by omega) (num_end b a _))
  unfold spec_l6number.f
  rw [w64 (x := (a : Int) + 1) (by omega) (by omega), if_neg (by omega), show wrap64 (1 - 1) = ((0 : Nat) : Int) from by unfold wrap64; omega]
theorem number_short {b : List Int} (hl : b.length ≤ 2000000) (a n : Nat) (ha : a ≤ 2000000) (hn : n ≤ 8) (z : Int) (hz : z = (a : Int)) (h : b.length < a + n) : Ev (fun k => spec_l6number.f k b z (n : Int)) (-1) := by
  subst hz
  refine ⟨0, fun k _ => ?_⟩
  show spec_l6number.f k b (a : Int) (n : Int) = some (-1)
  unfold spec_l6number.f
  rw [w64 (x := (a : Int) + n) (by omega) (by omega), if_pos (by omega)]

/-! ### a scene's bytes: the spec's fault and the impl's reading, step by step -/
def ptV (b : List Int) (a : Nat) : S67 := ⟨u4 b a, u4 b (a + 4), u4 b (a + 8)⟩
theorem okB_of {b : List Int} (hb : By b) (hl : b.length ≤ 1048576) : okB b = true := by
  unfold okB
  rw [Bool.and_eq_true, List.all_eq_true]
  exact ⟨decide_eq_true (by omega), fun x hx => decide_eq_true (hb x hx)⟩
theorem nV4 {b : List Int} (h : By b) (a : Nat) : ((numV b a 4 : Nat) : Int) = u4 b a := by
  have e : numV b a 4 = (gB b a).toNat + 256 * ((gB b (a + 1)).toNat + 256 * ((gB b (a + 2)).toNat + 256 * ((gB b (a + 3)).toNat + 256 * 0))) := rfl
  have h0 := gB_by h a
  have h1 := gB_by h (a + 1)
  have h2 := gB_by h (a + 2)
  have h3 := gB_by h (a + 3)
  rw [e]
  unfold u4
  omega
theorem nV2 {b : List Int} (h : By b) (a : Nat) : ((numV b a 2 : Nat) : Int) = gB b a + 256 * gB b (a + 1) := by
  have e : numV b a 2 = (gB b a).toNat + 256 * ((gB b (a + 1)).toNat + 256 * 0) := rfl
  have h0 := gB_by h a
  have h1 := gB_by h (a + 1)
  rw [e]
  omega
theorem nV1 {b : List Int} (h : By b) (a : Nat) : ((numV b a 1 : Nat) : Int) = gB b a := by
  have e : numV b a 1 = (gB b a).toNat + 256 * 0 := rfl
  have h0 := gB_by h a
  rw [e]
  omega
structure CT (b : List Int) (t r l : Nat) : Prop where
  by_ : By b
  len : b.length ≤ 1048576
  t : t ≤ 40
  r : r ≤ 40
  l : l ≤ 4
abbrev F2 (b : List Int) (t r l i : Nat) : Nat → Option (Int × Int) := fun k => spec_l6fault.l2 k b [(t : Int), (r : Int), (l : Int)] 9 ((9 * t + 6 * r + 3 * l : Nat) : Int) (i : Int)
theorem adr {i : Nat} (h : i ≤ 100000) : wrap64 (9 + wrap64 (4 * (i : Int))) = ((9 + 4 * i : Nat) : Int) := by
  rw [w64 (x := 4 * (i : Int)) (by omega) (by omega), w64 (by omega) (by omega)]
  omega
theorem sub9 {i t : Nat} (h : i ≤ 100000) (ht : t ≤ 40) : wrap64 ((i : Int) - wrap64 (9 * (t : Int))) = (i : Int) - 9 * t := by
  rw [w64 (x := 9 * (t : Int)) (by omega) (by omega)]
  exact w64 (by omega) (by omega)
theorem sub8 {i : Nat} (h : i ≤ 100000) : wrap64 (((9 + 4 * i : Nat) : Int) - 8) = ((9 + 4 * i - 8 : Nat) : Int) := by
  have e : (((9 + 4 * i : Nat) : Int) - 8) = ((9 + 4 * i - 8 : Nat) : Int) := by omega
  rw [e]
  exact w64 (by omega) (by omega)
/-- One word: what ends the reading here, or what it is. -/
theorem fl {b : List Int} {t r l : Nat} (h : CT b t r l) (i : Nat) (hi : i < 9 * t + 6 * r + 3 * l) :
    match floatE b (9 + 4 * i) with
    | .error e => Ev (F2 b t r l i) e ∧ e.1 ≠ 0
    | .ok v => (v : Int) = u4 b (9 + 4 * i) ∧ 9 + 4 * i + 4 ≤ b.length ∧ finB v = true := by
  have ht := h.t
  have hr := h.r
  have hl := h.l
  have hlen := h.len
  have c1 : (i : Int) < ((9 * t + 6 * r + 3 * l : Nat) : Int) := by omega
  by_cases hs : 9 + 4 * i + 4 ≤ b.length
  · have e : numE b (9 + 4 * i) 4 = .ok (numV b (9 + 4 * i) 4) := if_pos hs
    by_cases hf : finB (numV b (9 + 4 * i) 4) = true
    · have e2 : floatE b (9 + 4 * i) = .ok (numV b (9 + 4 * i) 4) := by
        unfold floatE
        rw [e]
        exact if_pos hf
      rw [e2]
      exact ⟨nV4 h.by_ _, hs, hf⟩
    · have e2 : floatE b (9 + 4 * i) = .error (6, ((9 + 4 * i : Nat) : Int)) := by
        unfold floatE
        rw [e]
        exact if_neg hf
      rw [e2]
      refine ⟨?_, show (6 : Int) ≠ 0 from by decide⟩
      obtain ⟨n1, h1⟩ := number4_ev h.by_ (by omega) (9 + 4 * i) _ rfl hs
      refine ⟨n1 + 1, fun k hk => ?_⟩
      obtain ⟨k, rfl⟩ : ∃ m, k = m + 1 := ⟨k - 1, by omega⟩
      have hv2 : numV b (9 + 4 * i) 4 < 4294967296 := by simpa using numV_lt (okB_spec (okB_of h.by_ h.len)) 4 (9 + 4 * i)
      have hp2 : ¬ ((numV b (9 + 4 * i) 4 : Nat) : Int) < 0 := by omega
      have hm2 : ((numV b (9 + 4 * i) 4 : Nat) : Int) % 4294967296 = ((numV b (9 + 4 * i) 4 : Nat) : Int) := Int.emod_eq_of_lt (by omega) (by omega)
      have ha2 := adr (i := i) (by omega)
      have h3 := l2finite_f (numV b (9 + 4 * i) 4) hv2
      rw [← nV4 h.by_] at h1
      have h4 := h1 k (by omega)
      dsimp only at h4
      simp only [spec_l6fault.l2]
      rw [if_pos c1, ha2, h4, Option.bind_some, if_neg hp2, hm2, h3, Option.bind_some]
      exact if_neg hf
  · have e2 : floatE b (9 + 4 * i) = .error (5, (b.length : Int)) := by
      unfold floatE
      rw [show numE b (9 + 4 * i) 4 = .error (5, (b.length : Int)) from if_neg hs]
    rw [e2]
    refine ⟨?_, show (5 : Int) ≠ 0 from by decide⟩
    obtain ⟨n1, h1⟩ := number_short (b := b) (by omega) (9 + 4 * i) 4 (by omega) (by omega) _ rfl (by omega)
    refine ⟨n1 + 1, fun k hk => ?_⟩
    obtain ⟨k, rfl⟩ : ∃ m, k = m + 1 := ⟨k - 1, by omega⟩
    have h4 : spec_l6number.f k b ((9 + 4 * i : Nat) : Int) 4 = some (-1) := h1 k (by omega)
    have ha2 := adr (i := i) (by omega)
    simp only [spec_l6fault.l2]
    rw [if_pos c1, ha2, h4, Option.bind_some, if_pos (show (-1 : Int) < 0 from by decide)]
theorem num4_fin {b : List Int} {t r l : Nat} (h : CT b t r l) (a : Nat) (hs : a + 4 ≤ b.length) {v : Nat} (hv : (v : Int) = u4 b a) (hf : finB v = true) :
    Ev (fun k => spec_l6number.f k b (a : Int) 4) (v : Int) ∧ (v : Int) % 4294967296 = v ∧ spec_l2finite.f (v : Int) = some true := by
  have hlen := h.len
  have h1 := number4_ev h.by_ (by omega) a _ rfl hs
  have h2 := u4_lt h.by_ a
  refine ⟨by rw [hv]; exact h1, Int.emod_eq_of_lt (by omega) (by omega), ?_⟩
  rw [l2finite_f v (by omega)]
  exact congrArg some hf
/-- A word that is not the last of a ray is passed. -/
theorem fl_step {b : List Int} {t r l : Nat} (h : CT b t r l) (i : Nat) (hi : i < 9 * t + 6 * r + 3 * l) (hn : ¬ (9 * t ≤ i ∧ i - 9 * t < 6 * r ∧ (i - 9 * t) % 6 = 5)) (hs : 9 + 4 * i + 4 ≤ b.length) {v : Nat} (hv : (v : Int) = u4 b (9 + 4 * i)) (hf : finB v = true)
    {x : Int × Int} (hx : Ev (F2 b t r l (i + 1)) x) : Ev (F2 b t r l i) x := by
  have ht := h.t
  have hr := h.r
  have hl := h.l
  have hlen := h.len
  have hi5 : i ≤ 100000 := by clear hn hv; omega
  have c1 : (i : Int) < ((9 * t + 6 * r + 3 * l : Nat) : Int) := by clear hn; omega
  obtain ⟨⟨n1, h1⟩, h2, h3⟩ := num4_fin h _ hs hv hf
  obtain ⟨n2, h4⟩ := hx
  refine ⟨n1 + n2 + 1, fun k hk => ?_⟩
  obtain ⟨k, rfl⟩ : ∃ m, k = m + 1 := ⟨k - 1, by omega⟩
  have e1 : wrap64 ((i : Int) + 1) = ((i + 1 : Nat) : Int) := w64 (by clear hn; omega) (by clear hn; omega)
  have e2 := sub9 (i := i) (t := t) hi5 ht
  have e3 : wrap64 (6 * (r : Int)) = 6 * r := w64 (by clear hn; omega) (by clear hn; omega)
  have d0 : rd [(t : Int), (r : Int), (l : Int)] 0 = t := rfl
  have d1 : rd [(t : Int), (r : Int), (l : Int)] 1 = r := rfl
  have h5 : spec_l6fault.l2 k b [(t : Int), (r : Int), (l : Int)] 9 ((9 * t + 6 * r + 3 * l : Nat) : Int) ((i + 1 : Nat) : Int) = some x := h4 k (by clear hn; omega)
  have h6 : spec_l6number.f k b ((9 + 4 * i : Nat) : Int) 4 = some (v : Int) := h1 k (by clear hn; omega)
  have ha2 := adr (i := i) hi5
  have hp2 : ¬ (v : Int) < 0 := Int.not_lt.2 (Int.natCast_nonneg v)
  have l3 : ((([(t : Int), (r : Int), (l : Int)] : List Int).length : Nat) : Int) = 3 := rfl
  clear h1 h4 hk
  simp only [spec_l6fault.l2]
  rw [if_pos c1, ha2, h6, Option.bind_some, if_neg hp2, h2, h3, Option.bind_some, if_pos rfl, l3, if_pos (show (0 : Int) < 3 from by decide), d0, d1, e1, e2, e3, h5]
  by_cases g1 : (i : Int) - 9 * t ≥ 0
  · rw [if_pos g1, if_pos (show (1 : Int) < 3 from by decide)]
    by_cases g2 : (i : Int) - 9 * t < 6 * r
    · have g3 : ¬ ((i : Int) - 9 * t) % 6 = 5 := by omega
      rw [if_pos g2, Int.tmod_eq_emod_of_nonneg g1, if_neg g3]
    · rw [if_neg g2]
  · rw [if_neg g1]
theorem float_ev {b : List Int} (hb : By b) (hl : b.length ≤ 2000000) (a : Nat) {z : Int} (hz : z = (a : Int)) (h : a + 4 ≤ b.length) : Ev (fun k => spec_l6float.f k b z) (u4 b a) := by
  have h1 := number4_ev hb hl a z hz h
  have h2 := u4_lt hb a
  unfold spec_l6float.f
  refine ev_bindc h1 ?_
  rw [if_neg (by omega), Int.emod_eq_of_lt (by omega) (by omega)]
theorem pointAt_ev {b : List Int} (hb : By b) (hl : b.length ≤ 2000000) (a : Nat) {z : Int} (hz : z = (a : Int)) (h : a + 12 ≤ b.length) : Ev (fun k => spec_l6pointAt.f k b z) ((ptV b a).f0, (ptV b a).f1, (ptV b a).f2) := by
  subst hz
  unfold spec_l6pointAt.f
  refine Ev.bind (float_ev hb hl a rfl (by omega)) ?_
  refine Ev.bind (float_ev hb hl (a + 4) (z := wrap64 ((a : Int) + 4)) (w64 (by omega) (by omega)) (by omega)) ?_
  refine Ev.bind (float_ev hb hl (a + 8) (z := wrap64 ((a : Int) + 8)) (w64 (by omega) (by omega)) (by omega)) ?_
  exact ev_const rfl
theorem bor32 (x y : Nat) (hx : x < 4294967296) (hy : y < 4294967296) : Go.bits .or .u32 ((x : Nat) : Int) ((y : Nat) : Int) = ((x ||| y : Nat) : Int) := by
  have h : x ||| y < 4294967296 := Nat.or_lt_two_pow (n := 32) hx hy
  show IntKind.u32.wrap (((BitVec.ofInt 32 ((x : Nat) : Int) ||| BitVec.ofInt 32 ((y : Nat) : Int)).toNat : Nat) : Int) = _
  rw [BitVec.toNat_or, BitVec.ofInt_natCast, BitVec.ofInt_natCast, BitVec.toNat_ofNat, BitVec.toNat_ofNat, Nat.mod_eq_of_lt (a := x) (by omega), Nat.mod_eq_of_lt (a := y) (by omega)]
  have h2 : ∀ z : Int, IntKind.u32.wrap z = z % 4294967296 := fun z => by simp [IntKind.wrap, IntKind.bits, IntKind.signed]
  rw [h2]
  omega
theorem noWay_zero (p : S67) (h0 : 0 ≤ p.f0 ∧ p.f0 < 4294967296) (h1 : 0 ≤ p.f1 ∧ p.f1 < 4294967296) (h2 : 0 ≤ p.f2 ∧ p.f2 < 4294967296) : spec_l3noWay.f p.f0 p.f1 p.f2 = some (QDecodeScene.zeroP p) := by
  obtain ⟨x, hx⟩ := Int.eq_ofNat_of_zero_le h0.1
  obtain ⟨y, hy⟩ := Int.eq_ofNat_of_zero_le h1.1
  obtain ⟨z, hz⟩ := Int.eq_ofNat_of_zero_le h2.1
  have hx4 : x < 4294967296 := by omega
  have hy4 : y < 4294967296 := by omega
  have hz4 : z < 4294967296 := by omega
  have hm : (x ||| y ||| z) % 2147483648 = x % 2147483648 ||| y % 2147483648 ||| z % 2147483648 := by
    rw [show 2147483648 = 2 ^ 31 from by decide, Nat.or_mod_two_pow, Nat.or_mod_two_pow]
  have hz1 : ((x ||| y ||| z) % 2147483648 = 0) ↔ (x % 2147483648 = 0 ∧ y % 2147483648 = 0 ∧ z % 2147483648 = 0) := by
    rw [hm, Nat.or_eq_zero_iff, Nat.or_eq_zero_iff, and_assoc]
  have e : QDecodeScene.zeroP p = (x % 2147483648 == 0 && y % 2147483648 == 0 && z % 2147483648 == 0) := by
    unfold QDecodeScene.zeroP
    rw [hx, hy, hz, bor32 x y hx4 hy4, bor32 (x ||| y) z (Nat.or_lt_two_pow (n := 32) hx4 hy4) hz4]
    generalize x ||| y ||| z = v at hz1 ⊢
    rw [Bool.eq_iff_iff]
    simp only [Bool.and_eq_true, beq_iff_eq]
    omega
  rw [e]
  unfold spec_l3noWay.f spec_l3isZero.f
  rw [hx, hy, hz, Int.tmod_eq_emod_of_nonneg (by omega), Int.tmod_eq_emod_of_nonneg (by omega), Int.tmod_eq_emod_of_nonneg (by omega)]
  have b1 : ∀ v : Nat, (((v : Int) % 2147483648) == 0) = (v % 2147483648 == 0) := fun v => by
    rw [Bool.eq_iff_iff]
    simp only [beq_iff_eq]
    omega
  rw [b1, b1, b1]
  simp only [Option.bind_some]
  cases (x % 2147483648 == 0) <;> cases (y % 2147483648 == 0) <;> rfl
theorem ptV_lt {b : List Int} (hb : By b) (a : Nat) : (0 ≤ (ptV b a).f0 ∧ (ptV b a).f0 < 4294967296) ∧ (0 ≤ (ptV b a).f1 ∧ (ptV b a).f1 < 4294967296) ∧ (0 ≤ (ptV b a).f2 ∧ (ptV b a).f2 < 4294967296) := ⟨u4_lt hb _, u4_lt hb _, u4_lt hb _⟩
/-- The last word of a ray: its way is looked at. -/
theorem fl_way {b : List Int} {t r l : Nat} (h : CT b t r l) (i : Nat) (hi : i < 9 * t + 6 * r + 3 * l) (hn : 9 * t ≤ i ∧ i - 9 * t < 6 * r ∧ (i - 9 * t) % 6 = 5) (hs : 9 + 4 * i + 4 ≤ b.length) {v : Nat} (hv : (v : Int) = u4 b (9 + 4 * i)) (hf : finB v = true) (hi2 : 2 ≤ i) :
    (QDecodeScene.zeroP (ptV b (9 + 4 * i - 8)) = true → Ev (F2 b t r l i) (7, ((9 + 4 * i - 8 : Nat) : Int))) ∧ (QDecodeScene.zeroP (ptV b (9 + 4 * i - 8)) = false → ∀ x, Ev (F2 b t r l (i + 1)) x → Ev (F2 b t r l i) x) := by
  have ht := h.t
  have hr := h.r
  have hl := h.l
  have hlen := h.len
  have hi5 : i ≤ 100000 := by clear hn hv; omega
  have c1 : (i : Int) < ((9 * t + 6 * r + 3 * l : Nat) : Int) := by clear hn; omega
  have g1 : (i : Int) - 9 * t ≥ 0 := by clear hv hi5 c1; omega
  have g2 : (i : Int) - 9 * t < 6 * r := by clear hv hi5 c1; omega
  have g3 : ((i : Int) - 9 * t) % 6 = 5 := by clear hv hi5 c1; omega
  obtain ⟨⟨n1, h1⟩, h2, h3⟩ := num4_fin h _ hs hv hf
  obtain ⟨n3, h6⟩ := pointAt_ev h.by_ (by clear hn; omega) (9 + 4 * i - 8) rfl (by clear hn; omega)
  have hp := ptV_lt h.by_ (9 + 4 * i - 8)
  have hw := noWay_zero (ptV b (9 + 4 * i - 8)) hp.1 hp.2.1 hp.2.2
  have e1 : wrap64 ((i : Int) + 1) = ((i + 1 : Nat) : Int) := w64 (by clear hn; omega) (by clear hn; omega)
  have e2 := sub9 (i := i) (t := t) hi5 ht
  have e3 : wrap64 (6 * (r : Int)) = 6 * r := w64 (by clear hn; omega) (by clear hn; omega)
  have e4 := sub8 (i := i) hi5
  have d0 : rd [(t : Int), (r : Int), (l : Int)] 0 = t := rfl
  have d1 : rd [(t : Int), (r : Int), (l : Int)] 1 = r := rfl
  have ha2 := adr (i := i) hi5
  have hp2 : ¬ (v : Int) < 0 := Int.not_lt.2 (Int.natCast_nonneg v)
  have l3 : ((([(t : Int), (r : Int), (l : Int)] : List Int).length : Nat) : Int) = 3 := rfl
  have key : ∀ k, n1 ≤ k → n3 ≤ k → spec_l6fault.l2 (k + 1) b [(t : Int), (r : Int), (l : Int)] 9 ((9 * t + 6 * r + 3 * l : Nat) : Int) (i : Int) = if QDecodeScene.zeroP (ptV b (9 + 4 * i - 8)) = true then some (7, ((9 + 4 * i - 8 : Nat) : Int)) else F2 b t r l (i + 1) k := by
    intro k k1 k3
    have h7 : spec_l6pointAt.f k b ((9 + 4 * i - 8 : Nat) : Int) = some ((ptV b (9 + 4 * i - 8)).f0, (ptV b (9 + 4 * i - 8)).f1, (ptV b (9 + 4 * i - 8)).f2) := h6 k k3
    have h8 : spec_l6number.f k b ((9 + 4 * i : Nat) : Int) 4 = some (v : Int) := h1 k k1
    simp only [spec_l6fault.l2]
    rw [if_pos c1, ha2, h8, Option.bind_some, if_neg hp2, h2, h3, Option.bind_some, if_pos rfl, l3, if_pos (show (0 : Int) < 3 from by decide), d0, d1, e1, e2, e3, e4, if_pos g1, if_pos (show (1 : Int) < 3 from by decide), if_pos g2, Int.tmod_eq_emod_of_nonneg g1, if_pos g3, h7, Option.bind_some]
    dsimp only
    rw [hw, Option.bind_some]
  refine ⟨fun hz => ⟨n1 + n3 + 1, fun k hk => ?_⟩, fun hz x ⟨n2, h4⟩ => ⟨n1 + n3 + n2 + 1, fun k hk => ?_⟩⟩
  · obtain ⟨k, rfl⟩ : ∃ m, k = m + 1 := ⟨k - 1, by omega⟩
    have := key k (by clear hn; omega) (by clear hn; omega)
    rw [if_pos hz] at this
    exact this
  · obtain ⟨k, rfl⟩ : ∃ m, k = m + 1 := ⟨k - 1, by omega⟩
    have := key k (by clear hn; omega) (by clear hn; omega)
    rw [if_neg (by rw [hz]; decide)] at this
    exact this.trans (h4 k (by clear hn; omega))

/-- A point whose words are no ray's last. -/
theorem pt {b : List Int} {t r l : Nat} (h : CT b t r l) (i : Nat) (hi : i + 2 < 9 * t + 6 * r + 3 * l) (hn : ∀ j, i ≤ j → j ≤ i + 2 → ¬ (9 * t ≤ j ∧ j - 9 * t < 6 * r ∧ (j - 9 * t) % 6 = 5)) :
    match pointE b (9 + 4 * i) with
    | .error e => Ev (F2 b t r l i) e ∧ e.1 ≠ 0
    | .ok p => p = ptV b (9 + 4 * i) ∧ 9 + 4 * i + 12 ≤ b.length ∧ ∀ x, Ev (F2 b t r l (i + 3)) x → Ev (F2 b t r l i) x := by
  have f0 := fl h i (by clear hn; omega)
  have f1 := fl h (i + 1) (by clear hn; omega)
  have f2 := fl h (i + 2) (by clear hn; omega)
  have a1 : 9 + 4 * (i + 1) = 9 + 4 * i + 4 := by clear hn; omega
  have a2 : 9 + 4 * (i + 2) = 9 + 4 * i + 8 := by clear hn; omega
  have s0 := fl_step h i (by clear hn; omega) (hn i (by clear hn; omega) (by clear hn; omega))
  have s1 := fl_step h (i + 1) (by clear hn; omega) (hn (i + 1) (by clear hn; omega) (by clear hn; omega))
  have s2 := fl_step h (i + 2) (by clear hn; omega) (hn (i + 2) (by clear hn; omega) (by clear hn; omega))
  rw [a1] at f1 s1
  rw [a2] at f2 s2
  clear hn
  unfold pointE
  cases h0 : floatE b (9 + 4 * i) with
  | error e =>
    rw [h0] at f0
    exact f0
  | ok x =>
    rw [h0] at f0
    obtain ⟨v0, b0, g0⟩ := f0
    dsimp only
    cases h1 : floatE b (9 + 4 * i + 4) with
    | error e =>
      rw [h1] at f1
      exact ⟨s0 b0 v0 g0 f1.1, f1.2⟩
    | ok y =>
      rw [h1] at f1
      obtain ⟨v1, b1, g1⟩ := f1
      dsimp only
      cases h2 : floatE b (9 + 4 * i + 8) with
      | error e =>
        rw [h2] at f2
        exact ⟨s0 b0 v0 g0 (s1 b1 v1 g1 f2.1), f2.2⟩
      | ok z =>
        rw [h2] at f2
        obtain ⟨v2, b2, g2⟩ := f2
        refine ⟨?_, b2, fun x hx => s0 b0 v0 g0 (s1 b1 v1 g1 (s2 b2 v2 g2 hx))⟩
        show (⟨(x : Int), (y : Int), (z : Int)⟩ : S67) = _
        rw [v0, v1, v2]
        rfl
/-- A ray's way. -/
theorem ptd {b : List Int} {t r l : Nat} (h : CT b t r l) (j : Nat) (hj : j < r) (i : Nat) (hij : i = 9 * t + 6 * j + 3) :
    match pointE b (9 + 4 * i) with
    | .error e => Ev (F2 b t r l i) e ∧ e.1 ≠ 0
    | .ok p => p = ptV b (9 + 4 * i) ∧ 9 + 4 * i + 12 ≤ b.length ∧ (QDecodeScene.zeroP p = true → Ev (F2 b t r l i) (7, ((9 + 4 * i : Nat) : Int))) ∧ (QDecodeScene.zeroP p = false → ∀ x, Ev (F2 b t r l (i + 3)) x → Ev (F2 b t r l i) x) := by
  have f0 := fl h i (by omega)
  have f1 := fl h (i + 1) (by omega)
  have f2 := fl h (i + 2) (by omega)
  have a1 : 9 + 4 * (i + 1) = 9 + 4 * i + 4 := by omega
  have a2 : 9 + 4 * (i + 2) = 9 + 4 * i + 8 := by omega
  have a3 : 9 + 4 * (i + 2) - 8 = 9 + 4 * i := by omega
  have s0 := fl_step h i (by omega) (by omega)
  have s1 := fl_step h (i + 1) (by omega) (by omega)
  have s2 := fl_way h (i + 2) (by omega) (by omega)
  rw [a3, a2] at s2
  rw [a1] at f1 s1
  rw [a2] at f2
  unfold pointE
  cases h0 : floatE b (9 + 4 * i) with
  | error e =>
    rw [h0] at f0
    exact f0
  | ok x =>
    rw [h0] at f0
    obtain ⟨v0, b0, g0⟩ := f0
    dsimp only
    cases h1 : floatE b (9 + 4 * i + 4) with
    | error e =>
      rw [h1] at f1
      exact ⟨s0 b0 v0 g0 f1.1, f1.2⟩
    | ok y =>
      rw [h1] at f1
      obtain ⟨v1, b1, g1⟩ := f1
      dsimp only
      cases h2 : floatE b (9 + 4 * i + 8) with
      | error e =>
        rw [h2] at f2
        exact ⟨s0 b0 v0 g0 (s1 b1 v1 g1 f2.1), f2.2⟩
      | ok z =>
        rw [h2] at f2
        obtain ⟨v2, b2, g2⟩ := f2
        have hp : (⟨(x : Int), (y : Int), (z : Int)⟩ : S67) = ptV b (9 + 4 * i) := by
          rw [v0, v1, v2]
          rfl
        have s3 := s2 b2 v2 g2 (by omega)
        dsimp only
        rw [hp]
        exact ⟨rfl, b2, fun hz => s0 b0 v0 g0 (s1 b1 v1 g1 (s3.1 hz)), fun hz x hx => s0 b0 v0 g0 (s1 b1 v1 g1 (s3.2 hz x hx))⟩
abbrev SRes := List S70 × List S72 × List S67 × Int × Int
/-- What is read (or the fault) is what the spec's fault F and reading D come to. -/
def Good (F : Nat → Option (Int × Int)) (D : Nat → Option SRes) (x : Except ER SCR) : Prop :=
  match x with
  | .error e => Ev F e ∧ e.1 ≠ 0
  | .ok s => Ev F (0, 0) ∧ Ev D (s.1, s.2.1, s.2.2, 0, 0) ∧ s.1.length ≤ 40 ∧ s.2.1.length ≤ 40 ∧ s.2.2.length ≤ 4
theorem Good.step {F F' : Nat → Option (Int × Int)} {D D' : Nat → Option SRes} {x : Except ER SCR} (hF : ∀ y, Ev F y → Ev F' y) (hD : ∀ y, Ev D y → Ev D' y) (h : Good F D x) : Good F' D' x := by
  cases x with
  | error e => exact ⟨hF _ h.1, h.2⟩
  | ok s => exact ⟨hF _ h.1, hD _ h.2.1, h.2.2⟩
theorem fin_good {b : List Int} {t r l : Nat} (h : CT b t r l) (a : Nat) (ha : a = 9 + 4 * (9 * t + 6 * r + 3 * l)) (T : List S70) (R : List S72) (L : List S67) (h1 : T.length ≤ 40) (h2 : R.length ≤ 40) (h3 : L.length = l) {z : Int} (hz : z = (a : Int)) :
    Good (F2 b t r l (9 * t + 6 * r + 3 * l)) (fun k => spec_DecodeScene.l2 k b (l : Int) z (l : Int) T R L) (finF b a T R L) := by
  have ht := h.t
  have hr := h.r
  have hl := h.l
  have hlen := h.len
  have hN : 9 * t + 6 * r + 3 * l ≤ 100000 := by omega
  have ha2 := adr hN
  rw [← ha] at ha2
  unfold finF
  by_cases hs : a < b.length
  · rw [if_pos hs]
    refine ⟨⟨1, fun k hk => ?_⟩, show (8 : Int) ≠ 0 from by decide⟩
    obtain ⟨k, rfl⟩ : ∃ m, k = m + 1 := ⟨k - 1, by omega⟩
    simp only [spec_l6fault.l2]
    rw [if_neg (Int.lt_irrefl _), ha2, if_pos (by omega)]
  · rw [if_neg hs]
    refine ⟨⟨1, fun k hk => ?_⟩, ⟨1, fun k hk => ?_⟩, h1, h2, by rw [h3]; exact hl⟩
    · obtain ⟨k, rfl⟩ : ∃ m, k = m + 1 := ⟨k - 1, by omega⟩
      simp only [spec_l6fault.l2]
      rw [if_neg (Int.lt_irrefl _), ha2, if_neg (by omega)]
    · obtain ⟨k, rfl⟩ : ∃ m, k = m + 1 := ⟨k - 1, by omega⟩
      simp only [spec_DecodeScene.l2]
      rw [if_neg (Int.lt_irrefl _)]
theorem lights_good {b : List Int} {t r l : Nat} (h : CT b t r l) (T : List S70) (R : List S72) (h1 : T.length ≤ 40) (h2 : R.length ≤ 40) :
    ∀ (n j : Nat) (L : List S67), j + n = l → L.length = j → ∀ (a i : Nat), i = 9 * t + 6 * r + 3 * j → a = 9 + 4 * i → ∀ z : Int, z = (a : Int) →
      Good (F2 b t r l i) (fun k => spec_DecodeScene.l2 k b (l : Int) z (j : Int) T R L) (lightsF b T R n a L)
  | 0, j, L, hj, hL, a, i, hi, ha, z, hz => by
    obtain rfl : j = l := by omega
    subst hi
    exact fin_good h a ha T R L h1 h2 hL hz
  | n + 1, j, L, hj, hL, a, i, hi, ha, z, hz => by
    have ht := h.t
    have hr := h.r
    have hl := h.l
    have hlen := h.len
    have p := pt h i (by omega) (fun q q1 q2 => by omega)
    subst ha
    unfold lightsF
    cases e : pointE b (9 + 4 * i) with
    | error er =>
      rw [e] at p
      exact p
    | ok pv =>
      rw [e] at p
      obtain ⟨rfl, hb2, hst⟩ := p
      dsimp only
      have ih := lights_good h T R h1 h2 n (j + 1) (L ++ [ptV b (9 + 4 * i)]) (by omega) (by simp [hL]) (9 + 4 * i + 12) (i + 3) (by omega) (by omega) (wrap64 (z + 12)) (by subst hz; rw [w64 (by omega) (by omega)]; omega)
      refine Good.step hst (fun y hy => ?_) ih
      obtain ⟨n1, g1⟩ := pointAt_ev h.by_ (by omega) (9 + 4 * i) hz hb2
      obtain ⟨n2, g2⟩ := hy
      refine ⟨n1 + n2 + 1, fun k hk => ?_⟩
      obtain ⟨k, rfl⟩ : ∃ m, k = m + 1 := ⟨k - 1, by omega⟩
      have g3 : spec_l6pointAt.f k b z = some ((ptV b (9 + 4 * i)).f0, (ptV b (9 + 4 * i)).f1, (ptV b (9 + 4 * i)).f2) := g1 k (by omega)
      have g4 : spec_DecodeScene.l2 k b (l : Int) (wrap64 (z + 12)) ((j + 1 : Nat) : Int) T R (L ++ [ptV b (9 + 4 * i)]) = some y := g2 k (by omega)
      have c1 : (j : Int) < (l : Int) := by omega
      have c2 : L.length < 11728124029610 := Nat.lt_of_le_of_lt (m := 100) (by omega) (by decide)
      have e1 : wrap64 ((j : Int) + 1) = ((j + 1 : Nat) : Int) := w64 (by omega) (by omega)
      show spec_DecodeScene.l2 (k + 1) b (l : Int) z (j : Int) T R L = some y
      simp only [spec_DecodeScene.l2]
      rw [if_pos c1, g3, Option.bind_some, if_pos c2, e1]
      exact g4
theorem rays_good {b : List Int} {t r l : Nat} (h : CT b t r l) (T : List S70) (h1 : T.length ≤ 40) :
    ∀ (n j : Nat) (R : List S72), j + n = r → R.length = j → ∀ (a i : Nat), i = 9 * t + 6 * j → a = 9 + 4 * i → ∀ z : Int, z = (a : Int) →
      Good (F2 b t r l i) (fun k => spec_DecodeScene.l1 k b (r : Int) (l : Int) z (j : Int) T R) (raysF b T l n a R)
  | 0, j, R, hj, hR, a, i, hi, ha, z, hz => by
    have hr := h.r
    obtain rfl : j = r := by omega
    have q := lights_good h T R h1 (by omega) l 0 [] (by omega) rfl a i (by omega) ha z hz
    refine Good.step (fun y hy => hy) (fun y hy => ?_) q
    refine Ev.step (fun k => ?_) hy
    simp only [spec_DecodeScene.l1]
    rw [if_neg (Int.lt_irrefl _)]
    rfl
  | n + 1, j, R, hj, hR, a, i, hi, ha, z, hz => by
    have ht := h.t
    have hr := h.r
    have hl := h.l
    have hlen := h.len
    have p := pt h i (by omega) (fun q q1 q2 => by omega)
    have pd := ptd h j (by omega) (i + 3) (by omega)
    have a3 : 9 + 4 * (i + 3) = 9 + 4 * i + 12 := by omega
    rw [a3] at pd
    subst ha
    unfold raysF
    cases e : pointE b (9 + 4 * i) with
    | error er =>
      rw [e] at p
      exact p
    | ok pv =>
      rw [e] at p
      obtain ⟨rfl, hb2, hst⟩ := p
      dsimp only
      cases e2 : pointE b (9 + 4 * i + 12) with
      | error er =>
        rw [e2] at pd
        exact ⟨hst _ pd.1, pd.2⟩
      | ok pw =>
        rw [e2] at pd
        obtain ⟨rfl, hb3, hz1, hz0⟩ := pd
        dsimp only
        by_cases hzz : QDecodeScene.zeroP (ptV b (9 + 4 * i + 12)) = true
        · rw [if_pos hzz]
          exact ⟨hst _ (hz1 hzz), show (7 : Int) ≠ 0 from by decide⟩
        · rw [if_neg hzz]
          have ih := rays_good h T h1 n (j + 1) (R ++ [⟨ptV b (9 + 4 * i), ptV b (9 + 4 * i + 12)⟩]) (by omega) (by simp [hR]) (9 + 4 * i + 24) (i + 6) (by omega) (by omega) (wrap64 (z + 24)) (by subst hz; rw [w64 (by omega) (by omega)]; omega)
          refine Good.step (fun y hy => hst y (hz0 (by simpa using hzz) y hy)) (fun y hy => ?_) ih
          have hz12 : wrap64 (z + 12) = ((9 + 4 * i + 12 : Nat) : Int) := by subst hz; rw [w64 (by omega) (by omega)]; omega
          obtain ⟨n1, g1⟩ := pointAt_ev h.by_ (by omega) (9 + 4 * i) hz hb2
          obtain ⟨n3, g5⟩ := pointAt_ev h.by_ (by omega) (9 + 4 * i + 12) hz12 hb3
          obtain ⟨n2, g2⟩ := hy
          refine ⟨n1 + n2 + n3 + 1, fun k hk => ?_⟩
          obtain ⟨k, rfl⟩ : ∃ m, k = m + 1 := ⟨k - 1, by omega⟩
          have g3 : spec_l6pointAt.f k b z = some ((ptV b (9 + 4 * i)).f0, (ptV b (9 + 4 * i)).f1, (ptV b (9 + 4 * i)).f2) := g1 k (by omega)
          have g6 : spec_l6pointAt.f k b (wrap64 (z + 12)) = some ((ptV b (9 + 4 * i + 12)).f0, (ptV b (9 + 4 * i + 12)).f1, (ptV b (9 + 4 * i + 12)).f2) := g5 k (by omega)
          have g4 : spec_DecodeScene.l1 k b (r : Int) (l : Int) (wrap64 (z + 24)) ((j + 1 : Nat) : Int) T (R ++ [⟨ptV b (9 + 4 * i), ptV b (9 + 4 * i + 12)⟩]) = some y := g2 k (by omega)
          have c1 : (j : Int) < (r : Int) := by omega
          have c2 : R.length < 5864062014805 := Nat.lt_of_le_of_lt (m := 100) (by omega) (by decide)
          have e1 : wrap64 ((j : Int) + 1) = ((j + 1 : Nat) : Int) := w64 (by omega) (by omega)
          show spec_DecodeScene.l1 (k + 1) b (r : Int) (l : Int) z (j : Int) T R = some y
          simp only [spec_DecodeScene.l1]
          rw [if_pos c1, g3, Option.bind_some, g6, Option.bind_some, if_pos c2, e1]
          exact g4
theorem tris_good {b : List Int} {t r l : Nat} (h : CT b t r l) :
    ∀ (n j : Nat) (T : List S70), j + n = t → T.length = j → ∀ (a i : Nat), i = 9 * j → a = 9 + 4 * i → ∀ z : Int, z = (a : Int) →
      Good (F2 b t r l i) (fun k => spec_DecodeScene.l0 k b (t : Int) (r : Int) (l : Int) z (j : Int) T) (trisF b r l n a T)
  | 0, j, T, hj, hT, a, i, hi, ha, z, hz => by
    have ht := h.t
    obtain rfl : j = t := by omega
    have q := rays_good h T (by omega) r 0 [] (by omega) rfl a i (by omega) ha z hz
    refine Good.step (fun y hy => hy) (fun y hy => ?_) q
    refine Ev.step (fun k => ?_) hy
    simp only [spec_DecodeScene.l0]
    rw [if_neg (Int.lt_irrefl _)]
    rfl
  | n + 1, j, T, hj, hT, a, i, hi, ha, z, hz => by
    have ht := h.t
    have hr := h.r
    have hl := h.l
    have hlen := h.len
    have p := pt h i (by omega) (fun q q1 q2 => by omega)
    have pd := pt h (i + 3) (by omega) (fun q q1 q2 => by omega)
    have pe := pt h (i + 6) (by omega) (fun q q1 q2 => by omega)
    have a3 : 9 + 4 * (i + 3) = 9 + 4 * i + 12 := by omega
    have a6 : 9 + 4 * (i + 6) = 9 + 4 * i + 24 := by omega
    rw [a3] at pd
    rw [a6] at pe
    subst ha
    unfold trisF
    cases e : pointE b (9 + 4 * i) with
    | error er =>
      rw [e] at p
      exact p
    | ok pv =>
      rw [e] at p
      obtain ⟨rfl, hb2, hst⟩ := p
      dsimp only
      cases e2 : pointE b (9 + 4 * i + 12) with
      | error er =>
        rw [e2] at pd
        exact ⟨hst _ pd.1, pd.2⟩
      | ok pw =>
        rw [e2] at pd
        obtain ⟨rfl, hb3, hst2⟩ := pd
        dsimp only
        cases e3 : pointE b (9 + 4 * i + 24) with
        | error er =>
          rw [e3] at pe
          exact ⟨hst _ (hst2 _ pe.1), pe.2⟩
        | ok px =>
          rw [e3] at pe
          obtain ⟨rfl, hb4, hst3⟩ := pe
          dsimp only
          have ih := tris_good h n (j + 1) (T ++ [⟨ptV b (9 + 4 * i), ptV b (9 + 4 * i + 12), ptV b (9 + 4 * i + 24)⟩]) (by omega) (by simp [hT]) (9 + 4 * i + 36) (i + 9) (by omega) (by omega) (wrap64 (z + 36)) (by subst hz; rw [w64 (by omega) (by omega)]; omega)
          refine Good.step (fun y hy => hst y (hst2 y (hst3 y hy))) (fun y hy => ?_) ih
          have hz12 : wrap64 (z + 12) = ((9 + 4 * i + 12 : Nat) : Int) := by subst hz; rw [w64 (by omega) (by omega)]; omega
          have hz24 : wrap64 (z + 24) = ((9 + 4 * i + 24 : Nat) : Int) := by subst hz; rw [w64 (by omega) (by omega)]; omega
          obtain ⟨n1, g1⟩ := pointAt_ev h.by_ (by omega) (9 + 4 * i) hz hb2
          obtain ⟨n3, g5⟩ := pointAt_ev h.by_ (by omega) (9 + 4 * i + 12) hz12 hb3
          obtain ⟨n4, g7⟩ := pointAt_ev h.by_ (by omega) (9 + 4 * i + 24) hz24 hb4
          obtain ⟨n2, g2⟩ := hy
          refine ⟨n1 + n2 + n3 + n4 + 1, fun k hk => ?_⟩
          obtain ⟨k, rfl⟩ : ∃ m, k = m + 1 := ⟨k - 1, by omega⟩
          have g3 : spec_l6pointAt.f k b z = some ((ptV b (9 + 4 * i)).f0, (ptV b (9 + 4 * i)).f1, (ptV b (9 + 4 * i)).f2) := g1 k (by omega)
          have g6 : spec_l6pointAt.f k b (wrap64 (z + 12)) = some ((ptV b (9 + 4 * i + 12)).f0, (ptV b (9 + 4 * i + 12)).f1, (ptV b (9 + 4 * i + 12)).f2) := g5 k (by omega)
          have g8 : spec_l6pointAt.f k b (wrap64 (z + 24)) = some ((ptV b (9 + 4 * i + 24)).f0, (ptV b (9 + 4 * i + 24)).f1, (ptV b (9 + 4 * i + 24)).f2) := g7 k (by omega)
          have g4 : spec_DecodeScene.l0 k b (t : Int) (r : Int) (l : Int) (wrap64 (z + 36)) ((j + 1 : Nat) : Int) (T ++ [⟨ptV b (9 + 4 * i), ptV b (9 + 4 * i + 12), ptV b (9 + 4 * i + 24)⟩]) = some y := g2 k (by omega)
          have c1 : (j : Int) < (t : Int) := by omega
          have c2 : T.length < 3909374676536 := Nat.lt_of_le_of_lt (m := 100) (by omega) (by decide)
          have e1 : wrap64 ((j : Int) + 1) = ((j + 1 : Nat) : Int) := w64 (by omega) (by omega)
          show spec_DecodeScene.l0 (k + 1) b (t : Int) (r : Int) (l : Int) z (j : Int) T = some y
          simp only [spec_DecodeScene.l0]
          rw [if_pos c1, g3, Option.bind_some, g6, Option.bind_some, g8, Option.bind_some, if_pos c2, e1]
          exact g4

theorem num_12 {b : List Int} (hb : By b) (hl : b.length ≤ 1048576) (a s : Nat) (ha : a ≤ 100) (hs : s = 1 ∨ s = 2) :
    match numE b a s with
    | .error e => e = (5, (b.length : Int)) ∧ Ev (fun k => spec_l6number.f k b (a : Int) (s : Int)) (-1)
    | .ok v => Ev (fun k => spec_l6number.f k b (a : Int) (s : Int)) (v : Int) := by
  unfold numE
  by_cases h : a + s ≤ b.length
  · rw [if_pos h]
    rcases hs with rfl | rfl
    · have := number1_ev hb (by omega) a (a : Int) rfl h
      rw [← nV1 hb] at this
      exact this
    · have := number2_ev hb (by omega) a (a : Int) rfl h
      rw [← nV2 hb] at this
      exact this
  · rw [if_neg h]
    exact ⟨rfl, number_short (by omega) a s (by omega) (by omega) _ rfl (by omega)⟩
theorem cnt_step {b : List Int} (hb : By b) (hl : b.length ≤ 1048576) (acc : List Int) (a s mx j : Nat) (ha : a ≤ 100) (hs : s = 1 ∨ s = 2) (hj : j < 3) (h1 : rd ([2, 2, 1] : List Int) (j : Int) = (s : Int)) (h2 : rd ([40, 40, 4] : List Int) (j : Int) = (mx : Int)) (hacc : acc.length ≤ 3) :
    match countE b a s mx with
    | .error e => Ev (fun k => spec_l6fault.l1 k b [2, 2, 1] [40, 40, 4] acc (a : Int) (j : Int)) e ∧ e.1 ≠ 0
    | .ok v => v ≤ mx ∧ Ev (fun k => spec_l6number.f k b (a : Int) (s : Int)) (v : Int) ∧ ∀ x, Ev (fun k => spec_l6fault.l1 k b [2, 2, 1] [40, 40, 4] (acc ++ [(v : Int)]) ((a + s : Nat) : Int) ((j + 1 : Nat) : Int)) x → Ev (fun k => spec_l6fault.l1 k b [2, 2, 1] [40, 40, 4] acc (a : Int) (j : Int)) x := by
  have hn := num_12 hb hl a s ha hs
  have c1 : (j : Int) < 3 := by omega
  have c2 : (0 : Int) ≤ (j : Int) := by omega
  have l2 : ((([2, 2, 1] : List Int).length : Nat) : Int) = 3 := rfl
  have l4 : ((([40, 40, 4] : List Int).length : Nat) : Int) = 3 := rfl
  have c3 : acc.length < 17592186044416 := Nat.lt_of_le_of_lt hacc (by decide)
  have c5 : (-1 : Int) < 0 := by decide
  unfold countE
  cases e : numE b a s with
  | error er =>
    rw [e] at hn
    obtain ⟨rfl, n1, g1⟩ := hn
    refine ⟨⟨n1 + 1, fun k hk => ?_⟩, show (5 : Int) ≠ 0 from by decide⟩
    obtain ⟨k, rfl⟩ : ∃ m, k = m + 1 := ⟨k - 1, by omega⟩
    have g2 : spec_l6number.f k b (a : Int) (s : Int) = some (-1) := g1 k (by omega)
    simp only [spec_l6fault.l1]
    rw [if_pos c1, if_pos c2, l2, if_pos c1, h1, g2, Option.bind_some, if_pos c5]
  | ok v =>
    rw [e] at hn
    obtain ⟨n1, g1⟩ := hn
    have p1 : ¬ (v : Int) < 0 := Int.not_lt.2 (Int.natCast_nonneg v)
    dsimp only
    by_cases hm : mx < v
    · rw [if_pos hm]
      refine ⟨⟨n1 + 1, fun k hk => ?_⟩, show (2 : Int) ≠ 0 from by decide⟩
      obtain ⟨k, rfl⟩ : ∃ m, k = m + 1 := ⟨k - 1, by omega⟩
      have g2 : spec_l6number.f k b (a : Int) (s : Int) = some (v : Int) := g1 k (by omega)
      have p2 : (v : Int) > (mx : Int) := by omega
      simp only [spec_l6fault.l1]
      rw [if_pos c1, if_pos c2, l2, if_pos c1, h1, g2, Option.bind_some, if_neg p1, l4, if_pos c1, h2, if_pos p2]
    · rw [if_neg hm]
      refine ⟨by omega, ⟨n1, g1⟩, fun x ⟨n2, g3⟩ => ⟨n1 + n2 + 1, fun k hk => ?_⟩⟩
      obtain ⟨k, rfl⟩ : ∃ m, k = m + 1 := ⟨k - 1, by omega⟩
      have g2 : spec_l6number.f k b (a : Int) (s : Int) = some (v : Int) := g1 k (by omega)
      have g4 : spec_l6fault.l1 k b [2, 2, 1] [40, 40, 4] (acc ++ [(v : Int)]) ((a + s : Nat) : Int) ((j + 1 : Nat) : Int) = some x := g3 k (by omega)
      have p2 : ¬ (v : Int) > (mx : Int) := by omega
      have e1 : wrap64 ((a : Int) + (s : Int)) = ((a + s : Nat) : Int) := w64 (by omega) (by omega)
      have e2 : wrap64 ((j : Int) + 1) = ((j + 1 : Nat) : Int) := w64 (by clear e1; omega) (by clear e1; omega)
      show spec_l6fault.l1 (k + 1) b [2, 2, 1] [40, 40, 4] acc (a : Int) (j : Int) = some x
      simp only [spec_l6fault.l1]
      rw [if_pos c1, if_pos c2, l2, if_pos c1, h1, g2, Option.bind_some, if_neg p1, l4, if_pos c1, h2, if_neg p2, if_pos c3, e1, e2]
      exact g4
theorem cnt_good {b : List Int} (hb : By b) (hl : b.length ≤ 1048576) :
    Good (fun k => spec_l6fault.l1 k b [2, 2, 1] [40, 40, 4] [] 4 0) (fun k => (spec_l6number.f k b 4 2).bind fun t => (spec_l6number.f k b 6 2).bind fun r => (spec_l6number.f k b 8 1).bind fun l => spec_DecodeScene.l0 k b t r l 9 0 []) (cntF b) := by
  have s0 := cnt_step hb hl [] 4 2 40 0 (by decide) (.inr rfl) (by decide) rfl rfl (by decide)
  unfold cntF
  cases e0 : countE b 4 2 40 with
  | error er =>
    rw [e0] at s0
    exact s0
  | ok t =>
    rw [e0] at s0
    obtain ⟨t1, t2, t3⟩ := s0
    dsimp only
    have s1 := cnt_step hb hl [(t : Int)] 6 2 40 1 (by decide) (.inr rfl) (by decide) rfl rfl (by simp)
    cases e1 : countE b 6 2 40 with
    | error er =>
      rw [e1] at s1
      exact ⟨t3 _ s1.1, s1.2⟩
    | ok r =>
      rw [e1] at s1
      obtain ⟨r1, r2, r3⟩ := s1
      dsimp only
      have s2 := cnt_step hb hl [(t : Int), (r : Int)] 8 1 4 2 (by decide) (.inl rfl) (by decide) rfl rfl (by simp)
      cases e2 : countE b 8 1 4 with
      | error er =>
        rw [e2] at s2
        exact ⟨t3 _ (r3 _ s2.1), s2.2⟩
      | ok l =>
        rw [e2] at s2
        obtain ⟨l1, l2, l3⟩ := s2
        dsimp only
        have C : CT b t r l := ⟨hb, hl, t1, r1, l1⟩
        have q := tris_good C t 0 [] (by omega) rfl 9 0 rfl rfl 9 rfl
        refine Good.step (fun y hy => t3 _ (r3 _ (l3 _ ?_))) (fun y hy => ?_) q
        · refine Ev.step (fun k => ?_) hy
          have w1 : wrap64 (wrap64 (wrap64 (9 * (t : Int)) + wrap64 (6 * (r : Int))) + wrap64 (3 * (l : Int))) = ((9 * t + 6 * r + 3 * l : Nat) : Int) := by
            rw [w64 (x := 9 * (t : Int)) (by omega) (by omega), w64 (x := 6 * (r : Int)) (by omega) (by omega), w64 (x := 3 * (l : Int)) (by omega) (by omega), w64 (x := 9 * (t : Int) + 6 * (r : Int)) (by omega) (by omega), w64 (by omega) (by omega)]
            omega
          have d0 : rd ([(t : Int), (r : Int)] ++ [(l : Int)]) 0 = t := rfl
          have d1 : rd ([(t : Int), (r : Int)] ++ [(l : Int)]) 1 = r := rfl
          have d2 : rd ([(t : Int), (r : Int)] ++ [(l : Int)]) 2 = l := rfl
          have l3 : ((([(t : Int), (r : Int)] ++ [(l : Int)]).length : Nat) : Int) = 3 := rfl
          simp only [spec_l6fault.l1]
          rw [if_neg (show ¬ (((2 + 1 : Nat) : Int) < 3) from by decide), l3, if_pos (show (0 : Int) < 3 from by decide), if_pos (show (1 : Int) < 3 from by decide), if_pos (show (2 : Int) < 3 from by decide), d0, d1, d2, w1]
          rfl
        · exact Ev.bind t2 (Ev.bind r2 (Ev.bind l2 hy))
theorem mag_good {b : List Int} {F : Nat → Option (Int × Int)} (D : Nat → Option SRes) (M : ByteArray) (hM : M.size = 4) (hF : F = fun k => spec_l6fault.l1 k b [2, 2, 1] [40, 40, 4] [] 4 0) (hc : Good F D (cntF b)) :
    ∀ (cs : List Int) (i : Nat), i + cs.length = 4 → i ≤ b.length → (∀ q, q < cs.length → bt M ((i + q : Nat) : Int) = cs.getD q 0) → Good (fun k => spec_l6fault.l0 k b M (i : Int)) D (magF b cs i)
  | [], i, hi, hlen, _ => by
    obtain rfl : i = 4 := by simpa using hi
    unfold magF
    refine Good.step (fun y hy => ?_) (fun y hy => hy) hc
    subst hF
    refine Ev.step (fun k => ?_) hy
    simp only [spec_l6fault.l0]
    exact if_neg (by decide)
  | c :: cs, i, hi, hlen, hcs => by
    have hlen2 : i + (cs.length + 1) = 4 := by simpa using hi
    have c0 : bt M (i : Int) = c := by have := hcs 0 (by simp); simpa using this
    have c1 : (i : Int) < 4 := by omega
    unfold magF
    by_cases hs : b.length ≤ i
    · rw [if_pos hs]
      have e5 : ((i : Nat) : Int) = (b.length : Int) := by omega
      refine ⟨⟨1, fun k hk => ?_⟩, show (5 : Int) ≠ 0 from by decide⟩
      obtain ⟨k, rfl⟩ : ∃ m, k = m + 1 := ⟨k - 1, by omega⟩
      have p1 : (i : Int) ≥ (b.length : Int) := by omega
      simp only [spec_l6fault.l0]
      rw [if_pos c1, if_pos p1, e5]
    · rw [if_neg hs]
      have p1 : ¬ (i : Int) ≥ (b.length : Int) := by omega
      have p2 : (0 : Int) ≤ (i : Int) := by omega
      have p3 : (i : Int) < (b.length : Int) := by omega
      have p4 : (i : Int) < (M.size : Int) := by rw [hM]; exact c1
      have r1 : rd b (i : Int) = bG b i := rd_gB b i rfl
      by_cases hq : bG b i = c
      · rw [if_pos hq]
        have ih := mag_good D M hM hF hc cs (i + 1) (by omega) (by omega) (fun q hq2 => by have := hcs (q + 1) (by simpa using hq2); rw [show i + 1 + q = i + (q + 1) from by omega]; simpa using this)
        have e1 : wrap64 ((i : Int) + 1) = ((i + 1 : Nat) : Int) := w64 (by omega) (by omega)
        refine Good.step (fun y hy => ?_) (fun y hy => hy) ih
        refine Ev.step (fun k => ?_) hy
        simp only [spec_l6fault.l0]
        rw [if_pos c1, if_neg p1, if_pos p2, if_pos p3, if_pos p4, r1, c0, if_pos hq, e1]
      · rw [if_neg hq]
        refine ⟨⟨1, fun k hk => ?_⟩, show (4 : Int) ≠ 0 from by decide⟩
        obtain ⟨k, rfl⟩ : ∃ m, k = m + 1 := ⟨k - 1, by omega⟩
        simp only [spec_l6fault.l0]
        rw [if_pos c1, if_neg p1, if_pos p2, if_pos p3, if_pos p4, r1, c0, if_neg hq]
theorem scene_good {b : List Int} (hb : By b) (hl : b.length ≤ 1048576) :
    Good (fun k => spec_l6fault.f k b) (fun k => (spec_l6number.f k b 4 2).bind fun t => (spec_l6number.f k b 6 2).bind fun r => (spec_l6number.f k b 8 1).bind fun l => spec_DecodeScene.l0 k b t r l 9 0 []) (sceneE b) := by
  have h := mag_good _ (⟨#[83, 67, 69, 78]⟩ : ByteArray) rfl rfl (cnt_good hb hl) [83, 67, 69, 78] 0 rfl (Nat.zero_le _) (fun q hq => by
    have hq4 : q < 4 := hq
    rcases q with _ | _ | _ | _ | q
    · rfl
    · rfl
    · rfl
    · rfl
    · omega)
  exact Good.step (fun y hy => Ev.congr (fun k => rfl) hy) (fun y hy => hy) h
theorem specDec_ev {b : List Int} (hb : By b) (hl : b.length ≤ 1048576) : Ev (fun k => spec_DecodeScene.f k b) (decE b) ∧ (decE b).1.length ≤ 40 ∧ (decE b).2.1.length ≤ 40 ∧ (decE b).2.2.1.length ≤ 4 := by
  have h := scene_good hb hl
  unfold decE
  cases e : sceneE b with
  | error er =>
    rw [e] at h
    refine ⟨?_, Nat.zero_le _, Nat.zero_le _, Nat.zero_le _⟩
    unfold spec_DecodeScene.f
    refine Ev.bind h.1 ?_
    exact Ev.congr (fun k => if_neg h.2) (ev_const rfl)
  | ok s =>
    rw [e] at h
    refine ⟨?_, h.2.2⟩
    unfold spec_DecodeScene.f
    refine Ev.bind h.1 ?_
    refine Ev.congr (fun k => if_pos rfl) ?_
    exact h.2.1

/-! ### equal lists; marks in a list, and what is found of them -/
theorem gd_at {α : Type} (z : α) (pre rest : List α) (x : α) : (pre ++ x :: rest).getD (((pre.length : Nat) : Int)).toNat z = x := by simp
theorem st_at {α : Type} (pre rest : List α) (x v : α) : (pre ++ x :: rest).set (((pre.length : Nat) : Int)).toNat v = pre ++ v :: rest := by simp
theorem eqTriS_l0 : ∀ (rest pre : List S70), (pre ++ rest).length ≤ 1048576 → Ev (fun k => laws_eqTriS.l0 k (pre ++ rest) (pre ++ rest) ((pre.length : Nat) : Int)) true
  | [], pre, hl => ⟨1, fun k hk => by
    obtain ⟨k, rfl⟩ : ∃ m, k = m + 1 := ⟨k - 1, by omega⟩
    simp only [laws_eqTriS.l0]
    rw [if_neg (by simp)]⟩
  | x :: rest, pre, hl => by
    have hlen : (pre ++ x :: rest).length = pre.length + (rest.length + 1) := by simp
    have ih := eqTriS_l0 rest (pre ++ [x]) (by simpa using hl)
    have hrd : rd_T70 (pre ++ x :: rest) ((pre.length : Nat) : Int) = x := gd_at z70 pre rest x
    rw [List.append_assoc, List.singleton_append, len_snoc] at ih
    refine Ev.step (fun k => ?_) ih
    simp only [laws_eqTriS.l0]
    rw [if_pos (by rw [hlen]; omega), if_pos (by omega), if_pos (by rw [hlen]; omega), hrd, w64 (by omega) (by omega)]
    simp [laws_eqPoint.f, laws_eqTri.f]
theorem eqTriS_ev (l : List S70) (hl : l.length ≤ 1048576) : Ev (fun k => laws_eqTriS.f k l l) true := by
  have h := eqTriS_l0 l [] (by simpa using hl)
  refine Ev.congr (fun k => ?_) (by simpa using h)
  unfold laws_eqTriS.f
  rw [if_pos rfl]
def mkTri (z : Int) : S70 := ⟨⟨z, z + 1, z + 2⟩, ⟨z + 3, z + 4, z + 5⟩, ⟨z + 6, z + 7, z + 8⟩⟩
def mksTri : Int → Nat → List S70
  | _, 0 => []
  | z, n + 1 => mkTri z :: mksTri (z + 9) n
theorem markTriS_x : ∀ (rest pre : List S70) (z : Int), pre.length + rest.length ≤ 1048576 → 0 ≤ z → z + 9 * rest.length ≤ 1000000000 →
    Ev (fun k => laws_markTriS.l0 k (pre ++ rest) z ((pre.length : Nat) : Int)) (z + 9 * rest.length, pre ++ mksTri z rest.length)
  | [], pre, z, hl, h0, h1 => ⟨1, fun k hk => by
    obtain ⟨k, rfl⟩ : ∃ m, k = m + 1 := ⟨k - 1, by omega⟩
    simp only [laws_markTriS.l0]
    rw [if_neg (by simp)]
    simp [mksTri]⟩
  | x :: rest, pre, z, hl, h0, h1 => by
    have hlr : (x :: rest).length = rest.length + 1 := rfl
    rw [hlr] at hl h1
    have b1 : (pre ++ [mkTri z]).length + rest.length ≤ 1048576 := by simp; omega
    have b2 : z + 9 + 9 * (rest.length : Int) ≤ 1000000000 := by omega
    have b3 : z + 9 + 9 * (rest.length : Int) = z + 9 * ((rest.length + 1 : Nat) : Int) := by omega
    have c1 : ∀ y : S70, (((pre.length : Nat) : Int) < ((pre ++ y :: rest).length : Int)) = True := fun y => eq_true (by simp; omega)
    have c2 : ((0 : Int) ≤ ((pre.length : Nat) : Int)) = True := eq_true (by omega)
    have hrd : ∀ y : S70, rd_T70 (pre ++ y :: rest) ((pre.length : Nat) : Int) = y := fun y => gd_at z70 pre rest y
    have hst : ∀ y v : S70, (pre ++ y :: rest).set (((pre.length : Nat) : Int)).toNat v = pre ++ v :: rest := fun y v => st_at pre rest y v
    have ih := markTriS_x rest (pre ++ [mkTri z]) (z + 9) b1 (by omega) b2
    rw [b3, List.append_assoc, List.singleton_append, List.append_assoc, List.singleton_append, len_snoc] at ih
    have W : ∀ q : Int, 0 ≤ q → q ≤ 100 → wrap64 (z + q) = z + q := fun q h h' => w64 (by omega) (by omega)
    have Md : ∀ q : Int, 0 ≤ q → q ≤ 100 → (z + q) % 4294967296 = z + q := fun q h h' => Int.emod_eq_of_lt (by omega) (by omega)
    have m0 : z % 4294967296 = z := Int.emod_eq_of_lt (by omega) (by omega)
    have hi : wrap64 (((pre.length : Nat) : Int) + 1) = ((pre.length : Nat) : Int) + 1 := w64 (by omega) (by omega)
    have e1 : wrap64 (z + 1) = z + 1 := W 1 (by decide) (by decide)
    have e2 : wrap64 (z + 2) = z + 2 := W 2 (by decide) (by decide)
    have e3 : wrap64 (z + 3) = z + 3 := W 3 (by decide) (by decide)
    have e4 : wrap64 (z + 4) = z + 4 := W 4 (by decide) (by decide)
    have e5 : wrap64 (z + 5) = z + 5 := W 5 (by decide) (by decide)
    have e6 : wrap64 (z + 6) = z + 6 := W 6 (by decide) (by decide)
    have e7 : wrap64 (z + 7) = z + 7 := W 7 (by decide) (by decide)
    have e8 : wrap64 (z + 8) = z + 8 := W 8 (by decide) (by decide)
    have e9 : wrap64 (z + 9) = z + 9 := W 9 (by decide) (by decide)
    have f1 : wrap64 (z + 1 + 1) = z + 2 := (congrArg wrap64 (Int.add_assoc z 1 1)).trans e2
    have f2 : wrap64 (z + 2 + 1) = z + 3 := (congrArg wrap64 (Int.add_assoc z 2 1)).trans e3
    have f3 : wrap64 (z + 3 + 1) = z + 4 := (congrArg wrap64 (Int.add_assoc z 3 1)).trans e4
    have f4 : wrap64 (z + 4 + 1) = z + 5 := (congrArg wrap64 (Int.add_assoc z 4 1)).trans e5
    have f5 : wrap64 (z + 5 + 1) = z + 6 := (congrArg wrap64 (Int.add_assoc z 5 1)).trans e6
    have f6 : wrap64 (z + 6 + 1) = z + 7 := (congrArg wrap64 (Int.add_assoc z 6 1)).trans e7
    have f7 : wrap64 (z + 7 + 1) = z + 8 := (congrArg wrap64 (Int.add_assoc z 7 1)).trans e8
    have f8 : wrap64 (z + 8 + 1) = z + 9 := (congrArg wrap64 (Int.add_assoc z 8 1)).trans e9
    have m1 : (z + 1) % 4294967296 = z + 1 := Md 1 (by decide) (by decide)
    have m2 : (z + 2) % 4294967296 = z + 2 := Md 2 (by decide) (by decide)
    have m3 : (z + 3) % 4294967296 = z + 3 := Md 3 (by decide) (by decide)
    have m4 : (z + 4) % 4294967296 = z + 4 := Md 4 (by decide) (by decide)
    have m5 : (z + 5) % 4294967296 = z + 5 := Md 5 (by decide) (by decide)
    have m6 : (z + 6) % 4294967296 = z + 6 := Md 6 (by decide) (by decide)
    have m7 : (z + 7) % 4294967296 = z + 7 := Md 7 (by decide) (by decide)
    have m8 : (z + 8) % 4294967296 = z + 8 := Md 8 (by decide) (by decide)
    refine Ev.step (fun k => ?_) ih
    simp only [laws_markTriS.l0, c1, c2, if_true, Option.bind_some, hst, hrd, e1, e2, e3, e4, e5, e6, e7, e8, e9, f1, f2, f3, f4, f5, f6, f7, f8, m0, m1, m2, m3, m4, m5, m6, m7, m8, hi]
    rfl
theorem markTriS_ev (l : List S70) (z : Int) (hl : l.length ≤ 1048576) (h0 : 0 ≤ z) (h1 : z ≤ 100000000) : Ev (fun k => laws_markTriS.f k l z) (z + 9 * l.length, mksTri z l.length) :=
  markTriS_x l [] z (by simpa using hl) h0 (by omega)
theorem heldTriS_x : ∀ (n : Nat) (pre : List S70) (z : Int), pre.length + n ≤ 1048576 → 0 ≤ z → z + 9 * n ≤ 1000000000 →
    Ev (fun k => laws_heldTriS.l0 k (pre ++ mksTri z n) z ((pre.length : Nat) : Int)) (z + 9 * n)
  | 0, pre, z, hl, h0, h1 => ⟨1, fun k hk => by
    obtain ⟨k, rfl⟩ : ∃ m, k = m + 1 := ⟨k - 1, by omega⟩
    simp only [laws_heldTriS.l0]
    rw [if_neg (by simp [mksTri])]
    simp⟩
  | n + 1, pre, z, hl, h0, h1 => by
    have b1 : (pre ++ [mkTri z]).length + n ≤ 1048576 := by simp; omega
    have b2 : z + 9 + 9 * (n : Int) ≤ 1000000000 := by omega
    have b3 : z + 9 + 9 * (n : Int) = z + 9 * ((n + 1 : Nat) : Int) := by omega
    have c1 : (((pre.length : Nat) : Int) < ((pre ++ mkTri z :: mksTri (z + 9) n).length : Int)) = True := eq_true (by simp; omega)
    have c2 : ((0 : Int) ≤ ((pre.length : Nat) : Int)) = True := eq_true (by omega)
    have hrd : rd_T70 (pre ++ mkTri z :: mksTri (z + 9) n) ((pre.length : Nat) : Int) = mkTri z := gd_at z70 pre _ _
    have ih := heldTriS_x n (pre ++ [mkTri z]) (z + 9) b1 (by omega) b2
    rw [b3, List.append_assoc, List.singleton_append, len_snoc] at ih
    have W : ∀ q : Int, 0 ≤ q → q ≤ 100 → wrap64 (z + q) = z + q := fun q h h' => w64 (by omega) (by omega)
    have Md : ∀ q : Int, 0 ≤ q → q ≤ 100 → (z + q) % 4294967296 = z + q := fun q h h' => Int.emod_eq_of_lt (by omega) (by omega)
    have m0 : z % 4294967296 = z := Int.emod_eq_of_lt (by omega) (by omega)
    have hi : wrap64 (((pre.length : Nat) : Int) + 1) = ((pre.length : Nat) : Int) + 1 := w64 (by omega) (by omega)
    have e1 : wrap64 (z + 1) = z + 1 := W 1 (by decide) (by decide)
    have e2 : wrap64 (z + 2) = z + 2 := W 2 (by decide) (by decide)
    have e3 : wrap64 (z + 3) = z + 3 := W 3 (by decide) (by decide)
    have e4 : wrap64 (z + 4) = z + 4 := W 4 (by decide) (by decide)
    have e5 : wrap64 (z + 5) = z + 5 := W 5 (by decide) (by decide)
    have e6 : wrap64 (z + 6) = z + 6 := W 6 (by decide) (by decide)
    have e7 : wrap64 (z + 7) = z + 7 := W 7 (by decide) (by decide)
    have e8 : wrap64 (z + 8) = z + 8 := W 8 (by decide) (by decide)
    have e9 : wrap64 (z + 9) = z + 9 := W 9 (by decide) (by decide)
    have f1 : wrap64 (z + 1 + 1) = z + 2 := (congrArg wrap64 (Int.add_assoc z 1 1)).trans e2
    have f2 : wrap64 (z + 2 + 1) = z + 3 := (congrArg wrap64 (Int.add_assoc z 2 1)).trans e3
    have f3 : wrap64 (z + 3 + 1) = z + 4 := (congrArg wrap64 (Int.add_assoc z 3 1)).trans e4
    have f4 : wrap64 (z + 4 + 1) = z + 5 := (congrArg wrap64 (Int.add_assoc z 4 1)).trans e5
    have f5 : wrap64 (z + 5 + 1) = z + 6 := (congrArg wrap64 (Int.add_assoc z 5 1)).trans e6
    have f6 : wrap64 (z + 6 + 1) = z + 7 := (congrArg wrap64 (Int.add_assoc z 6 1)).trans e7
    have f7 : wrap64 (z + 7 + 1) = z + 8 := (congrArg wrap64 (Int.add_assoc z 7 1)).trans e8
    have f8 : wrap64 (z + 8 + 1) = z + 9 := (congrArg wrap64 (Int.add_assoc z 8 1)).trans e9
    have m1 : (z + 1) % 4294967296 = z + 1 := Md 1 (by decide) (by decide)
    have m2 : (z + 2) % 4294967296 = z + 2 := Md 2 (by decide) (by decide)
    have m3 : (z + 3) % 4294967296 = z + 3 := Md 3 (by decide) (by decide)
    have m4 : (z + 4) % 4294967296 = z + 4 := Md 4 (by decide) (by decide)
    have m5 : (z + 5) % 4294967296 = z + 5 := Md 5 (by decide) (by decide)
    have m6 : (z + 6) % 4294967296 = z + 6 := Md 6 (by decide) (by decide)
    have m7 : (z + 7) % 4294967296 = z + 7 := Md 7 (by decide) (by decide)
    have m8 : (z + 8) % 4294967296 = z + 8 := Md 8 (by decide) (by decide)
    rw [show mksTri z (n + 1) = mkTri z :: mksTri (z + 9) n from rfl]
    have p0 : (mkTri z).f0.f0 = z := rfl
    have p1 : (mkTri z).f0.f1 = z + 1 := rfl
    have p2 : (mkTri z).f0.f2 = z + 2 := rfl
    have p3 : (mkTri z).f1.f0 = z + 3 := rfl
    have p4 : (mkTri z).f1.f1 = z + 4 := rfl
    have p5 : (mkTri z).f1.f2 = z + 5 := rfl
    have p6 : (mkTri z).f2.f0 = z + 6 := rfl
    have p7 : (mkTri z).f2.f1 = z + 7 := rfl
    have p8 : (mkTri z).f2.f2 = z + 8 := rfl
    refine Ev.step (fun k => ?_) ih
    simp only [laws_heldTriS.l0, c1, c2, if_true, hrd, p0, p1, p2, p3, p4, p5, p6, p7, p8, e1, e2, e3, e4, e5, e6, e7, e8, e9, f1, f2, f3, f4, f5, f6, f7, f8, m0, m1, m2, m3, m4, m5, m6, m7, m8, hi]
theorem heldTriS_ev (n : Nat) (z : Int) (hl : n ≤ 1048576) (h0 : 0 ≤ z) (h1 : z ≤ 100000000) : Ev (fun k => laws_heldTriS.f k (mksTri z n) z) (z + 9 * n) :=
  heldTriS_x n [] z (by simpa using hl) h0 (by omega)
theorem mksTri_length : ∀ (n : Nat) (z : Int), (mksTri z n).length = n
  | 0, _ => rfl
  | n + 1, z => by simp [mksTri, mksTri_length n]
theorem eqRayS_l0 : ∀ (rest pre : List S72), (pre ++ rest).length ≤ 1048576 → Ev (fun k => laws_eqRayS.l0 k (pre ++ rest) (pre ++ rest) ((pre.length : Nat) : Int)) true
  | [], pre, hl => ⟨1, fun k hk => by
    obtain ⟨k, rfl⟩ : ∃ m, k = m + 1 := ⟨k - 1, by omega⟩
    simp only [laws_eqRayS.l0]
    rw [if_neg (by simp)]⟩
  | x :: rest, pre, hl => by
    have hlen : (pre ++ x :: rest).length = pre.length + (rest.length + 1) := by simp
    have ih := eqRayS_l0 rest (pre ++ [x]) (by simpa using hl)
    have hrd : rd_T72 (pre ++ x :: rest) ((pre.length : Nat) : Int) = x := gd_at z72 pre rest x
    rw [List.append_assoc, List.singleton_append, len_snoc] at ih
    refine Ev.step (fun k => ?_) ih
    simp only [laws_eqRayS.l0]
    rw [if_pos (by rw [hlen]; omega), if_pos (by omega), if_pos (by rw [hlen]; omega), hrd, w64 (by omega) (by omega)]
    simp [laws_eqPoint.f, laws_eqRay.f]
theorem eqRayS_ev (l : List S72) (hl : l.length ≤ 1048576) : Ev (fun k => laws_eqRayS.f k l l) true := by
  have h := eqRayS_l0 l [] (by simpa using hl)
  refine Ev.congr (fun k => ?_) (by simpa using h)
  unfold laws_eqRayS.f
  rw [if_pos rfl]
def mkRay (z : Int) : S72 := ⟨⟨z, z + 1, z + 2⟩, ⟨z + 3, z + 4, z + 5⟩⟩
def mksRay : Int → Nat → List S72
  | _, 0 => []
  | z, n + 1 => mkRay z :: mksRay (z + 6) n
theorem markRayS_x : ∀ (rest pre : List S72) (z : Int), pre.length + rest.length ≤ 1048576 → 0 ≤ z → z + 6 * rest.length ≤ 1000000000 →
    Ev (fun k => laws_markRayS.l0 k (pre ++ rest) z ((pre.length : Nat) : Int)) (z + 6 * rest.length, pre ++ mksRay z rest.length)
  | [], pre, z, hl, h0, h1 => ⟨1, fun k hk => by
    obtain ⟨k, rfl⟩ : ∃ m, k = m + 1 := ⟨k - 1, by omega⟩
    simp only [laws_markRayS.l0]
    rw [if_neg (by simp)]
    simp [mksRay]⟩
  | x :: rest, pre, z, hl, h0, h1 => by
    have hlr : (x :: rest).length = rest.length + 1 := rfl
    rw [hlr] at hl h1
    have b1 : (pre ++ [mkRay z]).length + rest.length ≤ 1048576 := by simp; omega
    have b2 : z + 6 + 6 * (rest.length : Int) ≤ 1000000000 := by omega
    have b3 : z + 6 + 6 * (rest.length : Int) = z + 6 * ((rest.length + 1 : Nat) : Int) := by omega
    have c1 : ∀ y : S72, (((pre.length : Nat) : Int) < ((pre ++ y :: rest).length : Int)) = True := fun y => eq_true (by simp; omega)
    have c2 : ((0 : Int) ≤ ((pre.length : Nat) : Int)) = True := eq_true (by omega)
    have hrd : ∀ y : S72, rd_T72 (pre ++ y :: rest) ((pre.length : Nat) : Int) = y := fun y => gd_at z72 pre rest y
    have hst : ∀ y v : S72, (pre ++ y :: rest).set (((pre.length : Nat) : Int)).toNat v = pre ++ v :: rest := fun y v => st_at pre rest y v
    have ih := markRayS_x rest (pre ++ [mkRay z]) (z + 6) b1 (by omega) b2
    rw [b3, List.append_assoc, List.singleton_append, List.append_assoc, List.singleton_append, len_snoc] at ih
    have W : ∀ q : Int, 0 ≤ q → q ≤ 100 → wrap64 (z + q) = z + q := fun q h h' => w64 (by omega) (by omega)
    have Md : ∀ q : Int, 0 ≤ q → q ≤ 100 → (z + q) % 4294967296 = z + q := fun q h h' => Int.emod_eq_of_lt (by omega) (by omega)
    have m0 : z % 4294967296 = z := Int.emod_eq_of_lt (by omega) (by omega)
    have hi : wrap64 (((pre.length : Nat) : Int) + 1) = ((pre.length : Nat) : Int) + 1 := w64 (by omega) (by omega)
    have e1 : wrap64 (z + 1) = z + 1 := W 1 (by decide) (by decide)
    have e2 : wrap64 (z + 2) = z + 2 := W 2 (by decide) (by decide)
    have e3 : wrap64 (z + 3) = z + 3 := W 3 (by decide) (by decide)
    have e4 : wrap64 (z + 4) = z + 4 := W 4 (by decide) (by decide)
    have e5 : wrap64 (z + 5) = z + 5 := W 5 (by decide) (by decide)
    have e6 : wrap64 (z + 6) = z + 6 := W 6 (by decide) (by decide)
    have f1 : wrap64 (z + 1 + 1) = z + 2 := (congrArg wrap64 (Int.add_assoc z 1 1)).trans e2
    have f2 : wrap64 (z + 2 + 1) = z + 3 := (congrArg wrap64 (Int.add_assoc z 2 1)).trans e3
    have f3 : wrap64 (z + 3 + 1) = z + 4 := (congrArg wrap64 (Int.add_assoc z 3 1)).trans e4
    have f4 : wrap64 (z + 4 + 1) = z + 5 := (congrArg wrap64 (Int.add_assoc z 4 1)).trans e5
    have f5 : wrap64 (z + 5 + 1) = z + 6 := (congrArg wrap64 (Int.add_assoc z 5 1)).trans e6
    have m1 : (z + 1) % 4294967296 = z + 1 := Md 1 (by decide) (by decide)
    have m2 : (z + 2) % 4294967296 = z + 2 := Md 2 (by decide) (by decide)
    have m3 : (z + 3) % 4294967296 = z + 3 := Md 3 (by decide) (by decide)
    have m4 : (z + 4) % 4294967296 = z + 4 := Md 4 (by decide) (by decide)
    have m5 : (z + 5) % 4294967296 = z + 5 := Md 5 (by decide) (by decide)
    refine Ev.step (fun k => ?_) ih
    simp only [laws_markRayS.l0, c1, c2, if_true, Option.bind_some, hst, hrd, e1, e2, e3, e4, e5, e6, f1, f2, f3, f4, f5, m0, m1, m2, m3, m4, m5, hi]
    rfl
theorem markRayS_ev (l : List S72) (z : Int) (hl : l.length ≤ 1048576) (h0 : 0 ≤ z) (h1 : z ≤ 100000000) : Ev (fun k => laws_markRayS.f k l z) (z + 6 * l.length, mksRay z l.length) :=
  markRayS_x l [] z (by simpa using hl) h0 (by omega)
theorem heldRayS_x : ∀ (n : Nat) (pre : List S72) (z : Int), pre.length + n ≤ 1048576 → 0 ≤ z → z + 6 * n ≤ 1000000000 →
    Ev (fun k => laws_heldRayS.l0 k (pre ++ mksRay z n) z ((pre.length : Nat) : Int)) (z + 6 * n)
  | 0, pre, z, hl, h0, h1 => ⟨1, fun k hk => by
    obtain ⟨k, rfl⟩ : ∃ m, k = m + 1 := ⟨k - 1, by omega⟩
    simp only [laws_heldRayS.l0]
    rw [if_neg (by simp [mksRay])]
    simp⟩
  | n + 1, pre, z, hl, h0, h1 => by
    have b1 : (pre ++ [mkRay z]).length + n ≤ 1048576 := by simp; omega
    have b2 : z + 6 + 6 * (n : Int) ≤ 1000000000 := by omega
    have b3 : z + 6 + 6 * (n : Int) = z + 6 * ((n + 1 : Nat) : Int) := by omega
    have c1 : (((pre.length : Nat) : Int) < ((pre ++ mkRay z :: mksRay (z + 6) n).length : Int)) = True := eq_true (by simp; omega)
    have c2 : ((0 : Int) ≤ ((pre.length : Nat) : Int)) = True := eq_true (by omega)
    have hrd : rd_T72 (pre ++ mkRay z :: mksRay (z + 6) n) ((pre.length : Nat) : Int) = mkRay z := gd_at z72 pre _ _
    have ih := heldRayS_x n (pre ++ [mkRay z]) (z + 6) b1 (by omega) b2
    rw [b3, List.append_assoc, List.singleton_append, len_snoc] at ih
    have W : ∀ q : Int, 0 ≤ q → q ≤ 100 → wrap64 (z + q) = z + q := fun q h h' => w64 (by omega) (by omega)
    have Md : ∀ q : Int, 0 ≤ q → q ≤ 100 → (z + q) % 4294967296 = z + q := fun q h h' => Int.emod_eq_of_lt (by omega) (by omega)
    have m0 : z % 4294967296 = z := Int.emod_eq_of_lt (by omega) (by omega)
    have hi : wrap64 (((pre.length : Nat) : Int) + 1) = ((pre.length : Nat) : Int) + 1 := w64 (by omega) (by omega)
    have e1 : wrap64 (z + 1) = z + 1 := W 1 (by decide) (by decide)
    have e2 : wrap64 (z + 2) = z + 2 := W 2 (by decide) (by decide)
    have e3 : wrap64 (z + 3) = z + 3 := W 3 (by decide) (by decide)
    have e4 : wrap64 (z + 4) = z + 4 := W 4 (by decide) (by decide)
    have e5 : wrap64 (z + 5) = z + 5 := W 5 (by decide) (by decide)
    have e6 : wrap64 (z + 6) = z + 6 := W 6 (by decide) (by decide)
    have f1 : wrap64 (z + 1 + 1) = z + 2 := (congrArg wrap64 (Int.add_assoc z 1 1)).trans e2
    have f2 : wrap64 (z + 2 + 1) = z + 3 := (congrArg wrap64 (Int.add_assoc z 2 1)).trans e3
    have f3 : wrap64 (z + 3 + 1) = z + 4 := (congrArg wrap64 (Int.add_assoc z 3 1)).trans e4
    have f4 : wrap64 (z + 4 + 1) = z + 5 := (congrArg wrap64 (Int.add_assoc z 4 1)).trans e5
    have f5 : wrap64 (z + 5 + 1) = z + 6 := (congrArg wrap64 (Int.add_assoc z 5 1)).trans e6
    have m1 : (z + 1) % 4294967296 = z + 1 := Md 1 (by decide) (by decide)
    have m2 : (z + 2) % 4294967296 = z + 2 := Md 2 (by decide) (by decide)
    have m3 : (z + 3) % 4294967296 = z + 3 := Md 3 (by decide) (by decide)
    have m4 : (z + 4) % 4294967296 = z + 4 := Md 4 (by decide) (by decide)
    have m5 : (z + 5) % 4294967296 = z + 5 := Md 5 (by decide) (by decide)
    rw [show mksRay z (n + 1) = mkRay z :: mksRay (z + 6) n from rfl]
    have p0 : (mkRay z).f0.f0 = z := rfl
    have p1 : (mkRay z).f0.f1 = z + 1 := rfl
    have p2 : (mkRay z).f0.f2 = z + 2 := rfl
    have p3 : (mkRay z).f1.f0 = z + 3 := rfl
    have p4 : (mkRay z).f1.f1 = z + 4 := rfl
    have p5 : (mkRay z).f1.f2 = z + 5 := rfl
    refine Ev.step (fun k => ?_) ih
    simp only [laws_heldRayS.l0, c1, c2, if_true, hrd, p0, p1, p2, p3, p4, p5, e1, e2, e3, e4, e5, e6, f1, f2, f3, f4, f5, m0, m1, m2, m3, m4, m5, hi]
theorem heldRayS_ev (n : Nat) (z : Int) (hl : n ≤ 1048576) (h0 : 0 ≤ z) (h1 : z ≤ 100000000) : Ev (fun k => laws_heldRayS.f k (mksRay z n) z) (z + 6 * n) :=
  heldRayS_x n [] z (by simpa using hl) h0 (by omega)
theorem mksRay_length : ∀ (n : Nat) (z : Int), (mksRay z n).length = n
  | 0, _ => rfl
  | n + 1, z => by simp [mksRay, mksRay_length n]
theorem eqPointS_l0 : ∀ (rest pre : List S67), (pre ++ rest).length ≤ 1048576 → Ev (fun k => laws_eqPointS.l0 k (pre ++ rest) (pre ++ rest) ((pre.length : Nat) : Int)) true
  | [], pre, hl => ⟨1, fun k hk => by
    obtain ⟨k, rfl⟩ : ∃ m, k = m + 1 := ⟨k - 1, by omega⟩
    simp only [laws_eqPointS.l0]
    rw [if_neg (by simp)]⟩
  | x :: rest, pre, hl => by
    have hlen : (pre ++ x :: rest).length = pre.length + (rest.length + 1) := by simp
    have ih := eqPointS_l0 rest (pre ++ [x]) (by simpa using hl)
    have hrd : rd_T67 (pre ++ x :: rest) ((pre.length : Nat) : Int) = x := gd_at z67 pre rest x
    rw [List.append_assoc, List.singleton_append, len_snoc] at ih
    refine Ev.step (fun k => ?_) ih
    simp only [laws_eqPointS.l0]
    rw [if_pos (by rw [hlen]; omega), if_pos (by omega), if_pos (by rw [hlen]; omega), hrd, w64 (by omega) (by omega)]
    simp [laws_eqPoint.f]
theorem eqPointS_ev (l : List S67) (hl : l.length ≤ 1048576) : Ev (fun k => laws_eqPointS.f k l l) true := by
  have h := eqPointS_l0 l [] (by simpa using hl)
  refine Ev.congr (fun k => ?_) (by simpa using h)
  unfold laws_eqPointS.f
  rw [if_pos rfl]
def mkPoint (z : Int) : S67 := ⟨z, z + 1, z + 2⟩
def mksPoint : Int → Nat → List S67
  | _, 0 => []
  | z, n + 1 => mkPoint z :: mksPoint (z + 3) n
theorem markPointS_x : ∀ (rest pre : List S67) (z : Int), pre.length + rest.length ≤ 1048576 → 0 ≤ z → z + 3 * rest.length ≤ 1000000000 →
    Ev (fun k => laws_markPointS.l0 k (pre ++ rest) z ((pre.length : Nat) : Int)) (z + 3 * rest.length, pre ++ mksPoint z rest.length)
  | [], pre, z, hl, h0, h1 => ⟨1, fun k hk => by
    obtain ⟨k, rfl⟩ : ∃ m, k = m + 1 := ⟨k - 1, by omega⟩
    simp only [laws_markPointS.l0]
    rw [if_neg (by simp)]
    simp [mksPoint]⟩
  | x :: rest, pre, z, hl, h0, h1 => by
    have hlr : (x :: rest).length = rest.length + 1 := rfl
    rw [hlr] at hl h1
    have b1 : (pre ++ [mkPoint z]).length + rest.length ≤ 1048576 := by simp; omega
    have b2 : z + 3 + 3 * (rest.length : Int) ≤ 1000000000 := by omega
    have b3 : z + 3 + 3 * (rest.length : Int) = z + 3 * ((rest.length + 1 : Nat) : Int) := by omega
    have c1 : ∀ y : S67, (((pre.length : Nat) : Int) < ((pre ++ y :: rest).length : Int)) = True := fun y => eq_true (by simp; omega)
    have c2 : ((0 : Int) ≤ ((pre.length : Nat) : Int)) = True := eq_true (by omega)
    have hrd : ∀ y : S67, rd_T67 (pre ++ y :: rest) ((pre.length : Nat) : Int) = y := fun y => gd_at z67 pre rest y
    have hst : ∀ y v : S67, (pre ++ y :: rest).set (((pre.length : Nat) : Int)).toNat v = pre ++ v :: rest := fun y v => st_at pre rest y v
    have ih := markPointS_x rest (pre ++ [mkPoint z]) (z + 3) b1 (by omega) b2
    rw [b3, List.append_assoc, List.singleton_append, List.append_assoc, List.singleton_append, len_snoc] at ih
    have W : ∀ q : Int, 0 ≤ q → q ≤ 100 → wrap64 (z + q) = z + q := fun q h h' => w64 (by omega) (by omega)
    have Md : ∀ q : Int, 0 ≤ q → q ≤ 100 → (z + q) % 4294967296 = z + q := fun q h h' => Int.emod_eq_of_lt (by omega) (by omega)
    have m0 : z % 4294967296 = z := Int.emod_eq_of_lt (by omega) (by omega)
    have hi : wrap64 (((pre.length : Nat) : Int) + 1) = ((pre.length : Nat) : Int) + 1 := w64 (by omega) (by omega)
    have e1 : wrap64 (z + 1) = z + 1 := W 1 (by decide) (by decide)
    have e2 : wrap64 (z + 2) = z + 2 := W 2 (by decide) (by decide)
    have e3 : wrap64 (z + 3) = z + 3 := W 3 (by decide) (by decide)
    have f1 : wrap64 (z + 1 + 1) = z + 2 := (congrArg wrap64 (Int.add_assoc z 1 1)).trans e2
    have f2 : wrap64 (z + 2 + 1) = z + 3 := (congrArg wrap64 (Int.add_assoc z 2 1)).trans e3
    have m1 : (z + 1) % 4294967296 = z + 1 := Md 1 (by decide) (by decide)
    have m2 : (z + 2) % 4294967296 = z + 2 := Md 2 (by decide) (by decide)
    refine Ev.step (fun k => ?_) ih
    simp only [laws_markPointS.l0, c1, c2, if_true, Option.bind_some, hst, hrd, e1, e2, e3, f1, f2, m0, m1, m2, hi]
    rfl
theorem markPointS_ev (l : List S67) (z : Int) (hl : l.length ≤ 1048576) (h0 : 0 ≤ z) (h1 : z ≤ 100000000) : Ev (fun k => laws_markPointS.f k l z) (z + 3 * l.length, mksPoint z l.length) :=
  markPointS_x l [] z (by simpa using hl) h0 (by omega)
theorem heldPointS_x : ∀ (n : Nat) (pre : List S67) (z : Int), pre.length + n ≤ 1048576 → 0 ≤ z → z + 3 * n ≤ 1000000000 →
    Ev (fun k => laws_heldPointS.l0 k (pre ++ mksPoint z n) z ((pre.length : Nat) : Int)) (z + 3 * n)
  | 0, pre, z, hl, h0, h1 => ⟨1, fun k hk => by
    obtain ⟨k, rfl⟩ : ∃ m, k = m + 1 := ⟨k - 1, by omega⟩
    simp only [laws_heldPointS.l0]
    rw [if_neg (by simp [mksPoint])]
    simp⟩
  | n + 1, pre, z, hl, h0, h1 => by
    have b1 : (pre ++ [mkPoint z]).length + n ≤ 1048576 := by simp; omega
    have b2 : z + 3 + 3 * (n : Int) ≤ 1000000000 := by omega
    have b3 : z + 3 + 3 * (n : Int) = z + 3 * ((n + 1 : Nat) : Int) := by omega
    have c1 : (((pre.length : Nat) : Int) < ((pre ++ mkPoint z :: mksPoint (z + 3) n).length : Int)) = True := eq_true (by simp; omega)
    have c2 : ((0 : Int) ≤ ((pre.length : Nat) : Int)) = True := eq_true (by omega)
    have hrd : rd_T67 (pre ++ mkPoint z :: mksPoint (z + 3) n) ((pre.length : Nat) : Int) = mkPoint z := gd_at z67 pre _ _
    have ih := heldPointS_x n (pre ++ [mkPoint z]) (z + 3) b1 (by omega) b2
    rw [b3, List.append_assoc, List.singleton_append, len_snoc] at ih
    have W : ∀ q : Int, 0 ≤ q → q ≤ 100 → wrap64 (z + q) = z + q := fun q h h' => w64 (by omega) (by omega)
    have Md : ∀ q : Int, 0 ≤ q → q ≤ 100 → (z + q) % 4294967296 = z + q := fun q h h' => Int.emod_eq_of_lt (by omega) (by omega)
    have m0 : z % 4294967296 = z := Int.emod_eq_of_lt (by omega) (by omega)
    have hi : wrap64 (((pre.length : Nat) : Int) + 1) = ((pre.length : Nat) : Int) + 1 := w64 (by omega) (by omega)
    have e1 : wrap64 (z + 1) = z + 1 := W 1 (by decide) (by decide)
    have e2 : wrap64 (z + 2) = z + 2 := W 2 (by decide) (by decide)
    have e3 : wrap64 (z + 3) = z + 3 := W 3 (by decide) (by decide)
    have f1 : wrap64 (z + 1 + 1) = z + 2 := (congrArg wrap64 (Int.add_assoc z 1 1)).trans e2
    have f2 : wrap64 (z + 2 + 1) = z + 3 := (congrArg wrap64 (Int.add_assoc z 2 1)).trans e3
    have m1 : (z + 1) % 4294967296 = z + 1 := Md 1 (by decide) (by decide)
    have m2 : (z + 2) % 4294967296 = z + 2 := Md 2 (by decide) (by decide)
    rw [show mksPoint z (n + 1) = mkPoint z :: mksPoint (z + 3) n from rfl]
    have p0 : (mkPoint z).f0 = z := rfl
    have p1 : (mkPoint z).f1 = z + 1 := rfl
    have p2 : (mkPoint z).f2 = z + 2 := rfl
    refine Ev.step (fun k => ?_) ih
    simp only [laws_heldPointS.l0, c1, c2, if_true, hrd, p0, p1, p2, e1, e2, e3, f1, f2, m0, m1, m2, hi]
theorem heldPointS_ev (n : Nat) (z : Int) (hl : n ≤ 1048576) (h0 : 0 ≤ z) (h1 : z ≤ 100000000) : Ev (fun k => laws_heldPointS.f k (mksPoint z n) z) (z + 3 * n) :=
  heldPointS_x n [] z (by simpa using hl) h0 (by omega)
theorem mksPoint_length : ∀ (n : Nat) (z : Int), (mksPoint z n).length = n
  | 0, _ => rfl
  | n + 1, z => by simp [mksPoint, mksPoint_length n]
theorem eqScene_ev (ts : List S70) (rs : List S72) (ps : List S67) (h1 : ts.length ≤ 1048576) (h2 : rs.length ≤ 1048576) (h3 : ps.length ≤ 1048576) :
    Ev (fun k => laws_eqScene.f k ts rs ps ts rs ps) true := by
  unfold laws_eqScene.f
  refine Ev.bind (eqTriS_ev ts h1) ?_
  simp only [if_true]
  refine Ev.bind (eqRayS_ev rs h2) ?_
  simp only [if_true]
  refine Ev.bind (eqPointS_ev ps h3) ?_
  exact ev_const rfl
theorem markScene_ev (ts : List S70) (rs : List S72) (ps : List S67) (z : Int) (h1 : ts.length ≤ 1048576) (h2 : rs.length ≤ 1048576) (h3 : ps.length ≤ 1048576) (h0 : 0 ≤ z) (hz : z ≤ 1048576) :
    Ev (fun k => laws_markScene.f k ts rs ps z) (z + 9 * ts.length + 6 * rs.length + 3 * ps.length, mksTri z ts.length, mksRay (z + 9 * ts.length) rs.length, mksPoint (z + 9 * ts.length + 6 * rs.length) ps.length) := by
  unfold laws_markScene.f
  refine Ev.bind (markTriS_ev ts z h1 h0 (by omega)) ?_
  refine Ev.bind (markRayS_ev rs _ h2 (by omega) (by omega)) ?_
  refine Ev.bind (markPointS_ev ps _ h3 (by omega) (by omega)) ?_
  exact ev_const rfl
theorem heldScene_ev (n m q : Nat) (z : Int) (h1 : n ≤ 1048576) (h2 : m ≤ 1048576) (h3 : q ≤ 1048576) (h0 : 0 ≤ z) (hz : z ≤ 1048576) :
    Ev (fun k => laws_heldScene.f k (mksTri z n) (mksRay (z + 9 * n) m) (mksPoint (z + 9 * n + 6 * m) q) z) (z + 9 * n + 6 * m + 3 * q) := by
  unfold laws_heldScene.f
  refine Ev.bind (heldTriS_ev n z h1 h0 (by omega)) ?_
  refine Ev.congr (fun k => if_neg (by omega)) ?_
  refine Ev.bind (heldRayS_ev m _ h2 (by omega) (by omega)) ?_
  refine Ev.congr (fun k => if_neg (by omega)) ?_
  refine Ev.bind (heldPointS_ev q _ h3 (by omega) (by omega)) ?_
  refine Ev.congr (fun k => if_neg (by omega)) ?_
  exact ev_const rfl

theorem FnExactDecodeScene : laws_FnExactDecodeScene.Pure := by
  intro b hmx _ hwf
  refine Ev.rounds ?_
  unfold laws_FnExactDecodeScene.f
  by_cases hbig : (b.length : Int) > 1048576
  · exact Ev.congr (fun k => if_pos hbig) (ev_const rfl)
  refine Ev.congr (fun k => if_neg hbig) ?_
  have hl : b.length ≤ 1048576 := by omega
  have hb := wf_by hwf
  obtain ⟨hs, n1, n2, n3⟩ := specDec_ev hb hl
  have hi : Ev (fun _ => impl_DecodeScene.f b) (decE b) := ev_const (if_pos (okB_of hb hl))
  generalize decE b = d at hs n1 n2 n3 hi
  obtain ⟨d1, d2, d3, d4, d5⟩ := d
  dsimp only at n1 n2 n3
  have tb := toByteS_ev b hl
  have er := eqScene_ev d1 d2 d3 (by omega) (by omega) (by omega)
  have eb := eqByteS_ev b (by omega)
  have mb := markByteS_ev b 1 (by omega) (by omega) (by omega)
  have mr := markScene_ev d1 d2 d3 1 (by omega) (by omega) (by omega) (by omega) (by omega)
  have hh := heldScene_ev d1.length d2.length d3.length 1 (by omega) (by omega) (by omega) (by omega) (by omega)
  refine Ev.bind tb ?_
  refine Ev.bind hs ?_
  refine Ev.bind tb ?_
  refine Ev.bind hi ?_
  dsimp only
  refine Ev.bind er ?_
  simp only [if_true]
  refine Ev.bind tb ?_
  refine Ev.bind eb ?_
  simp only [if_true]
  refine Ev.bind mb ?_
  dsimp only
  refine Ev.congr (fun k => if_neg (by omega)) ?_
  refine Ev.bind er ?_
  simp only [if_true]
  refine Ev.bind mr ?_
  dsimp only
  refine Ev.bind hh ?_
  refine Ev.congr (fun k => if_neg (by omega)) ?_
  simp only [if_true]
  refine Ev.bind tb ?_
  refine Ev.bind hi ?_
  dsimp only
  refine Ev.bind er ?_
  simp only [if_true]
  refine Ev.bind hh ?_
  refine Ev.congr (fun k => if_neg (by omega)) ?_
  exact ev_const (if_pos rfl)

end Go.Proofs.YtcpdeenhjodmfaaDoor.Pure
