/- The plain law behind FnExactEncodePictureSaid: the pure functions that the program's Go functions come to answer as the statement says, for every input that the row lets in. -/
import Derived.Test.YtcpdeenhjodmfaaQEncodePictureO
namespace Go.Proofs.Ytcpdeenhjodmfaa.Pure
open Go.RowKit Go.Proofs.Ytcpdeenhjodmfaa.QEncodePicture Go.Proofs.YtcpdeenhjodmfaaW.PrintWords Go.Proofs.YtcpdeenhjodmfaaW.PrintLast Go.Proofs.YtcpdeenhjodmfaaW.PrintMore
set_option linter.unusedVariables false
set_option linter.unusedSimpArgs false
/-! ### rounds, and lists by index -/
theorem ev_const {α : Type} {a : Option α} {r : α} (h : a = some r) : Ev (fun _ => a) r := ⟨0, fun _ _ => h⟩
theorem ev_bindc {α β : Type} {g : Nat → Option α} {f : α → Option β} {a : α} {r : β} (h : Ev g a) (k : f a = some r) : Ev (fun n => (g n).bind f) r :=
  Ev.bind (f := fun _ => f) h (ev_const k)
theorem ev_cbind {α β : Type} {g : Option α} {f : Nat → α → Option β} {a : α} {r : β} (h : g = some a) (k : Ev (fun n => f n a) r) : Ev (fun n => g.bind (f n)) r :=
  Ev.bind (g := fun _ => g) (ev_const h) k
theorem rd_nat (xs : List Int) (i : Nat) : rd xs (i : Int) = xs.getD i 0 := by simp [rd]
theorem rd_at (pre rest : List Int) (r : Int) : rd (pre ++ r :: rest) ((pre.length : Nat) : Int) = r := by simp [rd]
theorem rdb_at (pre rest : List Bool) (r : Bool) : rdOf false (pre ++ r :: rest) ((pre.length : Nat) : Int) = r := by simp [rdOf]
theorem set_at {α : Type} (pre rest : List α) (r v : α) : (pre ++ r :: rest).set (((pre.length : Nat) : Int)).toNat v = (pre ++ [v]) ++ rest := by simp
theorem w64 {x : Int} (h0 : -9223372036854775808 ≤ x) (h1 : x ≤ 9223372036854775807) : wrap64 x = x := by unfold wrap64; omega
theorem len_snoc {α : Type} (pre : List α) (v : α) : (((pre ++ [v]).length : Nat) : Int) = ((pre.length : Nat) : Int) + 1 := by simp
def marks {α : Type} (M : Int → α) : Int → Nat → List α
  | _, 0 => []
  | k, n + 1 => M k :: marks M (k + 1) n
theorem marks_length {α : Type} (M : Int → α) : ∀ (n : Nat) (k : Int), (marks M k n).length = n
  | 0, _ => rfl
  | n + 1, k => by simp [marks, marks_length M n]

/-! ### words -/
theorem shr_eq (k : IntKind) (x : Int) (s : Nat) (h : s ≤ k.bits) : shr k x ((s : Nat) : Int) = x / 2 ^ s := by
  unfold shr
  rw [Int.toNat_natCast, Nat.min_eq_left h]
theorem shl_eq (k : IntKind) (x : Int) (s : Nat) (h : s ≤ k.bits) : shl k x ((s : Nat) : Int) = k.wrap (x * 2 ^ s) := by
  unfold shl
  rw [Int.toNat_natCast, Nat.min_eq_left h]
theorem tdn (n m : Nat) : Int.tdiv ((n : Nat) : Int) ((m : Nat) : Int) = ((n / m : Nat) : Int) := by
  rw [Int.tdiv_eq_ediv_of_nonneg (by omega)]; rfl
theorem tmn (n m : Nat) : Int.tmod ((n : Nat) : Int) ((m : Nat) : Int) = ((n % m : Nat) : Int) := by
  rw [Int.tmod_eq_emod_of_nonneg (by omega)]; rfl

theorem toIntS_l0 : ∀ (rest junk pre : List Int), junk.length = rest.length → (pre ++ rest).length ≤ 4611686018427387904 → Ev (fun k => laws_toIntS.l0 k (pre ++ rest) (pre ++ junk) ((pre.length : Nat) : Int)) (pre ++ rest)
  | [], junk, pre, hj, hl => by
    obtain rfl : junk = [] := List.eq_nil_of_length_eq_zero hj
    exact ⟨1, fun k hk => by obtain ⟨k, rfl⟩ : ∃ m, k = m + 1 := ⟨k - 1, by omega⟩; simp only [laws_toIntS.l0]; rw [if_neg (by simp)]⟩
  | r :: rest, [], pre, hj, hl => by simp at hj
  | r :: rest, j :: junk, pre, hj, hl => by
    have hlen : (pre ++ r :: rest).length = pre.length + (rest.length + 1) := by simp
    have hlen2 : (pre ++ j :: junk).length = pre.length + (junk.length + 1) := by simp
    have h := toIntS_l0 rest junk (pre ++ [r]) (by simpa using hj) (by simpa using hl)
    rw [len_snoc, List.append_assoc, List.singleton_append] at h
    refine Ev.step (fun k => ?_) h
    simp only [laws_toIntS.l0]
    rw [if_pos (by rw [hlen]; omega), if_pos (by omega), if_pos (by rw [hlen2]; omega), set_at, rd_at, w64 (by omega) (by omega)]
theorem toIntS_ev (l : List Int) (h : l.length ≤ 1048576) : Ev (fun k => laws_toIntS.f k l) l := by
  have h1 := toIntS_l0 l (List.replicate l.length 0) [] (by simp) (by simp; omega)
  refine Ev.congr (fun k => ?_) h1
  simp only [laws_toIntS.f]
  rw [if_pos (by omega), if_pos (by simp; omega)]
  simp

theorem toBoolS_l0 : ∀ (rest junk pre : List Bool), junk.length = rest.length → (pre ++ rest).length ≤ 4611686018427387904 → Ev (fun k => laws_toBoolS.l0 k (pre ++ rest) (pre ++ junk) ((pre.length : Nat) : Int)) (pre ++ rest)
  | [], junk, pre, hj, hl => by
    obtain rfl : junk = [] := List.eq_nil_of_length_eq_zero hj
    exact ⟨1, fun k hk => by obtain ⟨k, rfl⟩ : ∃ m, k = m + 1 := ⟨k - 1, by omega⟩; simp only [laws_toBoolS.l0]; rw [if_neg (by simp)]⟩
  | r :: rest, [], pre, hj, hl => by simp at hj
  | r :: rest, j :: junk, pre, hj, hl => by
    have hlen : (pre ++ r :: rest).length = pre.length + (rest.length + 1) := by simp
    have hlen2 : (pre ++ j :: junk).length = pre.length + (junk.length + 1) := by simp
    have h := toBoolS_l0 rest junk (pre ++ [r]) (by simpa using hj) (by simpa using hl)
    rw [len_snoc, List.append_assoc, List.singleton_append] at h
    refine Ev.step (fun k => ?_) h
    simp only [laws_toBoolS.l0]
    rw [if_pos (by rw [hlen]; omega), if_pos (by omega), if_pos (by rw [hlen2]; omega), set_at, rdb_at, w64 (by omega) (by omega)]
theorem toBoolS_ev (l : List Bool) (h : l.length ≤ 1048576) : Ev (fun k => laws_toBoolS.f k l) l := by
  have h1 := toBoolS_l0 l (List.replicate l.length false) [] (by simp) (by simp; omega)
  refine Ev.congr (fun k => ?_) h1
  simp only [laws_toBoolS.f]
  rw [if_pos (by omega), if_pos (by simp; omega)]
  simp

theorem eqByteS_l0 : ∀ (rest pre : List Int), (pre ++ rest).length ≤ 4611686018427387904 → Ev (fun k => laws_eqByteS.l0 k (pre ++ rest) (pre ++ rest) ((pre.length : Nat) : Int)) true
  | [], pre, hl => ⟨1, fun k hk => by obtain ⟨k, rfl⟩ : ∃ m, k = m + 1 := ⟨k - 1, by omega⟩; simp only [laws_eqByteS.l0]; rw [if_neg (by simp)]⟩
  | r :: rest, pre, hl => by
    have hlen : (pre ++ r :: rest).length = pre.length + (rest.length + 1) := by simp
    have h := eqByteS_l0 rest (pre ++ [r]) (by simpa using hl)
    rw [len_snoc, List.append_assoc, List.singleton_append] at h
    refine Ev.step (fun k => ?_) h
    simp only [laws_eqByteS.l0]
    rw [if_pos (by rw [hlen]; omega), if_pos (by omega), if_pos (by rw [hlen]; omega), if_pos trivial, w64 (by omega) (by omega)]
theorem eqByteS_ev (l : List Int) (h : l.length ≤ 4611686018427387904) : Ev (fun k => laws_eqByteS.f k l l) true := by
  have h1 := eqByteS_l0 l [] (by simpa using h)
  refine Ev.congr (fun k => ?_) h1
  simp only [laws_eqByteS.f]
  rw [if_pos trivial]
  rfl

theorem markByteS_l0 : ∀ (rest pre : List Int) (z : Int), (pre ++ rest).length ≤ 4611686018427387904 → 0 ≤ z → z + rest.length ≤ 4611686018427387904 →
    Ev (fun k => laws_markByteS.l0 k (pre ++ rest) z ((pre.length : Nat) : Int)) (z + rest.length, pre ++ marks (fun z => z % 256) z rest.length)
  | [], pre, z, hl, h0, h1 => ⟨1, fun k hk => by obtain ⟨k, rfl⟩ : ∃ m, k = m + 1 := ⟨k - 1, by omega⟩; simp only [laws_markByteS.l0]; rw [if_neg (by simp)]; simp [marks]⟩
  | r :: rest, pre, z, hl, h0, h1 => by
    have hlen : (pre ++ r :: rest).length = pre.length + (rest.length + 1) := by simp
    rw [List.length_cons] at h1
    have h := markByteS_l0 rest (pre ++ [(fun z => z % 256) z]) (z + 1) (by simpa using hl) (by omega) (by omega)
    rw [len_snoc, List.append_assoc pre [(fun z => z % 256) z] rest, List.append_assoc pre [(fun z => z % 256) z] (marks _ _ _), List.singleton_append, List.singleton_append, show z + 1 + (rest.length : Int) = z + ((r :: rest).length : Nat) from by rw [List.length_cons]; omega] at h
    refine Ev.step (fun k => ?_) h
    simp only [laws_markByteS.l0]
    rw [if_pos (by rw [hlen]; omega), if_pos (by omega), set_at, w64 (by omega) (by omega), w64 (x := ((pre.length : Nat) : Int) + 1) (by omega) (by omega), List.append_assoc, List.singleton_append]
theorem markByteS_ev (l : List Int) (z : Int) (h : l.length ≤ 4294967296) (h0 : 0 ≤ z) (h1 : z ≤ 4294967296) : Ev (fun k => laws_markByteS.f k l z) (z + l.length, marks (fun z => z % 256) z l.length) := by
  have h1 := markByteS_l0 l [] z (by simp; omega) h0 (by omega)
  exact Ev.congr (fun k => rfl) h1

theorem heldByteS_l0 : ∀ (n : Nat) (pre : List Int) (z : Int), pre.length + n ≤ 4611686018427387904 → 0 ≤ z → z + n ≤ 4611686018427387904 →
    Ev (fun k => laws_heldByteS.l0 k (pre ++ marks (fun z => z % 256) z n) z ((pre.length : Nat) : Int)) (z + n)
  | 0, pre, z, hl, h0, h1 => ⟨1, fun k hk => by obtain ⟨k, rfl⟩ : ∃ m, k = m + 1 := ⟨k - 1, by omega⟩; show laws_heldByteS.l0 (k + 1) (pre ++ []) z _ = _; simp only [laws_heldByteS.l0, List.append_nil]; rw [if_neg (by omega)]; simp⟩
  | n + 1, pre, z, hl, h0, h1 => by
    have hlen : (pre ++ marks (fun z => z % 256) z (n + 1)).length = pre.length + (n + 1) := by simp [marks_length]
    have h := heldByteS_l0 n (pre ++ [(fun z => z % 256) z]) (z + 1) (by simp; omega) (by omega) (by omega)
    rw [len_snoc, List.append_assoc, List.singleton_append, show z + 1 + (n : Int) = z + ((n + 1 : Nat) : Int) from by omega] at h
    refine Ev.step (fun k => ?_) h
    rw [show marks (fun z => z % 256) z (n + 1) = (fun z => z % 256) z :: marks (fun z => z % 256) (z + 1) n from rfl] at hlen ⊢
    simp only [laws_heldByteS.l0]
    rw [if_pos (by rw [hlen]; omega), if_pos (by omega), if_pos (by rw [rd_at]), w64 (by omega) (by omega), w64 (x := ((pre.length : Nat) : Int) + 1) (by omega) (by omega)]
theorem heldByteS_ev (n : Nat) (z : Int) (h : n ≤ 4294967296) (h0 : 0 ≤ z) (h1 : z ≤ 4294967296) : Ev (fun k => laws_heldByteS.f k (marks (fun z => z % 256) z n) z) (z + n) := by
  have h1 := heldByteS_l0 n [] z (by simp; omega) h0 (by omega)
  exact Ev.congr (fun k => rfl) h1

theorem eqIntS_l0 : ∀ (rest pre : List Int), (pre ++ rest).length ≤ 4611686018427387904 → Ev (fun k => laws_eqIntS.l0 k (pre ++ rest) (pre ++ rest) ((pre.length : Nat) : Int)) true
  | [], pre, hl => ⟨1, fun k hk => by obtain ⟨k, rfl⟩ : ∃ m, k = m + 1 := ⟨k - 1, by omega⟩; simp only [laws_eqIntS.l0]; rw [if_neg (by simp)]⟩
  | r :: rest, pre, hl => by
    have hlen : (pre ++ r :: rest).length = pre.length + (rest.length + 1) := by simp
    have h := eqIntS_l0 rest (pre ++ [r]) (by simpa using hl)
    rw [len_snoc, List.append_assoc, List.singleton_append] at h
    refine Ev.step (fun k => ?_) h
    simp only [laws_eqIntS.l0]
    rw [if_pos (by rw [hlen]; omega), if_pos (by omega), if_pos (by rw [hlen]; omega), if_pos trivial, w64 (by omega) (by omega)]
theorem eqIntS_ev (l : List Int) (h : l.length ≤ 4611686018427387904) : Ev (fun k => laws_eqIntS.f k l l) true := by
  have h1 := eqIntS_l0 l [] (by simpa using h)
  refine Ev.congr (fun k => ?_) h1
  simp only [laws_eqIntS.f]
  rw [if_pos trivial]
  rfl

theorem eqBoolS_l0 : ∀ (rest pre : List Bool), (pre ++ rest).length ≤ 4611686018427387904 → Ev (fun k => laws_eqBoolS.l0 k (pre ++ rest) (pre ++ rest) ((pre.length : Nat) : Int)) true
  | [], pre, hl => ⟨1, fun k hk => by obtain ⟨k, rfl⟩ : ∃ m, k = m + 1 := ⟨k - 1, by omega⟩; simp only [laws_eqBoolS.l0]; rw [if_neg (by simp)]⟩
  | r :: rest, pre, hl => by
    have hlen : (pre ++ r :: rest).length = pre.length + (rest.length + 1) := by simp
    have h := eqBoolS_l0 rest (pre ++ [r]) (by simpa using hl)
    rw [len_snoc, List.append_assoc, List.singleton_append] at h
    refine Ev.step (fun k => ?_) h
    simp only [laws_eqBoolS.l0]
    rw [if_pos (by rw [hlen]; omega), if_pos (by omega), if_pos (by rw [hlen]; omega), if_neg (by simp), w64 (by omega) (by omega)]
theorem eqBoolS_ev (l : List Bool) (h : l.length ≤ 4611686018427387904) : Ev (fun k => laws_eqBoolS.f k l l) true := by
  have h1 := eqBoolS_l0 l [] (by simpa using h)
  refine Ev.congr (fun k => ?_) h1
  simp only [laws_eqBoolS.f]
  rw [if_pos trivial]
  rfl

theorem markIntS_l0 : ∀ (rest pre : List Int) (z : Int), (pre ++ rest).length ≤ 4611686018427387904 → 0 ≤ z → z + rest.length ≤ 4611686018427387904 →
    Ev (fun k => laws_markIntS.l0 k (pre ++ rest) z ((pre.length : Nat) : Int)) (z + rest.length, pre ++ marks (fun z => z) z rest.length)
  | [], pre, z, hl, h0, h1 => ⟨1, fun k hk => by obtain ⟨k, rfl⟩ : ∃ m, k = m + 1 := ⟨k - 1, by omega⟩; simp only [laws_markIntS.l0]; rw [if_neg (by simp)]; simp [marks]⟩
  | r :: rest, pre, z, hl, h0, h1 => by
    have hlen : (pre ++ r :: rest).length = pre.length + (rest.length + 1) := by simp
    rw [List.length_cons] at h1
    have h := markIntS_l0 rest (pre ++ [(fun z => z) z]) (z + 1) (by simpa using hl) (by omega) (by omega)
    rw [len_snoc, List.append_assoc pre [(fun z => z) z] rest, List.append_assoc pre [(fun z => z) z] (marks _ _ _), List.singleton_append, List.singleton_append, show z + 1 + (rest.length : Int) = z + ((r :: rest).length : Nat) from by rw [List.length_cons]; omega] at h
    refine Ev.step (fun k => ?_) h
    simp only [laws_markIntS.l0]
    rw [if_pos (by rw [hlen]; omega), if_pos (by omega), set_at, w64 (by omega) (by omega), w64 (x := ((pre.length : Nat) : Int) + 1) (by omega) (by omega), List.append_assoc, List.singleton_append]
theorem markIntS_ev (l : List Int) (z : Int) (h : l.length ≤ 4294967296) (h0 : 0 ≤ z) (h1 : z ≤ 4294967296) : Ev (fun k => laws_markIntS.f k l z) (z + l.length, marks (fun z => z) z l.length) := by
  have h1 := markIntS_l0 l [] z (by simp; omega) h0 (by omega)
  exact Ev.congr (fun k => rfl) h1

theorem markBoolS_l0 : ∀ (rest pre : List Bool) (z : Int), (pre ++ rest).length ≤ 4611686018427387904 → 0 ≤ z → z + rest.length ≤ 4611686018427387904 →
    Ev (fun k => laws_markBoolS.l0 k (pre ++ rest) z ((pre.length : Nat) : Int)) (z + rest.length, pre ++ marks (fun z => (Int.tmod z 3 == 0)) z rest.length)
  | [], pre, z, hl, h0, h1 => ⟨1, fun k hk => by obtain ⟨k, rfl⟩ : ∃ m, k = m + 1 := ⟨k - 1, by omega⟩; simp only [laws_markBoolS.l0]; rw [if_neg (by simp)]; simp [marks]⟩
  | r :: rest, pre, z, hl, h0, h1 => by
    have hlen : (pre ++ r :: rest).length = pre.length + (rest.length + 1) := by simp
    rw [List.length_cons] at h1
    have h := markBoolS_l0 rest (pre ++ [(fun z => (Int.tmod z 3 == 0)) z]) (z + 1) (by simpa using hl) (by omega) (by omega)
    rw [len_snoc, List.append_assoc pre [(fun z => (Int.tmod z 3 == 0)) z] rest, List.append_assoc pre [(fun z => (Int.tmod z 3 == 0)) z] (marks _ _ _), List.singleton_append, List.singleton_append, show z + 1 + (rest.length : Int) = z + ((r :: rest).length : Nat) from by rw [List.length_cons]; omega] at h
    refine Ev.step (fun k => ?_) h
    simp only [laws_markBoolS.l0]
    rw [if_pos (by rw [hlen]; omega), if_pos (by omega), set_at, w64 (by omega) (by omega), w64 (x := ((pre.length : Nat) : Int) + 1) (by omega) (by omega), List.append_assoc, List.singleton_append]
theorem markBoolS_ev (l : List Bool) (z : Int) (h : l.length ≤ 4294967296) (h0 : 0 ≤ z) (h1 : z ≤ 4294967296) : Ev (fun k => laws_markBoolS.f k l z) (z + l.length, marks (fun z => (Int.tmod z 3 == 0)) z l.length) := by
  have h1 := markBoolS_l0 l [] z (by simp; omega) h0 (by omega)
  exact Ev.congr (fun k => rfl) h1

/-! ### bytes: numbers, bits, and a picture's form -/
def By (b : List Int) : Prop := ∀ x ∈ b, 0 ≤ x ∧ x < 256
def gB (b : List Int) (i : Nat) : Int := b.getD i 0
theorem gB_by {b : List Int} (h : By b) (i : Nat) : 0 ≤ gB b i ∧ gB b i < 256 := by
  unfold gB
  by_cases hi : i < b.length
  · rw [List.getD_eq_getElem?_getD, List.getElem?_eq_getElem hi]
    exact h _ (List.getElem_mem hi)
  · rw [List.getD_eq_getElem?_getD, List.getElem?_eq_none (by omega)]
    simp
theorem rd_gB (b : List Int) (i : Nat) {z : Int} (h : z = (i : Int)) : rd b z = gB b i := by subst h; exact rd_nat b i
theorem wf_by {l : List Int} (h : ∀ y ∈ l, (Lit.int .u8 y).wf = true) : By l := fun d hd => by
  have := h d hd
  simp [Lit.wf, IntKind.min, IntKind.max, IntKind.bits, IntKind.signed] at this
  omega
/-! ### texts of bytes -/
theorem ba_loop (s : ByteArray) : ∀ (d i : Nat) (r : List UInt8), i + d = s.size → ByteArray.toList.loop s i r = r.reverse ++ s.data.toList.drop i
  | 0, i, r, h => by
    rw [ByteArray.toList.loop, if_neg (by omega), List.drop_eq_nil_of_le (by have hs : s.data.size = s.size := rfl; rw [Array.length_toList]; omega), List.append_nil]
  | d + 1, i, r, h => by
    have hi : i < s.data.toList.length := by have hs : s.data.size = s.size := rfl; rw [Array.length_toList]; omega
    rw [ByteArray.toList.loop, if_pos (by omega), ba_loop s d (i + 1) _ (by omega), List.drop_eq_getElem_cons hi]
    have hi2 : i < s.data.size := by simpa using hi
    have hg : s.get! i = s.data.toList[i] := by
      cases s with | mk d => show d[i]! = _; rw [getElem!_pos d i hi2]; simp
    rw [hg]
    simp
theorem ba_list (s : ByteArray) : s.toList = s.data.toList := by
  unfold ByteArray.toList
  rw [ba_loop s s.size 0 [] (by omega)]
  simp
theorem str_list (l : List Int) : (strOfNums l).toList = l.map fun n => UInt8.ofNat n.toNat := by
  rw [ba_list]
  simp [strOfNums]
theorem u8_inj {x y : Int} (hx : 0 ≤ x ∧ x < 256) (hy : 0 ≤ y ∧ y < 256) (h : UInt8.ofNat x.toNat = UInt8.ofNat y.toNat) : x = y := by
  have h2 := congrArg UInt8.toNat h
  simp at h2
  omega
theorem map_inj : ∀ {l m : List Int}, By l → By m → (l.map fun n => UInt8.ofNat n.toNat) = (m.map fun n => UInt8.ofNat n.toNat) → l = m
  | [], [], _, _, _ => rfl
  | [], y :: m, _, _, h => by simp at h
  | x :: l, [], _, _, h => by simp at h
  | x :: l, y :: m, hl, hm, h => by
    rw [List.map_cons, List.map_cons] at h
    obtain ⟨h1, h2⟩ := List.cons.inj h
    rw [u8_inj (hl x (by simp)) (hm y (by simp)) h1, map_inj (fun z hz => hl z (by simp [hz])) (fun z hz => hm z (by simp [hz])) h2]
theorem str_iff {l m : List Int} (hl : By l) (hm : By m) : (strOfNums l).toList = (strOfNums m).toList ↔ l = m := by
  rw [str_list, str_list]
  exact ⟨map_inj hl hm, fun h => by rw [h]⟩
theorem head_iff {b : List Int} (hb : By b) : (strOfNums (b.take 4)).toList = ([80, 73, 67, 84] : List UInt8) ↔ b.take 4 = [80, 73, 67, 84] := by
  have h : ([80, 73, 67, 84] : List UInt8) = (strOfNums [80, 73, 67, 84]).toList := by rw [str_list]; rfl
  rw [h]
  exact str_iff (fun z hz => hb z (List.mem_of_mem_take hz)) (by intro z hz; simp at hz; omega)
/-! ### bits -/
def bitAt (r : List Int) (i : Nat) : Bool := gB r (i / 8) / 2 ^ (i % 8) % 2 == 1
def bI (c : Bool) : Int := if c then 1 else 0
theorem bI_le (c : Bool) : 0 ≤ bI c ∧ bI c ≤ 1 := by cases c <;> simp [bI]
def pkb (f : Nat → Bool) : Int := bI (f 0) + 2 * bI (f 1) + 4 * bI (f 2) + 8 * bI (f 3) + 16 * bI (f 4) + 32 * bI (f 5) + 64 * bI (f 6) + 128 * bI (f 7)
theorem pkb_by (f : Nat → Bool) : 0 ≤ pkb f ∧ pkb f < 256 := by
  have h0 := bI_le (f 0); have h1 := bI_le (f 1); have h2 := bI_le (f 2); have h3 := bI_le (f 3); have h4 := bI_le (f 4); have h5 := bI_le (f 5); have h6 := bI_le (f 6); have h7 := bI_le (f 7)
  unfold pkb
  omega
theorem bI_eq (x : Int) (h0 : 0 ≤ x) (h1 : x ≤ 1) : bI (x == 1) = x := by
  rcases (by omega : x = 0 ∨ x = 1) with rfl | rfl <;> rfl
theorem pkb_bits {v : Int} (h : 0 ≤ v ∧ v < 256) : pkb (fun k => v / 2 ^ k % 2 == 1) = v := by
  unfold pkb
  simp only [show (2 : Int) ^ 0 = 1 from rfl, show (2 : Int) ^ 1 = 2 from rfl, show (2 : Int) ^ 2 = 4 from rfl, show (2 : Int) ^ 3 = 8 from rfl, show (2 : Int) ^ 4 = 16 from rfl, show (2 : Int) ^ 5 = 32 from rfl, show (2 : Int) ^ 6 = 64 from rfl, show (2 : Int) ^ 7 = 128 from rfl]
  rw [bI_eq _ (by omega) (by omega), bI_eq _ (by omega) (by omega), bI_eq _ (by omega) (by omega), bI_eq _ (by omega) (by omega), bI_eq _ (by omega) (by omega), bI_eq _ (by omega) (by omega), bI_eq _ (by omega) (by omega), bI_eq _ (by omega) (by omega)]
  omega
theorem bits_pkb (f : Nat → Bool) (k : Nat) (hk : k < 8) : (pkb f / 2 ^ k % 2 == 1) = f k := by
  have h0 := bI_le (f 0); have h1 := bI_le (f 1); have h2 := bI_le (f 2); have h3 := bI_le (f 3); have h4 := bI_le (f 4); have h5 := bI_le (f 5); have h6 := bI_le (f 6); have h7 := bI_le (f 7)
  have hb : ∀ c : Bool, (bI c == 1) = c := by intro c; cases c <;> rfl
  have key : pkb f / 2 ^ k % 2 = bI (f k) := by
    unfold pkb
    rcases (by omega : k = 0 ∨ k = 1 ∨ k = 2 ∨ k = 3 ∨ k = 4 ∨ k = 5 ∨ k = 6 ∨ k = 7) with rfl | rfl | rfl | rfl | rfl | rfl | rfl | rfl
    all_goals simp only [show (2 : Int) ^ 0 = 1 from rfl, show (2 : Int) ^ 1 = 2 from rfl, show (2 : Int) ^ 2 = 4 from rfl, show (2 : Int) ^ 3 = 8 from rfl, show (2 : Int) ^ 4 = 16 from rfl, show (2 : Int) ^ 5 = 32 from rfl, show (2 : Int) ^ 6 = 64 from rfl, show (2 : Int) ^ 7 = 128 from rfl]
    all_goals omega
  rw [key, hb]
theorem pkb_congr {f g : Nat → Bool} (h : ∀ k, k < 8 → f k = g k) : pkb f = pkb g := by
  unfold pkb
  rw [h 0 (by omega), h 1 (by omega), h 2 (by omega), h 3 (by omega), h 4 (by omega), h 5 (by omega), h 6 (by omega), h 7 (by omega)]
/-! ### the form of a picture -/
def le (v : Int) : Nat → List Int
  | 0 => []
  | n + 1 => v % 256 :: le (v / 256) n
theorem le_length : ∀ (n : Nat) (v : Int), (le v n).length = n
  | 0, _ => rfl
  | n + 1, v => by simp [le, le_length n]
theorem le_by : ∀ (n : Nat) (v : Int), By (le v n)
  | 0, _ => fun x hx => by simp [le] at hx
  | n + 1, v => fun x hx => by
    rcases List.mem_cons.1 hx with rfl | hx
    · omega
    · exact le_by n _ x hx
def idb (v : Int) : List Int := if v < 0 then [255, 255, 255, 255] else le v 4
theorem idb_length (v : Int) : (idb v).length = 4 := by unfold idb; split <;> simp [le_length]
theorem idb_by (v : Int) : By (idb v) := by
  unfold idb
  split
  · intro x hx; simp at hx; omega
  · exact le_by _ _
def packAll (l : List Bool) : List Int := (List.range ((l.length + 7) / 8)).map fun j => pkb fun k => l.getD (8 * j + k) false
theorem packAll_length (l : List Bool) : (packAll l).length = (l.length + 7) / 8 := by simp [packAll]
theorem packAll_by (l : List Bool) : By (packAll l) := fun x hx => by
  obtain ⟨j, _, rfl⟩ := List.mem_map.1 hx
  exact pkb_by _
def picForm (ids : List Int) (L : Int) (lit : List Bool) : List Int := [80, 73, 67, 84] ++ le ids.length 2 ++ le L 1 ++ ids.flatMap idb ++ packAll lit
theorem flat_length : ∀ ids : List Int, (ids.flatMap idb).length = 4 * ids.length
  | [] => rfl
  | v :: ids => by rw [List.flatMap_cons, List.length_append, idb_length, flat_length ids, List.length_cons]; omega
theorem flat_by (ids : List Int) : By (ids.flatMap idb) := fun x hx => by
  obtain ⟨v, _, hv⟩ := List.mem_flatMap.1 hx
  exact idb_by v x hv
theorem By.append {l m : List Int} (hl : By l) (hm : By m) : By (l ++ m) := fun x hx => by
  rcases List.mem_append.1 hx with h | h
  · exact hl x h
  · exact hm x h
theorem picForm_by (ids : List Int) (L : Int) (lit : List Bool) : By (picForm ids L lit) := by
  unfold picForm
  exact ((((show By [80, 73, 67, 84] from fun x hx => by simp at hx; omega).append (le_by _ _)).append (le_by _ _)).append (flat_by _)).append (packAll_by _)
theorem picForm_length (ids : List Int) (L : Int) (lit : List Bool) : (picForm ids L lit).length = 7 + 4 * ids.length + (lit.length + 7) / 8 := by
  unfold picForm
  simp only [List.length_append, le_length, flat_length, packAll_length, List.length_cons, List.length_nil]
structure VP (ids : List Int) (L : Int) (lit : List Bool) : Prop where
  n : ids.length ≤ 40
  l0 : 0 ≤ L
  l1 : L ≤ 4
  c : (lit.length : Int) = ids.length * L
  i : ∀ v ∈ ids, -1 ≤ v ∧ v < 40
instance (ids : List Int) (L : Int) (lit : List Bool) : Decidable (VP ids L lit) :=
  decidable_of_iff (ids.length ≤ 40 ∧ 0 ≤ L ∧ L ≤ 4 ∧ (lit.length : Int) = ids.length * L ∧ ∀ v ∈ ids, -1 ≤ v ∧ v < 40) ⟨fun ⟨a, b, c, d, e⟩ => ⟨a, b, c, d, e⟩, fun ⟨a, b, c, d, e⟩ => ⟨a, b, c, d, e⟩⟩
theorem VP.lit {ids : List Int} {L : Int} {lit : List Bool} (h : VP ids L lit) : lit.length ≤ 160 := by
  have h1 := h.c
  have h2 : (ids.length : Int) * L ≤ 40 * 4 := Int.mul_le_mul (by have := h.n; omega) h.l1 h.l0 (by omega)
  omega

/-! ### the reference's picture -/
theorem little_l0 (n : Nat) (hn : n ≤ 8) : ∀ (d : Nat) (v : Int) (out : List Int) (i : Nat), i + d = n → 0 ≤ v → v ≤ 9223372036854775807 → out.length = i → Ev (fun k => spec_l6little.l0 k v (n : Int) out (i : Int)) (out ++ le v d)
  | 0, v, out, i, h, h0, h1, ho => ⟨1, fun k hk => by
    obtain ⟨k, rfl⟩ : ∃ m, k = m + 1 := ⟨k - 1, by omega⟩
    simp only [spec_l6little.l0]
    rw [if_neg (by omega)]
    simp [le]⟩
  | d + 1, v, out, i, h, h0, h1, ho => by
    have ih := little_l0 n hn d (v / 256) (out ++ [v % 256]) (i + 1) (by omega) (by omega) (by omega) (by simp [ho])
    rw [List.append_assoc, List.singleton_append] at ih
    refine Ev.step (fun k => ?_) ih
    simp only [spec_l6little.l0]
    rw [if_pos (by omega), if_pos (by omega), Int.tdiv_eq_ediv_of_nonneg h0, Int.tmod_eq_emod_of_nonneg h0, w64 (by omega) (by omega), w64 (by omega) (by omega), show v % 256 % 256 = v % 256 from by omega]
    rfl
theorem little_ev (v : Int) (n : Nat) (hn : n ≤ 8) (h0 : 0 ≤ v) (h1 : v ≤ 9223372036854775807) : Ev (fun k => spec_l6little.f k v (n : Int)) (le v n) := by
  have := little_l0 n hn n v [] 0 (by omega) h0 h1 rfl
  exact this
theorem pic_byte (ids : List Int) (L : Int) (lit : List Bool) (hlit : lit.length ≤ 1000000) (acc : List Int) (hacc : acc.length ≤ 10000000) (j : Nat) (hj : j ≤ 1000000) {r : List Int}
    (h : Ev (fun k => spec_l6picture.l1 k (acc ++ [pkb fun k => lit.getD (j + k) false]) (((j + 8 : Nat)) : Int) ids L lit) r) : Ev (fun k => spec_l6picture.l2 k acc (j : Int) 0 7 ids L lit) r := by
  have hx : ∀ k, 0 ≤ bI (lit.getD (j + k) false) ∧ bI (lit.getD (j + k) false) ≤ 1 := fun k => bI_le _
  have s : ∀ (m : Nat) (z z' v : Int), m ≤ 7 → z = m → z' = (m : Int) - 1 → 0 ≤ v → v ≤ 1000 → Ev (fun k => spec_l6picture.l2 k acc (j : Int) (2 * v + bI (lit.getD (j + m) false)) z' ids L lit) r → Ev (fun k => spec_l6picture.l2 k acc (j : Int) v z ids L lit) r := by
    intro m z z' v hm hz hz' h0 h1 hh
    subst hz
    subst hz'
    refine Ev.step (fun k => ?_) hh
    simp only [spec_l6picture.l2]
    rw [if_pos (by omega), w64 (x := (j : Int) + m) (by omega) (by omega), w64 (x := v * 2) (by omega) (by omega), w64 (x := v * 2 + 1) (by omega) (by omega), w64 (x := (m : Int) - 1) (by omega) (by omega)]
    by_cases hlt : j + m < lit.length
    · rw [if_pos (by omega), if_pos (by omega)]
      have hr : rdOf false lit ((j : Int) + m) = lit.getD (j + m) false := by
        unfold rdOf
        rw [show ((j : Int) + m).toNat = j + m from by omega]
      rw [hr]
      cases hc : lit.getD (j + m) false with
      | true => rw [if_pos rfl, show v * 2 + 1 = 2 * v + bI true from by simp only [bI, if_true]; omega]
      | false => rw [if_neg (by simp), show v * 2 = 2 * v + bI false from by simp only [bI, Bool.false_eq_true, if_false]; omega]
    · rw [if_neg (by omega)]
      have hr : lit.getD (j + m) false = false := by rw [List.getD_eq_getElem?_getD, List.getElem?_eq_none (by omega)]; rfl
      rw [hr, show v * 2 = 2 * v + bI false from by simp only [bI, Bool.false_eq_true, if_false]; omega]
  have h0 := hx 0; have h1 := hx 1; have h2 := hx 2; have h3 := hx 3; have h4 := hx 4; have h5 := hx 5; have h6 := hx 6; have h7 := hx 7
  refine s 7 7 6 0 (by omega) rfl rfl (by omega) (by omega) ?_
  refine s 6 6 5 _ (by omega) rfl rfl (by omega) (by omega) ?_
  refine s 5 5 4 _ (by omega) rfl rfl (by omega) (by omega) ?_
  refine s 4 4 3 _ (by omega) rfl rfl (by omega) (by omega) ?_
  refine s 3 3 2 _ (by omega) rfl rfl (by omega) (by omega) ?_
  refine s 2 2 1 _ (by omega) rfl rfl (by omega) (by omega) ?_
  refine s 1 1 0 _ (by omega) rfl rfl (by omega) (by omega) ?_
  refine s 0 0 (-1) _ (by omega) rfl rfl (by omega) (by omega) ?_
  refine Ev.step (fun k => ?_) h
  simp only [spec_l6picture.l2]
  rw [if_neg (by omega), if_pos (by omega), w64 (x := (j : Int) + 8) (by omega) (by omega)]
  have e : (2 * (2 * (2 * (2 * (2 * (2 * (2 * (2 * 0 + bI (lit.getD (j + 7) false)) + bI (lit.getD (j + 6) false)) + bI (lit.getD (j + 5) false)) + bI (lit.getD (j + 4) false)) + bI (lit.getD (j + 3) false)) + bI (lit.getD (j + 2) false)) + bI (lit.getD (j + 1) false)) + bI (lit.getD (j + 0) false)) % 256 = pkb fun k => lit.getD (j + k) false := by
    simp only [pkb]
    omega
  rw [e]
  rfl
theorem pack_drop (lit : List Bool) (i : Nat) (h : i < (lit.length + 7) / 8) : (packAll lit).drop i = (pkb fun k => lit.getD (8 * i + k) false) :: (packAll lit).drop (i + 1) := by
  have hi : i < (packAll lit).length := by rw [packAll_length]; exact h
  rw [List.drop_eq_getElem_cons hi]
  simp [packAll]
theorem pic_l1 (ids : List Int) (L : Int) (lit : List Bool) (hlit : lit.length ≤ 1000000) : ∀ (d i : Nat) (acc : List Int), i + d = (lit.length + 7) / 8 → acc.length ≤ 1000000 + i →
    Ev (fun k => spec_l6picture.l1 k acc ((8 * i : Nat) : Int) ids L lit) (acc ++ (packAll lit).drop i)
  | 0, i, acc, h, ha => ⟨1, fun k hk => by
    obtain ⟨k, rfl⟩ : ∃ m, k = m + 1 := ⟨k - 1, by omega⟩
    simp only [spec_l6picture.l1]
    rw [if_neg (by omega), List.drop_eq_nil_of_le (by rw [packAll_length]; omega), List.append_nil]⟩
  | d + 1, i, acc, h, ha => by
    have ih := pic_l1 ids L lit hlit d (i + 1) (acc ++ [pkb fun k => lit.getD (8 * i + k) false]) (by omega) (by simp; omega)
    rw [List.append_assoc, List.singleton_append, ← pack_drop lit i (by omega), show 8 * (i + 1) = 8 * i + 8 from by omega] at ih
    refine Ev.step (fun k => ?_) (pic_byte ids L lit hlit acc (by omega) (8 * i) (by omega) ih)
    simp only [spec_l6picture.l1]
    rw [if_pos (by omega)]
theorem pic_l0 (ids : List Int) (hids : ids.length ≤ 100000) (hv : ∀ v ∈ ids, v ≤ 9223372036854775807) (L : Int) (lit : List Bool) (hlit : lit.length ≤ 1000000) : ∀ (d i : Nat) (acc : List Int), i + d = ids.length → acc.length ≤ 100 + 4 * i →
    Ev (fun k => spec_l6picture.l0 k acc (i : Int) ids L lit) (acc ++ (ids.drop i).flatMap idb ++ packAll lit)
  | 0, i, acc, h, ha => by
    have h1 := pic_l1 ids L lit hlit ((lit.length + 7) / 8) 0 acc (by omega) (by omega)
    rw [List.drop_zero] at h1
    rw [List.drop_eq_nil_of_le (by omega), List.flatMap_nil, List.append_nil]
    refine Ev.step (fun k => ?_) h1
    simp only [spec_l6picture.l0]
    rw [if_neg (by omega)]
    rfl
  | d + 1, i, acc, h, ha => by
    have hi : i < ids.length := by omega
    have ih := pic_l0 ids hids hv L lit hlit d (i + 1) (acc ++ idb ids[i]) (by omega) (by rw [List.length_append, idb_length]; omega)
    rw [List.drop_eq_getElem_cons hi, List.flatMap_cons, ← List.append_assoc]
    have hr : rd ids (i : Int) = ids[i] := by rw [rd_nat, List.getD_eq_getElem?_getD, List.getElem?_eq_getElem hi]; rfl
    have hm := hv _ (List.getElem_mem hi)
    by_cases hn : ids[i] < 0
    · have e : idb ids[i] = [255, 255, 255, 255] := by unfold idb; rw [if_pos hn]
      rw [e] at ih ⊢
      refine Ev.step (fun k => ?_) ih
      simp only [spec_l6picture.l0]
      rw [if_pos (by omega), if_pos (by omega), hr, if_pos hn, w64 (x := (i : Int) + 1) (by omega) (by omega)]
      simp only [Option.bind_some]
      rw [if_pos (by simp; omega)]
      rfl
    · have e : idb ids[i] = le ids[i] 4 := by unfold idb; rw [if_neg hn]
      rw [e] at ih ⊢
      have h2 : Ev (fun k => (spec_l6little.f k ids[i] 4).bind fun t149 => (if acc.length + t149.length < 140737488355328 then (spec_l6picture.l0 k (acc ++ t149) (wrap64 ((i : Int) + 1)) ids L lit) else (none))) (acc ++ le ids[i] 4 ++ List.flatMap idb (List.drop (i + 1) ids) ++ packAll lit) := by
        refine Ev.bind (little_ev ids[i] 4 (by omega) (by omega) hm) ?_
        refine Ev.congr (fun k => ?_) ih
        rw [if_pos (by rw [le_length]; omega), w64 (x := (i : Int) + 1) (by omega) (by omega)]
        rfl
      refine Ev.step (fun k => ?_) h2
      simp only [spec_l6picture.l0]
      rw [if_pos (by omega), if_pos (by omega), hr, if_neg hn]
theorem picture_ev (ids : List Int) (L : Int) (lit : List Bool) (h : VP ids L lit) : Ev (fun k => spec_l6picture.f k ids L lit) (picForm ids L lit) := by
  have hl := h.lit
  have hn := h.n
  have h0 := h.l0
  have h1 := h.l1
  have hp := pic_l0 ids (by omega) (fun v hv => by have := h.i v hv; omega) L lit (by omega) ids.length 0 ([80, 73, 67, 84] ++ le ids.length 2 ++ le L 1) (by omega) (by simp [le_length])
  rw [List.drop_zero] at hp
  unfold spec_l6picture.f
  simp only [Option.bind_some]
  refine Ev.bind (little_ev (ids.length : Int) 2 (by omega) (by omega) (by omega)) ?_
  simp only [le_length]
  refine Ev.congr (fun k => if_pos (by simp)) ?_
  refine Ev.bind (little_ev L 1 (by omega) (by omega) (by omega)) ?_
  simp only [le_length, List.length_append]
  refine Ev.congr (fun k => if_pos (by simp)) ?_
  exact hp
theorem specvalid_l0 (ids : List Int) (hl : ids.length ≤ 40) (L : Int) (lit : List Bool) : ∀ (d i : Nat), i + d = ids.length → (∀ j, j < i → -1 ≤ ids.getD j 0 ∧ ids.getD j 0 < 40) →
    Ev (fun k => spec_l6validPicture.l0 k (i : Int) ids L lit) (decide (∀ v ∈ ids, -1 ≤ v ∧ v < 40))
  | 0, i, h, hp => ⟨1, fun k hk => by
    obtain ⟨k, rfl⟩ : ∃ m, k = m + 1 := ⟨k - 1, by omega⟩
    simp only [spec_l6validPicture.l0]
    rw [if_neg (by omega), decide_eq_true]
    intro v hv
    obtain ⟨j, hj, rfl⟩ := List.mem_iff_getElem.1 hv
    have := hp j (by omega)
    rwa [List.getD_eq_getElem?_getD, List.getElem?_eq_getElem hj] at this⟩
  | d + 1, i, h, hp => by
    have hi : i < ids.length := by omega
    by_cases hc : -1 ≤ ids.getD i 0 ∧ ids.getD i 0 < 40
    · have ih := specvalid_l0 ids hl L lit d (i + 1) (by omega) (fun j hj => (Nat.lt_or_ge j i).elim (hp j) (fun g => (show i = j by omega) ▸ hc))
      refine Ev.step (fun k => ?_) ih
      simp only [spec_l6validPicture.l0]
      rw [if_pos (by omega), if_pos (by omega), rd_nat, if_neg (by omega), if_neg (by omega), w64 (by omega) (by omega)]
      rfl
    · refine ⟨1, fun k hk => ?_⟩
      obtain ⟨k, rfl⟩ : ∃ m, k = m + 1 := ⟨k - 1, by omega⟩
      have hf : decide (∀ v ∈ ids, -1 ≤ v ∧ v < 40) = false := by
        refine decide_eq_false fun h2 => hc ?_
        rw [List.getD_eq_getElem?_getD, List.getElem?_eq_getElem hi]
        exact h2 _ (List.getElem_mem hi)
      rw [hf]
      simp only [spec_l6validPicture.l0]
      rw [if_pos (by omega), if_pos (by omega), rd_nat]
      by_cases g : ids.getD i 0 < -1
      · rw [if_pos g]
      · rw [if_neg g, if_pos (by omega)]
theorem vp_false {ids : List Int} {L : Int} {lit : List Bool} (h : ¬ VP ids L lit) : decide (VP ids L lit) = false := decide_eq_false h
theorem specvalid_ev (ids : List Int) (L : Int) (lit : List Bool) (hlit : lit.length ≤ 9223372036854775807) : Ev (fun k => spec_l6validPicture.f k ids L lit) (decide (VP ids L lit)) := by
  have hj : ∀ b : Bool, b = true → Ev (fun k => spec_l6validPicture.j0 k b ids L lit) false := fun b hb => ⟨1, fun k hk => by
    obtain ⟨k, rfl⟩ : ∃ m, k = m + 1 := ⟨k - 1, by omega⟩
    simp only [spec_l6validPicture.j0]
    rw [if_pos hb]⟩
  unfold spec_l6validPicture.f
  by_cases h1 : (ids.length : Int) > 40
  · rw [vp_false (fun h => by have := h.n; omega)]
    exact Ev.congr (fun k => if_pos h1) (hj true rfl)
  refine Ev.congr (fun k => if_neg h1) ?_
  by_cases h2 : L < 0
  · rw [vp_false (fun h => by have := h.l0; omega)]
    exact Ev.congr (fun k => if_pos h2) (hj true rfl)
  refine Ev.congr (fun k => if_neg h2) ?_
  by_cases h3 : L > 4
  · rw [vp_false (fun h => by have := h.l1; omega)]
    exact Ev.congr (fun k => if_pos h3) (hj true rfl)
  refine Ev.congr (fun k => if_neg h3) ?_
  have hm : 0 ≤ (ids.length : Int) * L ∧ (ids.length : Int) * L ≤ 40 * 4 := ⟨Int.mul_nonneg (by omega) (by omega), Int.mul_le_mul (by omega) (by omega) (by omega) (by omega)⟩
  rw [w64 (x := (ids.length : Int) * L) (by omega) (by omega)]
  by_cases h4 : (lit.length : Int) = ids.length * L
  · rw [bne_eq_false_iff_eq.2 h4]
    have ih := specvalid_l0 ids (by omega) L lit ids.length 0 (by omega) (fun j hj => by omega)
    have e : decide (VP ids L lit) = decide (∀ v ∈ ids, -1 ≤ v ∧ v < 40) := decide_eq_decide.2 ⟨fun h => h.i, fun h => ⟨by omega, by omega, by omega, h4, h⟩⟩
    rw [e]
    refine Ev.step (fun k => ?_) ih
    simp only [spec_l6validPicture.j0]
    rw [if_neg (by simp)]
    rfl
  · rw [vp_false (fun h => h4 h.c)]
    exact hj _ (bne_iff_ne.2 h4)

/-! ### the program's picture -/
theorem implvalid_l0 (ids : List Int) (hl : ids.length ≤ 40) : ∀ (d i : Nat), i + d = ids.length → (∀ j, j < i → -1 ≤ ids.getD j 0 ∧ ids.getD j 0 < 40) →
    Ev (fun k => impl_validPicture.l0 k ids (ids.length : Int) (i : Int)) (decide (∀ v ∈ ids, -1 ≤ v ∧ v < 40))
  | 0, i, h, hp => ⟨1, fun k hk => by
    obtain ⟨k, rfl⟩ : ∃ m, k = m + 1 := ⟨k - 1, by omega⟩
    simp only [impl_validPicture.l0]
    rw [if_neg (by omega), decide_eq_true]
    intro v hv
    obtain ⟨j, hj, rfl⟩ := List.mem_iff_getElem.1 hv
    have := hp j (by omega)
    rwa [List.getD_eq_getElem?_getD, List.getElem?_eq_getElem hj] at this⟩
  | d + 1, i, h, hp => by
    have hi : i < ids.length := by omega
    by_cases hc : -1 ≤ ids.getD i 0 ∧ ids.getD i 0 < 40
    · have ih := implvalid_l0 ids hl d (i + 1) (by omega) (fun j hj => (Nat.lt_or_ge j i).elim (hp j) (fun g => (show i = j by omega) ▸ hc))
      refine Ev.step (fun k => ?_) ih
      simp only [impl_validPicture.l0]
      rw [if_pos (by omega), if_pos (by omega), if_pos (by omega), rd_nat, if_neg (by omega), if_neg (by omega), w64 (by omega) (by omega)]
      rfl
    · refine ⟨1, fun k hk => ?_⟩
      obtain ⟨k, rfl⟩ : ∃ m, k = m + 1 := ⟨k - 1, by omega⟩
      have hf : decide (∀ v ∈ ids, -1 ≤ v ∧ v < 40) = false := by
        refine decide_eq_false fun h2 => hc ?_
        rw [List.getD_eq_getElem?_getD, List.getElem?_eq_getElem hi]
        exact h2 _ (List.getElem_mem hi)
      rw [hf]
      simp only [impl_validPicture.l0]
      rw [if_pos (by omega), if_pos (by omega), if_pos (by omega), rd_nat]
      by_cases g : ids.getD i 0 < -1
      · rw [if_pos g]
      · rw [if_neg g, if_pos (by omega)]
theorem implvalid_ev (ids : List Int) (L : Int) (lit : List Bool) (hlit : lit.length ≤ 9223372036854775807) : Ev (fun k => impl_validPicture.f k ids L lit) (decide (VP ids L lit)) := by
  have hj : ∀ b : Bool, b = true → Ev (fun k => impl_validPicture.j0 k b ids L lit) false := fun b hb => ⟨1, fun k hk => by
    obtain ⟨k, rfl⟩ : ∃ m, k = m + 1 := ⟨k - 1, by omega⟩
    simp only [impl_validPicture.j0]
    rw [if_pos hb]⟩
  unfold impl_validPicture.f
  by_cases h1 : (ids.length : Int) > 40
  · rw [vp_false (fun h => by have := h.n; omega)]
    exact Ev.congr (fun k => if_pos h1) (hj true rfl)
  refine Ev.congr (fun k => if_neg h1) ?_
  by_cases h2 : L < 0
  · rw [vp_false (fun h => by have := h.l0; omega)]
    exact Ev.congr (fun k => if_pos h2) (hj true rfl)
  refine Ev.congr (fun k => if_neg h2) ?_
  by_cases h3 : L > 4
  · rw [vp_false (fun h => by have := h.l1; omega)]
    exact Ev.congr (fun k => if_pos h3) (hj true rfl)
  refine Ev.congr (fun k => if_neg h3) ?_
  have hm : 0 ≤ (ids.length : Int) * L ∧ (ids.length : Int) * L ≤ 40 * 4 := ⟨Int.mul_nonneg (by omega) (by omega), Int.mul_le_mul (by omega) (by omega) (by omega) (by omega)⟩
  rw [w64 (x := (ids.length : Int) * L) (by omega) (by omega)]
  by_cases h4 : (lit.length : Int) = ids.length * L
  · rw [bne_eq_false_iff_eq.2 h4]
    have ih := implvalid_l0 ids (by omega) ids.length 0 (by omega) (fun j hj => by omega)
    have e : decide (VP ids L lit) = decide (∀ v ∈ ids, -1 ≤ v ∧ v < 40) := decide_eq_decide.2 ⟨fun h => h.i, fun h => ⟨by omega, by omega, by omega, h4, h⟩⟩
    rw [e]
    refine Ev.step (fun k => ?_) ih
    simp only [impl_validPicture.j0]
    rw [if_neg (by simp)]
    rfl
  · rw [vp_false (fun h => h4 h.c)]
    exact hj _ (bne_iff_ne.2 h4)

/-! ### EncodePicture: the program's bytes are the form -/
theorem putE_eq (v : Int) (i : Nat) (h : 8 * i ≤ 32) : putE v i = v / 2 ^ (8 * i) % 256 := by unfold putE; rw [Nat.min_eq_left h]
theorem le_div : ∀ (n : Nat) (v : Int) , le v n = (List.range n).map fun i => v / 2 ^ (8 * i) % 256
  | 0, v => rfl
  | n + 1, v => by
    rw [List.range_succ_eq_map, List.map_cons, List.map_map]
    show v % 256 :: le (v / 256) n = _
    rw [le_div n (v / 256)]
    congr 1
    · simp
    · refine List.map_congr_left fun i _ => ?_
      show v / 256 / 2 ^ (8 * i) % 256 = v / 2 ^ (8 * (i + 1)) % 256
      rw [Int.ediv_ediv_of_nonneg (by omega), Nat.mul_add, Int.pow_add, Int.mul_comm (2 ^ (8 * i))]
      rfl
theorem putB_le (n : Nat) (hn : n ≤ 4) (v : Int) : putB n [v] = le v n := by
  unfold putB putL
  rw [List.flatMap_cons, List.flatMap_nil, List.append_nil, le_div]
  exact List.map_congr_left fun i hi => putE_eq v i (by have := List.mem_range.1 hi; omega)
theorem u32wrap (z : Int) : IntKind.u32.wrap z = z % 4294967296 := by simp [IntKind.wrap, IntKind.bits, IntKind.signed]
theorem put_id (v : Int) (h : -1 ≤ v ∧ v < 40) : putB 4 [IntKind.u32.wrap v] = idb v := by
  rw [putB_le 4 (by omega), u32wrap]
  unfold idb
  by_cases hn : v < 0
  · rw [if_pos hn, show v = -1 from by omega]
    decide
  · rw [if_neg hn, show v % 4294967296 = v from by omega]
theorem encIds_eq : ∀ ids : List Int, (∀ v ∈ ids, -1 ≤ v ∧ v < 40) → encIds ids = ids.flatMap idb
  | [], _ => rfl
  | v :: ids, h => by
    have ih := encIds_eq ids (fun x hx => h x (by simp [hx]))
    unfold encIds at ih ⊢
    rw [List.flatMap_cons, List.flatMap_cons, ih, put_id v (h v (by simp))]
theorem encHead_eq (ids : List Int) (L : Int) (h : ids.length ≤ 40) (h0 : 0 ≤ L) (h1 : L ≤ 4) : encHead ids L = [80, 73, 67, 84] ++ le ids.length 2 ++ le L 1 := by
  unfold encHead
  rw [putB_le 2 (by omega), putB_le 1 (by omega), u32wrap, u32wrap, show (ids.length : Int) % 4294967296 = ids.length from by omega, show L % 4294967296 = L from by omega]
set_option maxRecDepth 100000 in
theorem or_bits : ∀ (b : Fin 256) (r : Fin 8), b.val / 2 ^ r.val % 2 = 0 → b.val ||| 2 ^ r.val = b.val + 2 ^ r.val := by decide +kernel
theorem bitOr_eq (b : Int) (hb : 0 ≤ b ∧ b < 256) (f r : Nat) (hf : f + r = 8) (hr : r < 8) (h : b / 2 ^ r % 2 = 0) : bitOr b f = b + 2 ^ r := by
  obtain ⟨x, rfl⟩ := Int.eq_ofNat_of_zero_le hb.1
  have hx : x < 256 := by omega
  have h2 : x / 2 ^ r % 2 = 0 := by
    have e : ((x / 2 ^ r % 2 : Nat) : Int) = 0 := by simpa using h
    omega
  have hp : 2 ^ r ≤ 128 := by
    have := Nat.pow_le_pow_right (n := 2) (by omega) (show r ≤ 7 by omega)
    have e : (2 : Nat) ^ 7 = 128 := by decide
    omega
  have ho := or_bits ⟨x, hx⟩ ⟨r, hr⟩ h2
  dsimp only at ho
  unfold bitOr
  have hw : ∀ q : Int, IntKind.u8.wrap q = q % 256 := fun q => by simp [IntKind.wrap, IntKind.bits, IntKind.signed]
  have e1 : ((8 : Int) - (f : Int)).toNat = r := by omega
  have e2 : (2 : Int) ^ r = ((2 ^ r : Nat) : Int) := by simp
  have hpp : 0 < 2 ^ r := Nat.two_pow_pos r
  have e3 : (((2 ^ r : Nat) : Int)) % 256 = ((2 ^ r : Nat) : Int) := Int.emod_eq_of_lt (by omega) (by omega)
  rw [e1, Nat.min_eq_left (by omega), e2, hw, e3]
  show IntKind.u8.wrap (((BitVec.ofInt 8 ((x : Nat) : Int) ||| BitVec.ofInt 8 ((2 ^ r : Nat) : Int)).toNat : Nat) : Int) = _
  rw [BitVec.toNat_or, BitVec.ofInt_natCast, BitVec.ofInt_natCast, BitVec.toNat_ofNat, BitVec.toNat_ofNat, Nat.mod_eq_of_lt (a := x) (by omega), Nat.mod_eq_of_lt (a := 2 ^ r) (by omega), ho, hw]
  have hlt : x + 2 ^ r < 256 := by
    have : x ||| 2 ^ r < 2 ^ 8 := Nat.or_lt_two_pow (by omega) (by omega)
    rw [ho] at this
    exact this
  omega
def frOf (i : Nat) : Nat := if i % 8 = 0 then 0 else 8 - i % 8
theorem take_get (lit : List Bool) (i j : Nat) (h : j < i) : (lit.take i).getD j false = lit.getD j false := by
  rw [List.getD_eq_getElem?_getD, List.getD_eq_getElem?_getD, List.getElem?_take_of_lt h]
theorem take_out (lit : List Bool) (i j : Nat) (h : i ≤ j) : (lit.take i).getD j false = false := by
  rw [List.getD_eq_getElem?_getD, List.getElem?_eq_none (by rw [List.length_take]; omega)]
  rfl
def pkq (lit : List Bool) (q : Nat) : List Int := (List.range q).map fun j => pkb fun k => lit.getD (8 * j + k) false
theorem pkq_take (lit : List Bool) (q i : Nat) (h : 8 * q ≤ i) : pkq (lit.take i) q = pkq lit q := by
  refine List.map_congr_left fun j hj => pkb_congr fun k hk => take_get lit i _ ?_
  have := List.mem_range.1 hj
  omega
theorem pkq_succ (lit : List Bool) (q : Nat) : pkq lit (q + 1) = pkq lit q ++ [pkb fun k => lit.getD (8 * q + k) false] := by simp [pkq, List.range_succ]
theorem pkq_len (lit : List Bool) (q : Nat) : (pkq lit q).length = q := by simp [pkq]
theorem packAll_pkq (lit : List Bool) : packAll lit = pkq lit ((lit.length + 7) / 8) := rfl
theorem pkb_upd (f g : Nat → Bool) (r : Nat) (hr : r < 8) (h : ∀ k, k < 8 → k ≠ r → g k = f k) (hf : f r = false) : pkb g = pkb f + 2 ^ r * bI (g r) ∧ pkb f / 2 ^ r % 2 = 0 := by
  have h0 := bI_le (f 0); have h1 := bI_le (f 1); have h2 := bI_le (f 2); have h3 := bI_le (f 3); have h4 := bI_le (f 4); have h5 := bI_le (f 5); have h6 := bI_le (f 6); have h7 := bI_le (f 7)
  have hz : bI false = 0 := rfl
  unfold pkb
  rcases (by omega : r = 0 ∨ r = 1 ∨ r = 2 ∨ r = 3 ∨ r = 4 ∨ r = 5 ∨ r = 6 ∨ r = 7) with rfl | rfl | rfl | rfl | rfl | rfl | rfl | rfl
  · rw [h 1 (by omega) (by omega), h 2 (by omega) (by omega), h 3 (by omega) (by omega), h 4 (by omega) (by omega), h 5 (by omega) (by omega), h 6 (by omega) (by omega), h 7 (by omega) (by omega), hf, hz, show (2 : Int) ^ 0 = 1 from rfl]; omega
  · rw [h 0 (by omega) (by omega), h 2 (by omega) (by omega), h 3 (by omega) (by omega), h 4 (by omega) (by omega), h 5 (by omega) (by omega), h 6 (by omega) (by omega), h 7 (by omega) (by omega), hf, hz, show (2 : Int) ^ 1 = 2 from rfl]; omega
  · rw [h 0 (by omega) (by omega), h 1 (by omega) (by omega), h 3 (by omega) (by omega), h 4 (by omega) (by omega), h 5 (by omega) (by omega), h 6 (by omega) (by omega), h 7 (by omega) (by omega), hf, hz, show (2 : Int) ^ 2 = 4 from rfl]; omega
  · rw [h 0 (by omega) (by omega), h 1 (by omega) (by omega), h 2 (by omega) (by omega), h 4 (by omega) (by omega), h 5 (by omega) (by omega), h 6 (by omega) (by omega), h 7 (by omega) (by omega), hf, hz, show (2 : Int) ^ 3 = 8 from rfl]; omega
  · rw [h 0 (by omega) (by omega), h 1 (by omega) (by omega), h 2 (by omega) (by omega), h 3 (by omega) (by omega), h 5 (by omega) (by omega), h 6 (by omega) (by omega), h 7 (by omega) (by omega), hf, hz, show (2 : Int) ^ 4 = 16 from rfl]; omega
  · rw [h 0 (by omega) (by omega), h 1 (by omega) (by omega), h 2 (by omega) (by omega), h 3 (by omega) (by omega), h 4 (by omega) (by omega), h 6 (by omega) (by omega), h 7 (by omega) (by omega), hf, hz, show (2 : Int) ^ 5 = 32 from rfl]; omega
  · rw [h 0 (by omega) (by omega), h 1 (by omega) (by omega), h 2 (by omega) (by omega), h 3 (by omega) (by omega), h 4 (by omega) (by omega), h 5 (by omega) (by omega), h 7 (by omega) (by omega), hf, hz, show (2 : Int) ^ 6 = 64 from rfl]; omega
  · rw [h 0 (by omega) (by omega), h 1 (by omega) (by omega), h 2 (by omega) (by omega), h 3 (by omega) (by omega), h 4 (by omega) (by omega), h 5 (by omega) (by omega), h 6 (by omega) (by omega), hf, hz, show (2 : Int) ^ 7 = 128 from rfl]; omega
theorem set_last (X : List Int) (a b : Int) : (X ++ [a]).set ((X ++ [a]).length - 1) b = X ++ [b] := by
  rw [List.length_append, List.length_singleton, Nat.add_sub_cancel, List.set_append_right _ _ (Nat.le_refl _), Nat.sub_self]
  rfl
theorem get_last (X : List Int) (a : Int) : (X ++ [a]).getD ((X ++ [a]).length - 1) 0 = a := by
  rw [List.length_append, List.length_singleton, Nat.add_sub_cancel]
  simp
theorem bits_inv (X : List Int) (lit : List Bool) : ∀ i, i ≤ lit.length → encBits X (lit.take i) = (frOf i, X ++ pkq (lit.take i) ((i + 7) / 8))
  | 0, _ => by simp [encBits, frOf, pkq]
  | i + 1, h => by
    rw [encBits_take X lit i (by omega), bits_inv X lit i (by omega)]
    generalize hon : lit.getD i false = on
    have hget : ∀ k, (lit.take (i + 1)).getD k false = if k = i then on else (lit.take i).getD k false := by
      intro k
      rcases Nat.lt_trichotomy k i with g | g | g
      · rw [take_get lit _ _ (by omega), take_get lit _ _ g, if_neg (by omega)]
      · rw [take_get lit _ _ (by omega), if_pos g, g, hon]
      · rw [take_out lit _ _ (by omega), take_out lit _ _ (by omega), if_neg (by omega)]
    unfold bitStep frOf
    dsimp only
    by_cases c : i % 8 = 0
    · have e1 : (i + 7) / 8 = i / 8 := by omega
      have e2 : (i + 1 + 7) / 8 = i / 8 + 1 := by omega
      rw [if_pos c, if_pos rfl, e1, e2, pkq_succ, pkq_take lit (i / 8) i (by omega), pkq_take lit (i / 8) (i + 1) (by omega)]
      dsimp only
      have hu := pkb_upd (fun k => (lit.take i).getD (8 * (i / 8) + k) false) (fun k => (lit.take (i + 1)).getD (8 * (i / 8) + k) false) 0 (by omega) (fun k hk hne => by rw [hget, if_neg (by omega)]) (take_out lit _ _ (by omega))
      have hz : pkb (fun k => (lit.take i).getD (8 * (i / 8) + k) false) = 0 := by
        rw [show (fun k => (lit.take i).getD (8 * (i / 8) + k) false) = fun _ => false from funext fun k => take_out lit _ _ (by omega)]
        rfl
      rw [hu.1, hz]
      rw [hget (8 * (i / 8) + 0), if_pos (show 8 * (i / 8) + 0 = i by omega)]
      refine Prod.ext ?_ ?_
      · dsimp only
        rw [if_neg (show ¬ (i + 1) % 8 = 0 by omega)]
        omega
      · dsimp only
        rw [← List.append_assoc]
        cases on with
        | false => rfl
        | true =>
          rw [if_pos rfl, set_last, get_last, bitOr_eq 0 (by omega) 8 0 (by omega) (by omega) (by decide)]
          rfl
    · have e1 : (i + 7) / 8 = i / 8 + 1 := by omega
      have e2 : (i + 1 + 7) / 8 = i / 8 + 1 := by omega
      rw [if_neg c, if_neg (by omega), e1, e2, pkq_succ, pkq_succ, pkq_take lit (i / 8) i (by omega), pkq_take lit (i / 8) (i + 1) (by omega)]
      dsimp only
      have hu := pkb_upd (fun k => (lit.take i).getD (8 * (i / 8) + k) false) (fun k => (lit.take (i + 1)).getD (8 * (i / 8) + k) false) (i % 8) (by omega) (fun k hk hne => by rw [hget, if_neg (by omega)]) (take_out lit _ _ (by omega))
      rw [hu.1]
      rw [hget (8 * (i / 8) + i % 8), if_pos (show 8 * (i / 8) + i % 8 = i by omega)]
      refine Prod.ext ?_ ?_
      · dsimp only
        split <;> omega
      · dsimp only
        rw [← List.append_assoc, ← List.append_assoc]
        cases on with
        | false => simp [bI]
        | true =>
          rw [if_pos rfl, set_last, get_last, bitOr_eq _ (pkb_by _) (8 - i % 8) (i % 8) (by omega) (by omega) hu.2]
          simp [bI]
theorem encode_eq (ids : List Int) (L : Int) (lit : List Bool) (h : VP ids L lit) : (encBits (encHead ids L ++ encIds ids) lit).2 = picForm ids L lit := by
  have h2 := bits_inv (encHead ids L ++ encIds ids) lit lit.length (Nat.le_refl _)
  rw [List.take_length] at h2
  rw [h2]
  unfold picForm
  dsimp only
  rw [encHead_eq ids L h.n h.l0 h.l1, encIds_eq ids h.i, packAll_pkq]
theorem EncodePicture_same (ids : List Int) (L : Int) (lit : List Bool) (hlit : lit.length ≤ 1048576) : ∃ r : List Int, r.length ≤ 400 ∧ Ev (fun k => spec_EncodePicture.f k ids L lit) r ∧ Ev (fun k => impl_EncodePicture.f k ids L lit) r := by
  have hs := specvalid_ev ids L lit (by omega)
  have hi := implvalid_ev ids L lit (by omega)
  unfold spec_EncodePicture.f impl_EncodePicture.f
  by_cases hv : VP ids L lit
  · rw [decide_eq_true hv] at hs hi
    have hl := hv.lit
    have hn := hv.n
    refine ⟨picForm ids L lit, by rw [picForm_length]; omega, ?_, ?_⟩
    · refine Ev.bind hs ?_
      refine Ev.congr (fun k => if_pos rfl) ?_
      exact ev_bindc (picture_ev ids L lit hv) rfl
    · refine Ev.bind hi ?_
      refine Ev.congr (fun k => if_pos rfl) ?_
      refine Ev.congr (fun k => if_pos ⟨by omega, by omega⟩) ?_
      exact ev_const (by rw [encode_eq ids L lit hv])
  · rw [decide_eq_false hv] at hs hi
    refine ⟨[], by simp, ?_, ?_⟩
    · refine Ev.bind hs ?_
      exact Ev.congr (fun k => if_neg (by simp)) (ev_const rfl)
    · refine Ev.bind hi ?_
      exact Ev.congr (fun k => if_neg (by simp)) (ev_const rfl)

/-! ### the law's helpers of Picture -/
theorem eqPicture_ev (i : List Int) (L : Int) (l : List Bool) (h1 : i.length ≤ 1048576) (h2 : l.length ≤ 1048576) : Ev (fun k => laws_eqPicture.f k i L l i L l) true := by
  unfold laws_eqPicture.f
  refine Ev.bind (eqIntS_ev i (by omega)) ?_
  refine Ev.congr (fun k => if_pos rfl) ?_
  refine Ev.congr (fun k => if_pos rfl) ?_
  refine Ev.bind (eqBoolS_ev l (by omega)) ?_
  exact ev_const rfl
theorem markPicture_ev (i : List Int) (L : Int) (l : List Bool) (z : Int) (h1 : i.length ≤ 1048576) (h2 : l.length ≤ 1048576) (h0 : 0 ≤ z) (h3 : z ≤ 1048576) :
    Ev (fun k => laws_markPicture.f k i L l z) (z + i.length + l.length, marks (fun z => z) z i.length, marks (fun z => (Int.tmod z 3 == 0)) (z + i.length) l.length) := by
  unfold laws_markPicture.f
  refine Ev.bind (markIntS_ev i z (by omega) h0 (by omega)) ?_
  refine Ev.bind (markBoolS_ev l (z + i.length) (by omega) (by omega) (by omega)) ?_
  exact ev_const rfl

theorem szPicture_ok (i : List Int) (L : Int) (l : List Bool) (h1 : i.length ≤ 9223372036854775807) (h2 : l.length ≤ 9223372036854775807) : ∃ z, laws_szPicture.f i L l 1048576 = some z ∧ (¬ z < 0 → i.length ≤ 1048576 ∧ l.length ≤ 1048576) := by
  unfold laws_szPicture.f laws_szIntS.f
  rw [w64 (x := 1048576 - (i.length : Int)) (by omega) (by omega)]
  by_cases h : 1048576 - (i.length : Int) < 0
  · rw [if_pos h]
    exact ⟨-1, by simp, fun h => by omega⟩
  · rw [if_neg h]
    simp only [Option.bind_some]
    rw [if_neg h]
    unfold laws_szBoolS.f
    rw [w64 (x := 1048576 - (i.length : Int) - (l.length : Int)) (by omega) (by omega)]
    by_cases h' : 1048576 - (i.length : Int) - (l.length : Int) < 0
    · rw [if_pos h']
      exact ⟨-1, by simp, fun h => by omega⟩
    · rw [if_neg h']
      simp only [Option.bind_some]
      rw [if_neg h']
      exact ⟨_, rfl, fun _ => by omega⟩
theorem toPicture_ev (i : List Int) (L : Int) (l : List Bool) (h1 : i.length ≤ 1048576) (h2 : l.length ≤ 1048576) : Ev (fun k => laws_toPicture.f k i L l) (i, L, l) := by
  unfold laws_toPicture.f
  refine Ev.bind (toIntS_ev i h1) ?_
  refine Ev.bind (toBoolS_ev l h2) ?_
  exact ev_const rfl
theorem FnExactEncodePicture : laws_FnExactEncodePicture.Pure := by
  rintro ⟨i, L, l⟩ ⟨⟨l1, w1⟩, wL, ⟨l2, w2⟩⟩
  dsimp only at l1 w1 wL l2 w2 ⊢
  refine Ev.rounds ?_
  unfold laws_FnExactEncodePicture.f
  obtain ⟨z, hz, hz2⟩ := szPicture_ok i L l l1 l2
  rw [hz]
  simp only [Option.bind_some]
  by_cases h : z < 0
  · exact Ev.congr (fun k => if_pos h) (ev_const rfl)
  refine Ev.congr (fun k => if_neg h) ?_
  obtain ⟨b1, b2⟩ := hz2 h
  obtain ⟨r, hr, hs, hi⟩ := EncodePicture_same i L l b2
  have tp := toPicture_ev i L l b1 b2
  have er := eqByteS_ev r (by omega)
  have ep := eqPicture_ev i L l (by omega) (by omega)
  have mp := markPicture_ev i L l 1 (by omega) (by omega) (by omega) (by omega)
  have mr := markByteS_ev r 1 (by omega) (by omega) (by omega)
  have hh := heldByteS_ev r.length 1 (by omega) (by omega) (by omega)
  refine Ev.bind tp ?_
  refine Ev.bind hs ?_
  refine Ev.bind tp ?_
  refine Ev.bind hi ?_
  refine Ev.bind er ?_
  simp only [if_true]
  refine Ev.bind tp ?_
  refine Ev.bind ep ?_
  simp only [if_true]
  refine Ev.bind mp ?_
  dsimp only
  refine Ev.congr (fun k => if_neg (by omega)) ?_
  refine Ev.bind er ?_
  simp only [if_true]
  refine Ev.bind mr ?_
  dsimp only
  refine Ev.bind hh ?_
  refine Ev.congr (fun k => if_neg (by omega)) ?_
  simp only [if_true]
  refine Ev.bind tp ?_
  refine Ev.bind hi ?_
  refine Ev.bind er ?_
  simp only [if_true]
  refine Ev.bind hh ?_
  refine Ev.congr (fun k => if_neg (by omega)) ?_
  exact ev_const (if_pos rfl)

end Go.Proofs.Ytcpdeenhjodmfaa.Pure
