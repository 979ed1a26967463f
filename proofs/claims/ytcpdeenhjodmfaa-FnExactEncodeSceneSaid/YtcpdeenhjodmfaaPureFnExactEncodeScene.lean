/- The plain law behind FnExactEncodeSceneSaid: the pure functions that the program's Go functions come to answer as the statement says, for every input that the row lets in. -/
import Derived.Test.YtcpdeenhjodmfaaQEncodeSceneO
namespace Go.Proofs.Ytcpdeenhjodmfaa.Pure
open Go.RowKit Go.Proofs.Ytcpdeenhjodmfaa.QEncodeScene Go.Proofs.YtcpdeenhjodmfaaW.PrintWords Go.Proofs.YtcpdeenhjodmfaaW.PrintLast Go.Proofs.YtcpdeenhjodmfaaW.PrintMore
set_option linter.unusedVariables false
set_option linter.unusedSimpArgs false
/-! ### rounds, and lists by index -/
theorem ev_const {α : Type} {a : Option α} {r : α} (h : a = some r) : Ev (fun _ => a) r := ⟨0, fun _ _ => h⟩
theorem ev_bindc {α β : Type} {g : Nat → Option α} {f : α → Option β} {a : α} {r : β} (h : Ev g a) (k : f a = some r) : Ev (fun n => (g n).bind f) r :=
  Ev.bind (f := fun _ => f) h (ev_const k)
theorem ev_cbind {α β : Type} {g : Option α} {f : Nat → α → Option β} {a : α} {r : β} (h : g = some a) (k : Ev (fun n => f n a) r) : Ev (fun n => g.bind (f n)) r :=
  Ev.bind (g := fun _ => g) (ev_const h) k
theorem rd_nat (xs : List Int) (i : Nat) : rd xs (i : Int) = xs.getD i 0 := by simp [rd]
theorem rd_at (pre rest : List Int) (r : Int) : rd (pre ++ r :: rest) ((pre.length : Nat) : Int) = r := by simp [rd]
theorem rdb_at (pre rest : List Bool) (r : Bool) : rdOf false (pre ++ r :: rest) ((pre.length : Nat) : Int) = r := by simp [rdOf]
theorem set_at {α : Type} (pre rest : List α) (r v : α) : (pre ++ r :: rest).set (((pre.length : Nat) : Int)).toNat v = (pre ++ [v]) ++ rest := by simp
theorem w64 {x : Int} (h0 : -9223372036854775808 ≤ x) (h1 : x ≤ 9223372036854775807) : wrap64 x = x := by unfold wrap64; omega
theorem len_snoc {α : Type} (pre : List α) (v : α) : (((pre ++ [v]).length : Nat) : Int) = ((pre.length : Nat) : Int) + 1 := by simp
def marks {α : Type} (M : Int → α) : Int → Nat → List α
  | _, 0 => []
  | k, n + 1 => M k :: marks M (k + 1) n
theorem marks_length {α : Type} (M : Int → α) : ∀ (n : Nat) (k : Int), (marks M k n).length = n
  | 0, _ => rfl
  | n + 1, k => by simp [marks, marks_length M n]

/-! ### words -/
theorem shr_eq (k : IntKind) (x : Int) (s : Nat) (h : s ≤ k.bits) : shr k x ((s : Nat) : Int) = x / 2 ^ s := by
  unfold shr
  rw [Int.toNat_natCast, Nat.min_eq_left h]
theorem shl_eq (k : IntKind) (x : Int) (s : Nat) (h : s ≤ k.bits) : shl k x ((s : Nat) : Int) = k.wrap (x * 2 ^ s) := by
  unfold shl
  rw [Int.toNat_natCast, Nat.min_eq_left h]
theorem tdn (n m : Nat) : Int.tdiv ((n : Nat) : Int) ((m : Nat) : Int) = ((n / m : Nat) : Int) := by
  rw [Int.tdiv_eq_ediv_of_nonneg (by omega)]; rfl
theorem tmn (n m : Nat) : Int.tmod ((n : Nat) : Int) ((m : Nat) : Int) = ((n % m : Nat) : Int) := by
  rw [Int.tmod_eq_emod_of_nonneg (by omega)]; rfl

theorem eqByteS_l0 : ∀ (rest pre : List Int), (pre ++ rest).length ≤ 4611686018427387904 → Ev (fun k => laws_eqByteS.l0 k (pre ++ rest) (pre ++ rest) ((pre.length : Nat) : Int)) true
  | [], pre, hl => ⟨1, fun k hk => by obtain ⟨k, rfl⟩ : ∃ m, k = m + 1 := ⟨k - 1, by omega⟩; simp only [laws_eqByteS.l0]; rw [if_neg (by simp)]⟩
  | r :: rest, pre, hl => by
    have hlen : (pre ++ r :: rest).length = pre.length + (rest.length + 1) := by simp
    have h := eqByteS_l0 rest (pre ++ [r]) (by simpa using hl)
    rw [len_snoc, List.append_assoc, List.singleton_append] at h
    refine Ev.step (fun k => ?_) h
    simp only [laws_eqByteS.l0]
    rw [if_pos (by rw [hlen]; omega), if_pos (by omega), if_pos (by rw [hlen]; omega), if_pos trivial, w64 (by omega) (by omega)]
theorem eqByteS_ev (l : List Int) (h : l.length ≤ 4611686018427387904) : Ev (fun k => laws_eqByteS.f k l l) true := by
  have h1 := eqByteS_l0 l [] (by simpa using h)
  refine Ev.congr (fun k => ?_) h1
  simp only [laws_eqByteS.f]
  rw [if_pos trivial]
  rfl

theorem markByteS_l0 : ∀ (rest pre : List Int) (z : Int), (pre ++ rest).length ≤ 4611686018427387904 → 0 ≤ z → z + rest.length ≤ 4611686018427387904 →
    Ev (fun k => laws_markByteS.l0 k (pre ++ rest) z ((pre.length : Nat) : Int)) (z + rest.length, pre ++ marks (fun z => z % 256) z rest.length)
  | [], pre, z, hl, h0, h1 => ⟨1, fun k hk => by obtain ⟨k, rfl⟩ : ∃ m, k = m + 1 := ⟨k - 1, by omega⟩; simp only [laws_markByteS.l0]; rw [if_neg (by simp)]; simp [marks]⟩
  | r :: rest, pre, z, hl, h0, h1 => by
    have hlen : (pre ++ r :: rest).length = pre.length + (rest.length + 1) := by simp
    rw [List.length_cons] at h1
    have h := markByteS_l0 rest (pre ++ [(fun z => z % 256) z]) (z + 1) (by simpa using hl) (by omega) (by omega)
    rw [len_snoc, List.append_assoc pre [(fun z => z % 256) z] rest, List.append_assoc pre [(fun z => z % 256) z] (marks _ _ _), List.singleton_append, List.singleton_append, show z + 1 + (rest.length : Int) = z + ((r :: rest).length : Nat) from by rw [List.length_cons]; omega] at h
    refine Ev.step (fun k => ?_) h
    simp only [laws_markByteS.l0]
    rw [if_pos (by rw [hlen]; omega), if_pos (by omega), set_at, w64 (by omega) (by omega), w64 (x := ((pre.length : Nat) : Int) + 1) (by omega) (by omega), List.append_assoc, List.singleton_append]
theorem markByteS_ev (l : List Int) (z : Int) (h : l.length ≤ 4294967296) (h0 : 0 ≤ z) (h1 : z ≤ 4294967296) : Ev (fun k => laws_markByteS.f k l z) (z + l.length, marks (fun z => z % 256) z l.length) := by
  have h1 := markByteS_l0 l [] z (by simp; omega) h0 (by omega)
  exact Ev.congr (fun k => rfl) h1

theorem heldByteS_l0 : ∀ (n : Nat) (pre : List Int) (z : Int), pre.length + n ≤ 4611686018427387904 → 0 ≤ z → z + n ≤ 4611686018427387904 →
    Ev (fun k => laws_heldByteS.l0 k (pre ++ marks (fun z => z % 256) z n) z ((pre.length : Nat) : Int)) (z + n)
  | 0, pre, z, hl, h0, h1 => ⟨1, fun k hk => by obtain ⟨k, rfl⟩ : ∃ m, k = m + 1 := ⟨k - 1, by omega⟩; show laws_heldByteS.l0 (k + 1) (pre ++ []) z _ = _; simp only [laws_heldByteS.l0, List.append_nil]; rw [if_neg (by omega)]; simp⟩
  | n + 1, pre, z, hl, h0, h1 => by
    have hlen : (pre ++ marks (fun z => z % 256) z (n + 1)).length = pre.length + (n + 1) := by simp [marks_length]
    have h := heldByteS_l0 n (pre ++ [(fun z => z % 256) z]) (z + 1) (by simp; omega) (by omega) (by omega)
    rw [len_snoc, List.append_assoc, List.singleton_append, show z + 1 + (n : Int) = z + ((n + 1 : Nat) : Int) from by omega] at h
    refine Ev.step (fun k => ?_) h
    rw [show marks (fun z => z % 256) z (n + 1) = (fun z => z % 256) z :: marks (fun z => z % 256) (z + 1) n from rfl] at hlen ⊢
    simp only [laws_heldByteS.l0]
    rw [if_pos (by rw [hlen]; omega), if_pos (by omega), if_pos (by rw [rd_at]), w64 (by omega) (by omega), w64 (x := ((pre.length : Nat) : Int) + 1) (by omega) (by omega)]
theorem heldByteS_ev (n : Nat) (z : Int) (h : n ≤ 4294967296) (h0 : 0 ≤ z) (h1 : z ≤ 4294967296) : Ev (fun k => laws_heldByteS.f k (marks (fun z => z % 256) z n) z) (z + n) := by
  have h1 := heldByteS_l0 n [] z (by simp; omega) h0 (by omega)
  exact Ev.congr (fun k => rfl) h1

/-! ### finite -/
theorem l2finite_f (x : Nat) (hx : x < 4294967296) : spec_l2finite.f (x : Int) = some (x / 8388608 % 256 != 255) := by
  unfold spec_l2finite.f
  rw [show (8388608 : Int) = ((8388608 : Nat) : Int) from rfl, tdn]
  congr 1
  by_cases h : x / 8388608 % 256 = 255
  · rw [bne_eq_false_iff_eq.2 h, bne_eq_false_iff_eq]; omega
  · rw [bne_iff_ne.2 h, bne_iff_ne]; omega
theorem finite_f (x : Nat) (hx : x < 4294967296) : impl_finite.f (x : Int) = some (x / 8388608 % 256 != 255) := by
  unfold impl_finite.f
  rw [if_pos (by omega)]
  congr 1
  by_cases h : x / 8388608 % 256 = 255
  · rw [bne_eq_false_iff_eq.2 h, bne_eq_false_iff_eq]; omega
  · rw [bne_iff_ne.2 h, bne_iff_ne]; omega
theorem u32_nat {a : Int} (h : (Lit.int .u32 a).wf = true) : ∃ n : Nat, a = (n : Int) ∧ n < 4294967296 := by
  have h2 : 0 ≤ a ∧ a < 4294967296 := by
    simp [Lit.wf, IntKind.min, IntKind.max, IntKind.bits, IntKind.signed] at h
    omega
  obtain ⟨n, rfl⟩ := Int.eq_ofNat_of_zero_le h2.1
  exact ⟨n, rfl, by omega⟩

/-! ### bytes: numbers, bits, and a picture's form -/
def By (b : List Int) : Prop := ∀ x ∈ b, 0 ≤ x ∧ x < 256
def gB (b : List Int) (i : Nat) : Int := b.getD i 0
theorem gB_by {b : List Int} (h : By b) (i : Nat) : 0 ≤ gB b i ∧ gB b i < 256 := by
  unfold gB
  by_cases hi : i < b.length
  · rw [List.getD_eq_getElem?_getD, List.getElem?_eq_getElem hi]
    exact h _ (List.getElem_mem hi)
  · rw [List.getD_eq_getElem?_getD, List.getElem?_eq_none (by omega)]
    simp
theorem rd_gB (b : List Int) (i : Nat) {z : Int} (h : z = (i : Int)) : rd b z = gB b i := by subst h; exact rd_nat b i
theorem wf_by {l : List Int} (h : ∀ y ∈ l, (Lit.int .u8 y).wf = true) : By l := fun d hd => by
  have := h d hd
  simp [Lit.wf, IntKind.min, IntKind.max, IntKind.bits, IntKind.signed] at this
  omega
/-! ### texts of bytes -/
theorem ba_loop (s : ByteArray) : ∀ (d i : Nat) (r : List UInt8), i + d = s.size → ByteArray.toList.loop s i r = r.reverse ++ s.data.toList.drop i
  | 0, i, r, h => by
    rw [ByteArray.toList.loop, if_neg (by omega), List.drop_eq_nil_of_le (by have hs : s.data.size = s.size := rfl; rw [Array.length_toList]; omega), List.append_nil]
  | d + 1, i, r, h => by
    have hi : i < s.data.toList.length := by have hs : s.data.size = s.size := rfl; rw [Array.length_toList]; omega
    rw [ByteArray.toList.loop, if_pos (by omega), ba_loop s d (i + 1) _ (by omega), List.drop_eq_getElem_cons hi]
    have hi2 : i < s.data.size := by simpa using hi
    have hg : s.get! i = s.data.toList[i] := by
      cases s with | mk d => show d[i]! = _; rw [getElem!_pos d i hi2]; simp
    rw [hg]
    simp
theorem ba_list (s : ByteArray) : s.toList = s.data.toList := by
  unfold ByteArray.toList
  rw [ba_loop s s.size 0 [] (by omega)]
  simp
theorem str_list (l : List Int) : (strOfNums l).toList = l.map fun n => UInt8.ofNat n.toNat := by
  rw [ba_list]
  simp [strOfNums]
theorem u8_inj {x y : Int} (hx : 0 ≤ x ∧ x < 256) (hy : 0 ≤ y ∧ y < 256) (h : UInt8.ofNat x.toNat = UInt8.ofNat y.toNat) : x = y := by
  have h2 := congrArg UInt8.toNat h
  simp at h2
  omega
theorem map_inj : ∀ {l m : List Int}, By l → By m → (l.map fun n => UInt8.ofNat n.toNat) = (m.map fun n => UInt8.ofNat n.toNat) → l = m
  | [], [], _, _, _ => rfl
  | [], y :: m, _, _, h => by simp at h
  | x :: l, [], _, _, h => by simp at h
  | x :: l, y :: m, hl, hm, h => by
    rw [List.map_cons, List.map_cons] at h
    obtain ⟨h1, h2⟩ := List.cons.inj h
    rw [u8_inj (hl x (by simp)) (hm y (by simp)) h1, map_inj (fun z hz => hl z (by simp [hz])) (fun z hz => hm z (by simp [hz])) h2]
theorem str_iff {l m : List Int} (hl : By l) (hm : By m) : (strOfNums l).toList = (strOfNums m).toList ↔ l = m := by
  rw [str_list, str_list]
  exact ⟨map_inj hl hm, fun h => by rw [h]⟩
theorem head_iff {b : List Int} (hb : By b) : (strOfNums (b.take 4)).toList = ([80, 73, 67, 84] : List UInt8) ↔ b.take 4 = [80, 73, 67, 84] := by
  have h : ([80, 73, 67, 84] : List UInt8) = (strOfNums [80, 73, 67, 84]).toList := by rw [str_list]; rfl
  rw [h]
  exact str_iff (fun z hz => hb z (List.mem_of_mem_take hz)) (by intro z hz; simp at hz; omega)
/-! ### bits -/
def bitAt (r : List Int) (i : Nat) : Bool := gB r (i / 8) / 2 ^ (i % 8) % 2 == 1
def bI (c : Bool) : Int := if c then 1 else 0
theorem bI_le (c : Bool) : 0 ≤ bI c ∧ bI c ≤ 1 := by cases c <;> simp [bI]
def pkb (f : Nat → Bool) : Int := bI (f 0) + 2 * bI (f 1) + 4 * bI (f 2) + 8 * bI (f 3) + 16 * bI (f 4) + 32 * bI (f 5) + 64 * bI (f 6) + 128 * bI (f 7)
theorem pkb_by (f : Nat → Bool) : 0 ≤ pkb f ∧ pkb f < 256 := by
  have h0 := bI_le (f 0); have h1 := bI_le (f 1); have h2 := bI_le (f 2); have h3 := bI_le (f 3); have h4 := bI_le (f 4); have h5 := bI_le (f 5); have h6 := bI_le (f 6); have h7 := bI_le (f 7)
  unfold pkb
  omega
theorem bI_eq (x : Int) (h0 : 0 ≤ x) (h1 : x ≤ 1) : bI (x == 1) = x := by
  rcases (by omega : x = 0 ∨ x = 1) with rfl | rfl <;> rfl
theorem pkb_bits {v : Int} (h : 0 ≤ v ∧ v < 256) : pkb (fun k => v / 2 ^ k % 2 == 1) = v := by
  unfold pkb
  simp only [show (2 : Int) ^ 0 = 1 from rfl, show (2 : Int) ^ 1 = 2 from rfl, show (2 : Int) ^ 2 = 4 from rfl, show (2 : Int) ^ 3 = 8 from rfl, show (2 : Int) ^ 4 = 16 from rfl, show (2 : Int) ^ 5 = 32 from rfl, show (2 : Int) ^ 6 = 64 from rfl, show (2 : Int) ^ 7 = 128 from rfl]
  rw [bI_eq _ (by omega) (by omega), bI_eq _ (by omega) (by omega), bI_eq _ (by omega) (by omega), bI_eq _ (by omega) (by omega), bI_eq _ (by omega) (by omega), bI_eq _ (by omega) (by omega), bI_eq _ (by omega) (by omega), bI_eq _ (by omega) (by omega)]
  omega
theorem bits_pkb (f : Nat → Bool) (k : Nat) (hk : k < 8) : (pkb f / 2 ^ k % 2 == 1) = f k := by
  have h0 := bI_le (f 0); have h1 := bI_le (f 1); have h2 := bI_le (f 2); have h3 := bI_le (f 3); have h4 := bI_le (f 4); have h5 := bI_le (f 5); have h6 := bI_le (f 6); have h7 := bI_le (f 7)
  have hb : ∀ c : Bool, (bI c == 1) = c := by intro c; cases c <;> rfl
  have key : pkb f / 2 ^ k % 2 = bI (f k) := by
    unfold pkb
    rcases (by omega : k = 0 ∨ k = 1 ∨ k = 2 ∨ k = 3 ∨ k = 4 ∨ k = 5 ∨ k = 6 ∨ k = 7) with rfl | rfl | rfl | rfl | rfl | rfl | rfl | rfl
    all_goals simp only [show (2 : Int) ^ 0 = 1 from rfl, show (2 : Int) ^ 1 = 2 from rfl, show (2 : Int) ^ 2 = 4 from rfl, show (2 : Int) ^ 3 = 8 from rfl, show (2 : Int) ^ 4 = 16 from rfl, show (2 : Int) ^ 5 = 32 from rfl, show (2 : Int) ^ 6 = 64 from rfl, show (2 : Int) ^ 7 = 128 from rfl]
    all_goals omega
  rw [key, hb]
theorem pkb_congr {f g : Nat → Bool} (h : ∀ k, k < 8 → f k = g k) : pkb f = pkb g := by
  unfold pkb
  rw [h 0 (by omega), h 1 (by omega), h 2 (by omega), h 3 (by omega), h 4 (by omega), h 5 (by omega), h 6 (by omega), h 7 (by omega)]
/-! ### the form of a picture -/
def le (v : Int) : Nat → List Int
  | 0 => []
  | n + 1 => v % 256 :: le (v / 256) n
theorem le_length : ∀ (n : Nat) (v : Int), (le v n).length = n
  | 0, _ => rfl
  | n + 1, v => by simp [le, le_length n]
theorem le_by : ∀ (n : Nat) (v : Int), By (le v n)
  | 0, _ => fun x hx => by simp [le] at hx
  | n + 1, v => fun x hx => by
    rcases List.mem_cons.1 hx with rfl | hx
    · omega
    · exact le_by n _ x hx
def idb (v : Int) : List Int := if v < 0 then [255, 255, 255, 255] else le v 4
theorem idb_length (v : Int) : (idb v).length = 4 := by unfold idb; split <;> simp [le_length]
theorem idb_by (v : Int) : By (idb v) := by
  unfold idb
  split
  · intro x hx; simp at hx; omega
  · exact le_by _ _
def packAll (l : List Bool) : List Int := (List.range ((l.length + 7) / 8)).map fun j => pkb fun k => l.getD (8 * j + k) false
theorem packAll_length (l : List Bool) : (packAll l).length = (l.length + 7) / 8 := by simp [packAll]
theorem packAll_by (l : List Bool) : By (packAll l) := fun x hx => by
  obtain ⟨j, _, rfl⟩ := List.mem_map.1 hx
  exact pkb_by _
def picForm (ids : List Int) (L : Int) (lit : List Bool) : List Int := [80, 73, 67, 84] ++ le ids.length 2 ++ le L 1 ++ ids.flatMap idb ++ packAll lit
theorem flat_length : ∀ ids : List Int, (ids.flatMap idb).length = 4 * ids.length
  | [] => rfl
  | v :: ids => by rw [List.flatMap_cons, List.length_append, idb_length, flat_length ids, List.length_cons]; omega
theorem flat_by (ids : List Int) : By (ids.flatMap idb) := fun x hx => by
  obtain ⟨v, _, hv⟩ := List.mem_flatMap.1 hx
  exact idb_by v x hv
theorem By.append {l m : List Int} (hl : By l) (hm : By m) : By (l ++ m) := fun x hx => by
  rcases List.mem_append.1 hx with h | h
  · exact hl x h
  · exact hm x h
theorem picForm_by (ids : List Int) (L : Int) (lit : List Bool) : By (picForm ids L lit) := by
  unfold picForm
  exact ((((show By [80, 73, 67, 84] from fun x hx => by simp at hx; omega).append (le_by _ _)).append (le_by _ _)).append (flat_by _)).append (packAll_by _)
theorem picForm_length (ids : List Int) (L : Int) (lit : List Bool) : (picForm ids L lit).length = 7 + 4 * ids.length + (lit.length + 7) / 8 := by
  unfold picForm
  simp only [List.length_append, le_length, flat_length, packAll_length, List.length_cons, List.length_nil]
structure VP (ids : List Int) (L : Int) (lit : List Bool) : Prop where
  n : ids.length ≤ 40
  l0 : 0 ≤ L
  l1 : L ≤ 4
  c : (lit.length : Int) = ids.length * L
  i : ∀ v ∈ ids, -1 ≤ v ∧ v < 40
instance (ids : List Int) (L : Int) (lit : List Bool) : Decidable (VP ids L lit) :=
  decidable_of_iff (ids.length ≤ 40 ∧ 0 ≤ L ∧ L ≤ 4 ∧ (lit.length : Int) = ids.length * L ∧ ∀ v ∈ ids, -1 ≤ v ∧ v < 40) ⟨fun ⟨a, b, c, d, e⟩ => ⟨a, b, c, d, e⟩, fun ⟨a, b, c, d, e⟩ => ⟨a, b, c, d, e⟩⟩
theorem VP.lit {ids : List Int} {L : Int} {lit : List Bool} (h : VP ids L lit) : lit.length ≤ 160 := by
  have h1 := h.c
  have h2 : (ids.length : Int) * L ≤ 40 * 4 := Int.mul_le_mul (by have := h.n; omega) h.l1 h.l0 (by omega)
  omega

theorem little_l0 (n : Nat) (hn : n ≤ 8) : ∀ (d : Nat) (v : Int) (out : List Int) (i : Nat), i + d = n → 0 ≤ v → v ≤ 9223372036854775807 → out.length = i → Ev (fun k => spec_l6little.l0 k v (n : Int) out (i : Int)) (out ++ le v d)
  | 0, v, out, i, h, h0, h1, ho => ⟨1, fun k hk => by
    obtain ⟨k, rfl⟩ : ∃ m, k = m + 1 := ⟨k - 1, by omega⟩
    simp only [spec_l6little.l0]
    rw [if_neg (by omega)]
    simp [le]⟩
  | d + 1, v, out, i, h, h0, h1, ho => by
    have ih := little_l0 n hn d (v / 256) (out ++ [v % 256]) (i + 1) (by omega) (by omega) (by omega) (by simp [ho])
    rw [List.append_assoc, List.singleton_append] at ih
    refine Ev.step (fun k => ?_) ih
    simp only [spec_l6little.l0]
    rw [if_pos (by omega), if_pos (by omega), Int.tdiv_eq_ediv_of_nonneg h0, Int.tmod_eq_emod_of_nonneg h0, w64 (by omega) (by omega), w64 (by omega) (by omega), show v % 256 % 256 = v % 256 from by omega]
    rfl
theorem little_ev (v : Int) (n : Nat) (hn : n ≤ 8) (h0 : 0 ≤ v) (h1 : v ≤ 9223372036854775807) : Ev (fun k => spec_l6little.f k v (n : Int)) (le v n) := by
  have := little_l0 n hn n v [] 0 (by omega) h0 h1 rfl
  exact this

/-! ### numbers as bytes, on both sides -/
theorem putE_eq (v : Int) (i : Nat) (h : 8 * i ≤ 32) : putE v i = v / 2 ^ (8 * i) % 256 := by unfold putE; rw [Nat.min_eq_left h]
theorem le_div : ∀ (n : Nat) (v : Int) , le v n = (List.range n).map fun i => v / 2 ^ (8 * i) % 256
  | 0, v => rfl
  | n + 1, v => by
    rw [List.range_succ_eq_map, List.map_cons, List.map_map]
    show v % 256 :: le (v / 256) n = _
    rw [le_div n (v / 256)]
    congr 1
    · simp
    · refine List.map_congr_left fun i _ => ?_
      show v / 256 / 2 ^ (8 * i) % 256 = v / 2 ^ (8 * (i + 1)) % 256
      rw [Int.ediv_ediv_of_nonneg (by omega), Nat.mul_add, Int.pow_add, Int.mul_comm (2 ^ (8 * i))]
      rfl
theorem putB_le (n : Nat) (hn : n ≤ 4) (v : Int) : putB n [v] = le v n := by
  unfold putB putL
  rw [List.flatMap_cons, List.flatMap_nil, List.append_nil, le_div]
  exact List.map_congr_left fun i hi => putE_eq v i (by have := List.mem_range.1 hi; omega)
theorem u32wrap (z : Int) : IntKind.u32.wrap z = z % 4294967296 := by simp [IntKind.wrap, IntKind.bits, IntKind.signed]

/-! ### scenes -/
theorem gd_at {α : Type} (z : α) (pre rest : List α) (x : α) : (pre ++ x :: rest).getD (((pre.length : Nat) : Int)).toNat z = x := by simp
def cPoint (x : S173) : S125 := ⟨x.f0, x.f1, x.f2⟩
def cTri (x : S175) : S151 := ⟨cPoint x.f0, cPoint x.f1, cPoint x.f2⟩
def cRay (x : S178) : S127 := ⟨cPoint x.f0, cPoint x.f1⟩
theorem toTriS_l0 : ∀ (rest pre : List S175) (o : List S151), o.length = pre.length → (pre ++ rest).length ≤ 1048576 →
    Ev (fun k => laws_toTriS.l0 k (pre ++ rest) (o ++ List.replicate rest.length z151) ((pre.length : Nat) : Int)) (o ++ rest.map cTri)
  | [], pre, o, ho, hl => ⟨1, fun k hk => by
    obtain ⟨k, rfl⟩ : ∃ m, k = m + 1 := ⟨k - 1, by omega⟩
    simp only [laws_toTriS.l0]
    rw [if_neg (by simp)]
    simp⟩
  | x :: rest, pre, o, ho, hl => by
    have hlen : (pre ++ x :: rest).length = pre.length + (rest.length + 1) := by simp
    have ih := toTriS_l0 rest (pre ++ [x]) (o ++ [cTri x]) (by simp [ho]) (by simpa using hl)
    have hrd : rd_T175 (pre ++ x :: rest) ((pre.length : Nat) : Int) = x := gd_at z175 pre rest x
    have hset := set_at o (List.replicate rest.length z151) z151 (cTri x)
    rw [ho] at hset
    rw [List.append_assoc, List.singleton_append] at ih
    refine Ev.step (fun k => ?_) (by simpa using ih)
    simp only [laws_toTriS.l0]
    rw [if_pos (by rw [hlen]; omega), if_pos (by omega), hrd]
    rw [show (x :: rest).length = rest.length + 1 from rfl, List.replicate_succ]
    have hb : ((pre.length : Nat) : Int) < ((o ++ z151 :: List.replicate rest.length z151).length : Int) := by simp; omega
    simp only [laws_toPoint.f, laws_toTri.f, Option.bind_some]
    rw [if_pos hb]
    have e : wrap64 (((pre.length : Nat) : Int) + 1) = ((pre.length : Nat) : Int) + 1 := w64 (by omega) (by omega)
    rw [e]
    have hs2 := hset
    unfold cTri cPoint at hs2
    rw [hs2]
    simp [cTri, cPoint]
theorem toTriS_ev (l : List S175) (hl : l.length ≤ 1048576) : Ev (fun k => laws_toTriS.f k l) (l.map cTri) := by
  have h := toTriS_l0 l [] [] rfl (by simpa using hl)
  refine Ev.congr (fun k => ?_) (by simpa using h)
  unfold laws_toTriS.f
  rw [if_pos (by omega), if_pos (by omega), Int.toNat_natCast]
theorem eqTriS_l0 : ∀ (rest pre : List S151), (pre ++ rest).length ≤ 1048576 → Ev (fun k => laws_eqTriS.l0 k (pre ++ rest) (pre ++ rest) ((pre.length : Nat) : Int)) true
  | [], pre, hl => ⟨1, fun k hk => by
    obtain ⟨k, rfl⟩ : ∃ m, k = m + 1 := ⟨k - 1, by omega⟩
    simp only [laws_eqTriS.l0]
    rw [if_neg (by simp)]⟩
  | x :: rest, pre, hl => by
    have hlen : (pre ++ x :: rest).length = pre.length + (rest.length + 1) := by simp
    have ih := eqTriS_l0 rest (pre ++ [x]) (by simpa using hl)
    have hrd : rd_T151 (pre ++ x :: rest) ((pre.length : Nat) : Int) = x := gd_at z151 pre rest x
    rw [List.append_assoc, List.singleton_append, len_snoc] at ih
    refine Ev.step (fun k => ?_) ih
    simp only [laws_eqTriS.l0]
    rw [if_pos (by rw [hlen]; omega), if_pos (by omega), if_pos (by rw [hlen]; omega), hrd, w64 (by omega) (by omega)]
    simp [laws_eqPoint.f, laws_eqTri.f]
theorem eqTriS_ev (l : List S151) (hl : l.length ≤ 1048576) : Ev (fun k => laws_eqTriS.f k l l) true := by
  have h := eqTriS_l0 l [] (by simpa using hl)
  refine Ev.congr (fun k => ?_) (by simpa using h)
  unfold laws_eqTriS.f
  rw [if_pos rfl]
theorem toRayS_l0 : ∀ (rest pre : List S178) (o : List S127), o.length = pre.length → (pre ++ rest).length ≤ 1048576 →
    Ev (fun k => laws_toRayS.l0 k (pre ++ rest) (o ++ List.replicate rest.length z127) ((pre.length : Nat) : Int)) (o ++ rest.map cRay)
  | [], pre, o, ho, hl => ⟨1, fun k hk => by
    obtain ⟨k, rfl⟩ : ∃ m, k = m + 1 := ⟨k - 1, by omega⟩
    simp only [laws_toRayS.l0]
    rw [if_neg (by simp)]
    simp⟩
  | x :: rest, pre, o, ho, hl => by
    have hlen : (pre ++ x :: rest).length = pre.length + (rest.length + 1) := by simp
    have ih := toRayS_l0 rest (pre ++ [x]) (o ++ [cRay x]) (by simp [ho]) (by simpa using hl)
    have hrd : rd_T178 (pre ++ x :: rest) ((pre.length : Nat) : Int) = x := gd_at z178 pre rest x
    have hset := set_at o (List.replicate rest.length z127) z127 (cRay x)
    rw [ho] at hset
    rw [List.append_assoc, List.singleton_append] at ih
    refine Ev.step (fun k => ?_) (by simpa using ih)
    simp only [laws_toRayS.l0]
    rw [if_pos (by rw [hlen]; omega), if_pos (by omega), hrd]
    rw [show (x :: rest).length = rest.length + 1 from rfl, List.replicate_succ]
    have hb : ((pre.length : Nat) : Int) < ((o ++ z127 :: List.replicate rest.length z127).length : Int) := by simp; omega
    simp only [laws_toPoint.f, laws_toRay.f, Option.bind_some]
    rw [if_pos hb]
    have e : wrap64 (((pre.length : Nat) : Int) + 1) = ((pre.length : Nat) : Int) + 1 := w64 (by omega) (by omega)
    rw [e]
    have hs2 := hset
    unfold cRay cPoint at hs2
    rw [hs2]
    simp [cRay, cPoint]
theorem toRayS_ev (l : List S178) (hl : l.length ≤ 1048576) : Ev (fun k => laws_toRayS.f k l) (l.map cRay) := by
  have h := toRayS_l0 l [] [] rfl (by simpa using hl)
  refine Ev.congr (fun k => ?_) (by simpa using h)
  unfold laws_toRayS.f
  rw [if_pos (by omega), if_pos (by omega), Int.toNat_natCast]
theorem eqRayS_l0 : ∀ (rest pre : List S127), (pre ++ rest).length ≤ 1048576 → Ev (fun k => laws_eqRayS.l0 k (pre ++ rest) (pre ++ rest) ((pre.length : Nat) : Int)) true
  | [], pre, hl => ⟨1, fun k hk => by
    obtain ⟨k, rfl⟩ : ∃ m, k = m + 1 := ⟨k - 1, by omega⟩
    simp only [laws_eqRayS.l0]
    rw [if_neg (by simp)]⟩
  | x :: rest, pre, hl => by
    have hlen : (pre ++ x :: rest).length = pre.length + (rest.length + 1) := by simp
    have ih := eqRayS_l0 rest (pre ++ [x]) (by simpa using hl)
    have hrd : rd_T127 (pre ++ x :: rest) ((pre.length : Nat) : Int) = x := gd_at z127 pre rest x
    rw [List.append_assoc, List.singleton_append, len_snoc] at ih
    refine Ev.step (fun k => ?_) ih
    simp only [laws_eqRayS.l0]
    rw [if_pos (by rw [hlen]; omega), if_pos (by omega), if_pos (by rw [hlen]; omega), hrd, w64 (by omega) (by omega)]
    simp [laws_eqPoint.f, laws_eqRay.f]
theorem eqRayS_ev (l : List S127) (hl : l.length ≤ 1048576) : Ev (fun k => laws_eqRayS.f k l l) true := by
  have h := eqRayS_l0 l [] (by simpa using hl)
  refine Ev.congr (fun k => ?_) (by simpa using h)
  unfold laws_eqRayS.f
  rw [if_pos rfl]
theorem toPointS_l0 : ∀ (rest pre : List S173) (o : List S125), o.length = pre.length → (pre ++ rest).length ≤ 1048576 →
    Ev (fun k => laws_toPointS.l0 k (pre ++ rest) (o ++ List.replicate rest.length z125) ((pre.length : Nat) : Int)) (o ++ rest.map cPoint)
  | [], pre, o, ho, hl => ⟨1, fun k hk => by
    obtain ⟨k, rfl⟩ : ∃ m, k = m + 1 := ⟨k - 1, by omega⟩
    simp only [laws_toPointS.l0]
    rw [if_neg (by simp)]
    simp⟩
  | x :: rest, pre, o, ho, hl => by
    have hlen : (pre ++ x :: rest).length = pre.length + (rest.length + 1) := by simp
    have ih := toPointS_l0 rest (pre ++ [x]) (o ++ [cPoint x]) (by simp [ho]) (by simpa using hl)
    have hrd : rd_T173 (pre ++ x :: rest) ((pre.length : Nat) : Int) = x := gd_at z173 pre rest x
    have hset := set_at o (List.replicate rest.length z125) z125 (cPoint x)
    rw [ho] at hset
    rw [List.append_assoc, List.singleton_append] at ih
    refine Ev.step (fun k => ?_) (by simpa using ih)
    simp only [laws_toPointS.l0]
    rw [if_pos (by rw [hlen]; omega), if_pos (by omega), hrd]
    rw [show (x :: rest).length = rest.length + 1 from rfl, List.replicate_succ]
    have hb : ((pre.length : Nat) : Int) < ((o ++ z125 :: List.replicate rest.length z125).length : Int) := by simp; omega
    simp only [laws_toPoint.f, Option.bind_some]
    rw [if_pos hb]
    have e : wrap64 (((pre.length : Nat) : Int) + 1) = ((pre.length : Nat) : Int) + 1 := w64 (by omega) (by omega)
    rw [e]
    have hs2 := hset
    unfold cPoint at hs2
    rw [hs2]
    simp [cPoint]
theorem toPointS_ev (l : List S173) (hl : l.length ≤ 1048576) : Ev (fun k => laws_toPointS.f k l) (l.map cPoint) := by
  have h := toPointS_l0 l [] [] rfl (by simpa using hl)
  refine Ev.congr (fun k => ?_) (by simpa using h)
  unfold laws_toPointS.f
  rw [if_pos (by omega), if_pos (by omega), Int.toNat_natCast]
theorem eqPointS_l0 : ∀ (rest pre : List S125), (pre ++ rest).length ≤ 1048576 → Ev (fun k => laws_eqPointS.l0 k (pre ++ rest) (pre ++ rest) ((pre.length : Nat) : Int)) true
  | [], pre, hl => ⟨1, fun k hk => by
    obtain ⟨k, rfl⟩ : ∃ m, k = m + 1 := ⟨k - 1, by omega⟩
    simp only [laws_eqPointS.l0]
    rw [if_neg (by simp)]⟩
  | x :: rest, pre, hl => by
    have hlen : (pre ++ x :: rest).length = pre.length + (rest.length + 1) := by simp
    have ih := eqPointS_l0 rest (pre ++ [x]) (by simpa using hl)
    have hrd : rd_T125 (pre ++ x :: rest) ((pre.length : Nat) : Int) = x := gd_at z125 pre rest x
    rw [List.append_assoc, List.singleton_append, len_snoc] at ih
    refine Ev.step (fun k => ?_) ih
    simp only [laws_eqPointS.l0]
    rw [if_pos (by rw [hlen]; omega), if_pos (by omega), if_pos (by rw [hlen]; omega), hrd, w64 (by omega) (by omega)]
    simp [laws_eqPoint.f]
theorem eqPointS_ev (l : List S125) (hl : l.length ≤ 1048576) : Ev (fun k => laws_eqPointS.f k l l) true := by
  have h := eqPointS_l0 l [] (by simpa using hl)
  refine Ev.congr (fun k => ?_) (by simpa using h)
  unfold laws_eqPointS.f
  rw [if_pos rfl]

/-! ### both checks of a scene -/
def fin1 (a : Int) : Bool := a / 8388608 % 256 != 255
def U32 (a : Int) : Prop := 0 ≤ a ∧ a < 4294967296
theorem spec_fin {a : Int} (h : U32 a) : spec_l2finite.f a = some (fin1 a) := by
  obtain ⟨n, rfl⟩ := Int.eq_ofNat_of_zero_le h.1
  rw [l2finite_f n (by have := h.2; omega)]
  unfold fin1
  congr 1
  by_cases k : n / 8388608 % 256 = 255
  · rw [bne_eq_false_iff_eq.2 k, eq_comm, bne_eq_false_iff_eq]; omega
  · rw [bne_iff_ne.2 k, eq_comm, bne_iff_ne]; omega
theorem impl_fin {a : Int} (h : U32 a) : impl_finite.f a = some (fin1 a) := by
  unfold impl_finite.f
  rw [if_pos (show 0 ≤ a ∧ a < 4294967296 from h)]
  rfl
def finP (p : S125) : Bool := fin1 p.f0 && fin1 p.f1 && fin1 p.f2
structure UP (p : S125) : Prop where
  x : U32 p.f0
  y : U32 p.f1
  z : U32 p.f2
theorem spec_finP {p : S125} (h : UP p) : spec_l3finite.f p.f0 p.f1 p.f2 = some (finP p) := by
  unfold spec_l3finite.f finP
  rw [spec_fin h.x, spec_fin h.y, spec_fin h.z]
  simp only [Option.bind_some]
  cases fin1 p.f0 <;> cases fin1 p.f1 <;> rfl
theorem impl_finP {p : S125} (h : UP p) : impl_finitePoint.f p.f0 p.f1 p.f2 = some (finP p) := by
  unfold impl_finitePoint.f finP
  rw [impl_fin h.x, impl_fin h.y, impl_fin h.z]
  simp only [Option.bind_some]
  cases fin1 p.f0 <;> cases fin1 p.f1 <;> rfl
theorem finitePoints_l0 : ∀ (rest pre : List S125), (∀ p ∈ rest, UP p) → (pre ++ rest).length ≤ 1048576 → Ev (fun k => impl_finitePoints.l0 k (pre ++ rest) (((pre ++ rest).length : Nat) : Int) ((pre.length : Nat) : Int)) (rest.all finP)
  | [], pre, hu, hl => ⟨1, fun k hk => by
    obtain ⟨k, rfl⟩ : ∃ m, k = m + 1 := ⟨k - 1, by omega⟩
    simp only [impl_finitePoints.l0]
    rw [if_neg (by simp)]
    rfl⟩
  | x :: rest, pre, hu, hl => by
    have hlen : (pre ++ x :: rest).length = pre.length + (rest.length + 1) := by simp
    have ih := finitePoints_l0 rest (pre ++ [x]) (fun p hp => hu p (by simp [hp])) (by simpa using hl)
    have hrd : rd_T125 (pre ++ x :: rest) ((pre.length : Nat) : Int) = x := gd_at z125 pre rest x
    rw [List.append_assoc, List.singleton_append, len_snoc] at ih
    have hx := impl_finP (hu x (by simp))
    cases hf : finP x with
    | true =>
      have : (x :: rest).all finP = rest.all finP := by simp [hf]
      rw [this]
      refine Ev.step (fun k => ?_) ih
      simp only [impl_finitePoints.l0]
      rw [if_pos (by rw [hlen]; omega), if_pos (by omega), if_pos (by rw [hlen]; omega), hrd, hx, hf, w64 (by omega) (by omega)]
      rfl
    | false =>
      have : (x :: rest).all finP = false := by simp [hf]
      rw [this]
      exact ⟨1, fun k hk => by
        obtain ⟨k, rfl⟩ : ∃ m, k = m + 1 := ⟨k - 1, by omega⟩
        simp only [impl_finitePoints.l0]
        rw [if_pos (by rw [hlen]; omega), if_pos (by omega), if_pos (by rw [hlen]; omega), hrd, hx, hf]
        rfl⟩
theorem finitePoints_ev (l : List S125) (hu : ∀ p ∈ l, UP p) (hl : l.length ≤ 1048576) : Ev (fun k => impl_finitePoints.f k l) (l.all finP) := by
  have h := finitePoints_l0 l [] hu (by simpa using hl)
  have h2 : Ev (fun k => impl_finitePoints.l0 k l (l.length : Int) 0) (l.all finP) := by simpa using h
  exact Ev.congr (fun k => rfl) h2
def finT (t : S151) : Bool := finP t.f0 && finP t.f1 && finP t.f2
structure UT (t : S151) : Prop where
  a : UP t.f0
  b : UP t.f1
  c : UP t.f2
theorem spec_finT {t : S151} (h : UT t) : spec_l3triOK.f t.f0.f0 t.f0.f1 t.f0.f2 t.f1.f0 t.f1.f1 t.f1.f2 t.f2.f0 t.f2.f1 t.f2.f2 = some (finT t) := by
  unfold spec_l3triOK.f finT
  rw [spec_finP h.a, spec_finP h.b, spec_finP h.c]
  simp only [Option.bind_some]
  cases finP t.f0 <;> cases finP t.f1 <;> rfl
theorem impl_finT {t : S151} (h : UT t) : Ev (fun k => impl_Tri_finite.f k t.f0.f0 t.f0.f1 t.f0.f2 t.f1.f0 t.f1.f1 t.f1.f2 t.f2.f0 t.f2.f1 t.f2.f2) (finT t) := by
  have h1 := finitePoints_ev [t.f0, t.f1, t.f2] (fun p hp => by
    simp at hp
    rcases hp with rfl | rfl | rfl
    · exact h.a
    · exact h.b
    · exact h.c) (by simp)
  unfold impl_Tri_finite.f
  refine ev_bindc h1 ?_
  simp [finT, Bool.and_assoc]
def zero1 (a : Int) : Bool := a % 2147483648 == 0
theorem spec_zero {a : Int} (h : U32 a) : spec_l3isZero.f a = some (zero1 a) := by
  unfold spec_l3isZero.f zero1
  rw [Int.tmod_eq_emod_of_nonneg h.1]
def zeroP (p : S125) : Bool := zero1 p.f0 && zero1 p.f1 && zero1 p.f2
theorem spec_zeroP {p : S125} (h : UP p) : spec_l3noWay.f p.f0 p.f1 p.f2 = some (zeroP p) := by
  unfold spec_l3noWay.f zeroP
  rw [spec_zero h.x, spec_zero h.y, spec_zero h.z]
  simp only [Option.bind_some]
  cases zero1 p.f0 <;> cases zero1 p.f1 <;> rfl
theorem bor32 (x y : Nat) (hx : x < 4294967296) (hy : y < 4294967296) : Go.bits .or .u32 ((x : Nat) : Int) ((y : Nat) : Int) = ((x ||| y : Nat) : Int) := by
  have h : x ||| y < 4294967296 := Nat.or_lt_two_pow (n := 32) hx hy
  show IntKind.u32.wrap (((BitVec.ofInt 32 ((x : Nat) : Int) ||| BitVec.ofInt 32 ((y : Nat) : Int)).toNat : Nat) : Int) = _
  rw [BitVec.toNat_or, BitVec.ofInt_natCast, BitVec.ofInt_natCast, BitVec.toNat_ofNat, BitVec.toNat_ofNat, Nat.mod_eq_of_lt (a := x) (by omega), Nat.mod_eq_of_lt (a := y) (by omega)]
  have h2 : ∀ z : Int, IntKind.u32.wrap z = z % 4294967296 := fun z => by simp [IntKind.wrap, IntKind.bits, IntKind.signed]
  rw [h2]
  omega
theorem impl_zeroP {p : S125} (h : UP p) : impl_Point_zero.f p.f0 p.f1 p.f2 = some (zeroP p) := by
  obtain ⟨⟨x0, x1⟩, ⟨y0, y1⟩, ⟨z0, z1⟩⟩ := h
  unfold impl_Point_zero.f zeroP zero1
  obtain ⟨x, hx⟩ := Int.eq_ofNat_of_zero_le x0
  obtain ⟨y, hy⟩ := Int.eq_ofNat_of_zero_le y0
  obtain ⟨z, hz⟩ := Int.eq_ofNat_of_zero_le z0
  have hx4 : x < 4294967296 := by omega
  have hy4 : y < 4294967296 := by omega
  have hz4 : z < 4294967296 := by omega
  rw [hx, hy, hz]
  rw [bor32 x y hx4 hy4, bor32 (x ||| y) z (Nat.or_lt_two_pow (n := 32) hx4 hy4) hz4]
  congr 1
  have hm : (x ||| y ||| z) % 2147483648 = x % 2147483648 ||| y % 2147483648 ||| z % 2147483648 := by
    rw [show 2147483648 = 2 ^ 31 from by decide, Nat.or_mod_two_pow, Nat.or_mod_two_pow]
  have hz1 : ((x ||| y ||| z) % 2147483648 = 0) ↔ (x % 2147483648 = 0 ∧ y % 2147483648 = 0 ∧ z % 2147483648 = 0) := by
    rw [hm, Nat.or_eq_zero_iff, Nat.or_eq_zero_iff, and_assoc]
  generalize x ||| y ||| z = v at hz1 ⊢
  rw [Bool.eq_iff_iff]
  simp only [Bool.and_eq_true, beq_iff_eq]
  omega
def okR (r : S127) : Bool := finP r.f0 && finP r.f1 && !zeroP r.f1
structure UR (r : S127) : Prop where
  a : UP r.f0
  b : UP r.f1
theorem spec_okR {r : S127} (h : UR r) : spec_l3rayOK.f r.f0.f0 r.f0.f1 r.f0.f2 r.f1.f0 r.f1.f1 r.f1.f2 = some (okR r) := by
  unfold spec_l3rayOK.f okR
  rw [spec_finP h.a, spec_finP h.b, spec_zeroP h.b]
  simp only [Option.bind_some]
  cases finP r.f0 <;> cases finP r.f1 <;> rfl
theorem impl_okR {r : S127} (h : UR r) : Ev (fun k => impl_Ray_proper.f k r.f0.f0 r.f0.f1 r.f0.f2 r.f1.f0 r.f1.f1 r.f1.f2) (okR r) := by
  have h1 := finitePoints_ev [r.f0, r.f1] (fun p hp => by
    simp at hp
    rcases hp with rfl | rfl
    · exact h.a
    · exact h.b) (by simp)
  unfold impl_Ray_proper.f
  refine ev_bindc h1 ?_
  rw [impl_zeroP h.b]
  simp only [Option.bind_some, okR, List.all_cons, List.all_nil, Bool.and_true]
  cases finP r.f0 <;> cases finP r.f1 <;> rfl
theorem trisOK_l0 : ∀ (rest pre : List S151), (∀ p ∈ rest, UT p) → (pre ++ rest).length ≤ 1048576 → Ev (fun k => spec_l5trisOK.l0 k (pre ++ rest) ((pre.length : Nat) : Int)) (rest.all finT)
  | [], pre, hu, hl => ⟨1, fun k hk => by
    obtain ⟨k, rfl⟩ : ∃ m, k = m + 1 := ⟨k - 1, by omega⟩
    simp only [spec_l5trisOK.l0]
    rw [if_neg (by simp)]
    rfl⟩
  | x :: rest, pre, hu, hl => by
    have hlen : (pre ++ x :: rest).length = pre.length + (rest.length + 1) := by simp
    have ih := trisOK_l0 rest (pre ++ [x]) (fun p hp => hu p (by simp [hp])) (by simpa using hl)
    have hrd : rd_T151 (pre ++ x :: rest) ((pre.length : Nat) : Int) = x := gd_at z151 pre rest x
    rw [List.append_assoc, List.singleton_append, len_snoc] at ih
    have hx := spec_finT (hu x (by simp))
    cases hf : finT x with
    | true =>
      have : (x :: rest).all finT = rest.all finT := by simp [hf]
      rw [this]
      refine Ev.step (fun k => ?_) ih
      simp only [spec_l5trisOK.l0]
      rw [if_pos (by rw [hlen]; omega), if_pos (by omega), hrd, hx, hf, w64 (by omega) (by omega)]
      rfl
    | false =>
      have : (x :: rest).all finT = false := by simp [hf]
      rw [this]
      exact ⟨1, fun k hk => by
        obtain ⟨k, rfl⟩ : ∃ m, k = m + 1 := ⟨k - 1, by omega⟩
        simp only [spec_l5trisOK.l0]
        rw [if_pos (by rw [hlen]; omega), if_pos (by omega), hrd, hx, hf]
        rfl⟩
theorem goodTris_l0 : ∀ (rest pre : List S151), (∀ p ∈ rest, UT p) → (pre ++ rest).length ≤ 1048576 → Ev (fun k => impl_goodTris.l0 k (pre ++ rest) (((pre ++ rest).length : Nat) : Int) ((pre.length : Nat) : Int)) (rest.all finT)
  | [], pre, hu, hl => ⟨1, fun k hk => by
    obtain ⟨k, rfl⟩ : ∃ m, k = m + 1 := ⟨k - 1, by omega⟩
    simp only [impl_goodTris.l0]
    rw [if_neg (by simp)]
    rfl⟩
  | x :: rest, pre, hu, hl => by
    have hlen : (pre ++ x :: rest).length = pre.length + (rest.length + 1) := by simp
    have ih := goodTris_l0 rest (pre ++ [x]) (fun p hp => hu p (by simp [hp])) (by simpa using hl)
    have hrd : rd_T151 (pre ++ x :: rest) ((pre.length : Nat) : Int) = x := gd_at z151 pre rest x
    rw [List.append_assoc, List.singleton_append, len_snoc] at ih
    have hx := impl_finT (hu x (by simp))
    cases hf : finT x with
    | true =>
      have : (x :: rest).all finT = rest.all finT := by simp [hf]
      rw [this]
      rw [hf] at hx
      refine Ev.step (f := fun k => (impl_Tri_finite.f k x.f0.f0 x.f0.f1 x.f0.f2 x.f1.f0 x.f1.f1 x.f1.f2 x.f2.f0 x.f2.f1 x.f2.f2).bind fun t => if t = true then impl_goodTris.l0 k (pre ++ x :: rest) (((pre ++ x :: rest).length : Nat) : Int) (((pre.length : Nat) : Int) + 1) else some false) (fun k => ?_) (Ev.bind hx (by simpa using ih))
      simp only [impl_goodTris.l0]
      rw [if_pos (by rw [hlen]; omega), if_pos (by omega), if_pos (by rw [hlen]; omega), hrd, w64 (by omega) (by omega)]
    | false =>
      have : (x :: rest).all finT = false := by simp [hf]
      rw [this]
      rw [hf] at hx
      refine Ev.step (f := fun k => (impl_Tri_finite.f k x.f0.f0 x.f0.f1 x.f0.f2 x.f1.f0 x.f1.f1 x.f1.f2 x.f2.f0 x.f2.f1 x.f2.f2).bind fun t => if t = true then impl_goodTris.l0 k (pre ++ x :: rest) (((pre ++ x :: rest).length : Nat) : Int) (((pre.length : Nat) : Int) + 1) else some false) (fun k => ?_) (Ev.bind hx (by simpa using ev_const rfl))
      simp only [impl_goodTris.l0]
      rw [if_pos (by rw [hlen]; omega), if_pos (by omega), if_pos (by rw [hlen]; omega), hrd, w64 (by omega) (by omega)]
def validS (ts : List S151) (rs : List S127) (ps : List S125) : Bool := decide (ts.length ≤ 40) && ts.all finT && decide (rs.length ≤ 40) && decide (ps.length ≤ 4) && rs.all okR && ps.all finP
theorem spec_pts : ∀ (rest pre : List S125) (ts : List S151) (rs : List S127), (∀ p ∈ rest, UP p) → (pre ++ rest).length ≤ 1048576 → Ev (fun k => spec_ValidScene.l1 k ((pre.length : Nat) : Int) ts rs (pre ++ rest)) (rest.all finP)
  | [], pre, ts, rs, hu, hl => ⟨1, fun k hk => by
    obtain ⟨k, rfl⟩ : ∃ m, k = m + 1 := ⟨k - 1, by omega⟩
    simp only [spec_ValidScene.l1]
    rw [if_neg (by simp)]
    rfl⟩
  | x :: rest, pre, ts, rs, hu, hl => by
    have hlen : (pre ++ x :: rest).length = pre.length + (rest.length + 1) := by simp
    have ih := spec_pts rest (pre ++ [x]) ts rs (fun p hp => hu p (by simp [hp])) (by simpa using hl)
    have hrd : rd_T125 (pre ++ x :: rest) ((pre.length : Nat) : Int) = x := gd_at z125 pre rest x
    rw [List.append_assoc, List.singleton_append, len_snoc] at ih
    have hx := spec_finP (hu x (by simp))
    cases hf : finP x with
    | true =>
      have : (x :: rest).all finP = rest.all finP := by simp [hf]
      rw [this]
      refine Ev.step (fun k => ?_) ih
      simp only [spec_ValidScene.l1]
      rw [if_pos (by rw [hlen]; omega), if_pos (by omega), hrd, hx, hf, w64 (by omega) (by omega)]
      rfl
    | false =>
      have : (x :: rest).all finP = false := by simp [hf]
      rw [this]
      exact ⟨1, fun k hk => by
        obtain ⟨k, rfl⟩ : ∃ m, k = m + 1 := ⟨k - 1, by omega⟩
        simp only [spec_ValidScene.l1]
        rw [if_pos (by rw [hlen]; omega), if_pos (by omega), hrd, hx, hf]
        rfl⟩
theorem spec_rays (ts : List S151) (ps : List S125) (hp : ∀ p ∈ ps, UP p) (hlp : ps.length ≤ 1048576) : ∀ (rest pre : List S127), (∀ p ∈ rest, UR p) → (pre ++ rest).length ≤ 1048576 → Ev (fun k => spec_ValidScene.l0 k ((pre.length : Nat) : Int) ts (pre ++ rest) ps) (rest.all okR && ps.all finP)
  | [], pre, hu, hl => by
    have h := spec_pts ps [] ts (pre ++ []) hp (by simpa using hlp)
    refine Ev.step (fun k => ?_) (by simpa using h)
    simp only [spec_ValidScene.l0]
    rw [if_neg (by simp)]
    try simp
  | x :: rest, pre, hu, hl => by
    have hlen : (pre ++ x :: rest).length = pre.length + (rest.length + 1) := by simp
    have ih := spec_rays ts ps hp hlp rest (pre ++ [x]) (fun p hp => hu p (by simp [hp])) (by simpa using hl)
    have hrd : rd_T127 (pre ++ x :: rest) ((pre.length : Nat) : Int) = x := gd_at z127 pre rest x
    rw [List.append_assoc, List.singleton_append, len_snoc] at ih
    have hx := spec_okR (hu x (by simp))
    cases hf : okR x with
    | true =>
      have : (x :: rest).all okR = rest.all okR := by simp [hf]
      rw [this]
      refine Ev.step (fun k => ?_) ih
      simp only [spec_ValidScene.l0]
      rw [if_pos (by rw [hlen]; omega), if_pos (by omega), hrd, hx, hf, w64 (by omega) (by omega)]
      rfl
    | false =>
      have : ((x :: rest).all okR && ps.all finP) = false := by simp [hf]
      rw [this]
      exact ⟨1, fun k hk => by
        obtain ⟨k, rfl⟩ : ∃ m, k = m + 1 := ⟨k - 1, by omega⟩
        simp only [spec_ValidScene.l0]
        rw [if_pos (by rw [hlen]; omega), if_pos (by omega), hrd, hx, hf]
        rfl⟩
theorem impl_rays (ts : List S151) (ps : List S125) (hp : ∀ p ∈ ps, UP p) (hlp : ps.length ≤ 1048576) (rs : List S127) : ∀ (rest pre : List S127), (∀ p ∈ rest, UR p) → (pre ++ rest).length ≤ 1048576 → Ev (fun k => impl_ValidScene.l0 k (pre ++ rest) (((pre ++ rest).length : Nat) : Int) ((pre.length : Nat) : Int) ts rs ps) (rest.all okR && ps.all finP)
  | [], pre, hu, hl => by
    have h := finitePoints_ev ps hp hlp
    refine Ev.step (fun k => ?_) (ev_bindc h rfl)
    simp only [impl_ValidScene.l0]
    rw [if_neg (by simp)]
    try simp
  | x :: rest, pre, hu, hl => by
    have hlen : (pre ++ x :: rest).length = pre.length + (rest.length + 1) := by simp
    have ih := impl_rays ts ps hp hlp rs rest (pre ++ [x]) (fun p hp => hu p (by simp [hp])) (by simpa using hl)
    have hrd : rd_T127 (pre ++ x :: rest) ((pre.length : Nat) : Int) = x := gd_at z127 pre rest x
    rw [List.append_assoc, List.singleton_append, len_snoc] at ih
    have hx := impl_okR (hu x (by simp))
    have hstep : ∀ k, impl_ValidScene.l0 (k + 1) (pre ++ x :: rest) (((pre ++ x :: rest).length : Nat) : Int) ((pre.length : Nat) : Int) ts rs ps = (impl_Ray_proper.f k x.f0.f0 x.f0.f1 x.f0.f2 x.f1.f0 x.f1.f1 x.f1.f2).bind fun t => if t = true then impl_ValidScene.l0 k (pre ++ x :: rest) (((pre ++ x :: rest).length : Nat) : Int) (((pre.length : Nat) : Int) + 1) ts rs ps else some false := by
      intro k
      simp only [impl_ValidScene.l0]
      rw [if_pos (by rw [hlen]; omega), if_pos (by omega), if_pos (by rw [hlen]; omega), hrd, w64 (by omega) (by omega)]
    refine Ev.step hstep ?_
    cases hf : okR x with
    | true =>
      have : (x :: rest).all okR = rest.all okR := by simp [hf]
      rw [this]
      rw [hf] at hx
      refine Ev.bind hx ?_
      simpa using ih
    | false =>
      have : ((x :: rest).all okR && ps.all finP) = false := by simp [hf]
      rw [this]
      rw [hf] at hx
      refine Ev.bind hx ?_
      exact ev_const rfl
theorem specValid_ev (ts : List S151) (rs : List S127) (ps : List S125) (ht : ∀ p ∈ ts, UT p) (hr : ∀ p ∈ rs, UR p) (hp : ∀ p ∈ ps, UP p) (h1 : ts.length ≤ 1048576) (h2 : rs.length ≤ 1048576) (h3 : ps.length ≤ 1048576) :
    Ev (fun k => spec_ValidScene.f k ts rs ps) (validS ts rs ps) := by
  have e1 : Ev (fun k => spec_l5trisOK.f k ts) (decide (ts.length ≤ 40) && ts.all finT) := by
    unfold spec_l5trisOK.f
    by_cases h : (ts.length : Int) > 40
    · simp only [h, if_true]
      rw [decide_eq_false (by omega)]
      exact ev_const rfl
    · simp only [h, if_false]
      rw [decide_eq_true (by omega)]
      have h5 := trisOK_l0 ts [] ht (by simpa using h1)
      simpa using h5
  unfold spec_ValidScene.f validS
  refine Ev.bind e1 ?_
  cases (decide (ts.length ≤ 40) && ts.all finT) with
  | false =>
    simp only [Bool.false_eq_true, if_false, Bool.false_and]
    exact Ev.step (f := fun _ => some false) (fun k => rfl) (ev_const rfl)
  | true =>
    simp only [if_true, Bool.true_and]
    by_cases h : (rs.length : Int) > 40
    · simp only [h, if_true]
      rw [decide_eq_false (p := rs.length ≤ 40) (by omega)]
      exact Ev.step (f := fun _ => some false) (fun k => rfl) (ev_const rfl)
    · simp only [h, if_false]
      rw [decide_eq_true (p := rs.length ≤ 40) (by omega)]
      by_cases h4 : (ps.length : Int) > 4
      · rw [decide_eq_true h4, decide_eq_false (p := ps.length ≤ 4) (by omega)]
        exact Ev.step (f := fun _ => some false) (fun k => rfl) (ev_const rfl)
      · rw [decide_eq_false h4, decide_eq_true (p := ps.length ≤ 4) (by omega)]
        have h5 := spec_rays ts ps hp h3 rs [] hr (by simpa using h2)
        refine Ev.step (f := fun k => spec_ValidScene.l0 k 0 ts rs ps) (fun k => ?_) (by simpa using h5)
        simp [spec_ValidScene.j0]
theorem implValid_ev (ts : List S151) (rs : List S127) (ps : List S125) (ht : ∀ p ∈ ts, UT p) (hr : ∀ p ∈ rs, UR p) (hp : ∀ p ∈ ps, UP p) (h1 : ts.length ≤ 1048576) (h2 : rs.length ≤ 1048576) (h3 : ps.length ≤ 1048576) :
    Ev (fun k => impl_ValidScene.f k ts rs ps) (validS ts rs ps) := by
  have e1 : Ev (fun k => impl_goodTris.f k ts) (decide (ts.length ≤ 40) && ts.all finT) := by
    unfold impl_goodTris.f
    by_cases h : (ts.length : Int) > 40
    · simp only [h, if_true]
      rw [decide_eq_false (by omega)]
      exact ev_const rfl
    · simp only [h, if_false]
      rw [decide_eq_true (by omega)]
      have h5 := goodTris_l0 ts [] ht (by simpa using h1)
      simpa using h5
  unfold impl_ValidScene.f validS
  refine Ev.bind e1 ?_
  cases (decide (ts.length ≤ 40) && ts.all finT) with
  | false =>
    simp only [Bool.false_eq_true, if_false, Bool.false_and]
    exact Ev.step (f := fun _ => some false) (fun k => rfl) (ev_const rfl)
  | true =>
    simp only [if_true, Bool.true_and]
    by_cases h : (rs.length : Int) > 40
    · simp only [h, if_true]
      rw [decide_eq_false (p := rs.length ≤ 40) (by omega)]
      exact Ev.step (f := fun _ => some false) (fun k => rfl) (ev_const rfl)
    · simp only [h, if_false]
      rw [decide_eq_true (p := rs.length ≤ 40) (by omega)]
      by_cases h4 : (ps.length : Int) > 4
      · rw [decide_eq_true h4, decide_eq_false (p := ps.length ≤ 4) (by omega)]
        exact Ev.step (f := fun _ => some false) (fun k => rfl) (ev_const rfl)
      · rw [decide_eq_false h4, decide_eq_true (p := ps.length ≤ 4) (by omega)]
        have h5 := impl_rays ts ps hp h3 rs rs [] hr (by simpa using h2)
        refine Ev.step (f := fun k => impl_ValidScene.l0 k rs (rs.length : Int) 0 ts rs ps) (fun k => ?_) (by simpa using h5)
        simp [impl_ValidScene.j0]

/-! ### the reference's scene, as a form -/
def ptF (p : S125) : List Int := le p.f0 4 ++ le p.f1 4 ++ le p.f2 4
def triF (t : S151) : List Int := ptF t.f0 ++ ptF t.f1 ++ ptF t.f2
def rayF (r : S127) : List Int := ptF r.f0 ++ ptF r.f1
theorem ptF_length (p : S125) : (ptF p).length = 12 := by simp [ptF, le_length]
theorem triF_length (t : S151) : (triF t).length = 36 := by simp [triF, ptF_length]
theorem rayF_length (r : S127) : (rayF r).length = 24 := by simp [rayF, ptF_length]
theorem flat_len {α : Type} (f : α → List Int) (n : Nat) (hf : ∀ a, (f a).length = n) : ∀ l : List α, (l.flatMap f).length = n * l.length
  | [] => by simp
  | a :: l => by rw [List.flatMap_cons, List.length_append, hf, flat_len f n hf l, List.length_cons, Nat.mul_add, Nat.mul_one, Nat.add_comm]
theorem l6point_ev {p : S125} (h : UP p) : Ev (fun k => spec_l6point.f k p.f0 p.f1 p.f2) (ptF p) := by
  obtain ⟨⟨a0, a1⟩, ⟨b0, b1⟩, ⟨c0, c1⟩⟩ := h
  unfold spec_l6point.f
  rw [w64 (x := p.f0) (by omega) (by omega), w64 (x := p.f1) (by omega) (by omega), w64 (x := p.f2) (by omega) (by omega)]
  refine Ev.bind (little_ev p.f0 4 (by omega) (by omega) (by omega)) ?_
  refine Ev.bind (little_ev p.f1 4 (by omega) (by omega) (by omega)) ?_
  refine Ev.congr (fun k => if_pos (by simp [le_length])) ?_
  simp only [Option.bind_some]
  refine Ev.bind (little_ev p.f2 4 (by omega) (by omega) (by omega)) ?_
  exact Ev.congr (fun k => if_pos (by simp [le_length])) (ev_const rfl)
theorem scene_l2 (ts : List S151) (rs : List S127) : ∀ (rest pre : List S125) (acc : List Int), (∀ p ∈ rest, UP p) → (pre ++ rest).length ≤ 1048576 → acc.length + 12 * rest.length ≤ 1000000000 →
    Ev (fun k => spec_l6scene.l2 k acc ((pre.length : Nat) : Int) ts rs (pre ++ rest)) (acc ++ rest.flatMap ptF)
  | [], pre, acc, hu, hl, ha => ⟨1, fun k hk => by
    obtain ⟨k, rfl⟩ : ∃ m, k = m + 1 := ⟨k - 1, by omega⟩
    simp only [spec_l6scene.l2]
    rw [if_neg (by simp)]
    simp⟩
  | x :: rest, pre, acc, hu, hl, ha => by
    have hlen : (pre ++ x :: rest).length = pre.length + (rest.length + 1) := by simp
    have hrl : (x :: rest).length = rest.length + 1 := rfl
    have ih := scene_l2 ts rs rest (pre ++ [x]) (acc ++ ptF x) (fun p hp => hu p (by simp [hp])) (by simpa using hl) (by rw [List.length_append, ptF_length]; omega)
    have hrd : rd_T125 (pre ++ x :: rest) ((pre.length : Nat) : Int) = x := gd_at z125 pre rest x
    rw [List.append_assoc, List.singleton_append, len_snoc] at ih
    rw [List.flatMap_cons, ← List.append_assoc]
    have h2 : Ev (fun k => (spec_l6point.f k x.f0 x.f1 x.f2).bind fun t => (if acc.length + t.length < 140737488355328 then (spec_l6scene.l2 k (acc ++ t) (((pre.length : Nat) : Int) + 1) ts rs (pre ++ x :: rest)) else none)) (acc ++ ptF x ++ rest.flatMap ptF) := by
      refine Ev.bind (l6point_ev (hu x (by simp))) ?_
      exact Ev.congr (fun k => if_pos (by rw [ptF_length]; omega)) ih
    refine Ev.step (fun k => ?_) h2
    simp only [spec_l6scene.l2]
    rw [if_pos (by rw [hlen]; omega), if_pos (by omega), hrd, w64 (by omega) (by omega)]
theorem scene_l1 (ts : List S151) (ps : List S125) (hp : ∀ p ∈ ps, UP p) (hlp : ps.length ≤ 1048576) : ∀ (rest pre : List S127) (acc : List Int), (∀ p ∈ rest, UR p) → (pre ++ rest).length ≤ 1048576 → acc.length + 24 * rest.length + 12 * ps.length ≤ 1000000000 →
    Ev (fun k => spec_l6scene.l1 k acc ((pre.length : Nat) : Int) ts (pre ++ rest) ps) (acc ++ rest.flatMap rayF ++ ps.flatMap ptF)
  | [], pre, acc, hu, hl, ha => by
    have h := scene_l2 ts (pre ++ []) ps [] acc hp (by simpa using hlp) (by simp only [List.length_nil] at ha; omega)
    rw [List.flatMap_nil, List.append_nil acc]
    refine Ev.step (fun k => ?_) h
    simp only [spec_l6scene.l1]
    rw [if_neg (by simp)]
    rfl
  | x :: rest, pre, acc, hu, hl, ha => by
    have hlen : (pre ++ x :: rest).length = pre.length + (rest.length + 1) := by simp
    have hrl : (x :: rest).length = rest.length + 1 := rfl
    have ih := scene_l1 ts ps hp hlp rest (pre ++ [x]) (acc ++ rayF x) (fun p hp => hu p (by simp [hp])) (by simpa using hl) (by rw [List.length_append, rayF_length]; omega)
    have hrd : rd_T127 (pre ++ x :: rest) ((pre.length : Nat) : Int) = x := gd_at z127 pre rest x
    rw [List.append_assoc pre, List.singleton_append, len_snoc] at ih
    rw [List.flatMap_cons, ← List.append_assoc acc]
    have hx := hu x (by simp)
    have h2 : Ev (fun k => (spec_l6point.f k x.f0.f0 x.f0.f1 x.f0.f2).bind fun t290 => (if acc.length + t290.length < 140737488355328 then ((some (acc ++ t290 : List Int)).bind fun y293 => ((spec_l6point.f k x.f1.f0 x.f1.f1 x.f1.f2).bind fun t297 => (if y293.length + t297.length < 140737488355328 then (spec_l6scene.l1 k (y293 ++ t297) (((pre.length : Nat) : Int) + 1) ts (pre ++ x :: rest) ps) else (none)))) else (none))) (acc ++ rayF x ++ rest.flatMap rayF ++ ps.flatMap ptF) := by
      refine Ev.bind (l6point_ev hx.a) ?_
      refine Ev.congr (fun k => if_pos (by rw [ptF_length]; omega)) ?_
      simp only [Option.bind_some]
      refine Ev.bind (l6point_ev hx.b) ?_
      refine Ev.congr (fun k => if_pos (by rw [List.length_append, ptF_length, ptF_length]; omega)) ?_
      rw [List.append_assoc acc (ptF x.f0)]
      exact ih
    refine Ev.step (fun k => ?_) h2
    simp only [spec_l6scene.l1]
    rw [if_pos (by rw [hlen]; omega), if_pos (by omega), hrd, w64 (by omega) (by omega)]
theorem scene_l0 (rs : List S127) (ps : List S125) (hr : ∀ p ∈ rs, UR p) (hlr : rs.length ≤ 1048576) (hp : ∀ p ∈ ps, UP p) (hlp : ps.length ≤ 1048576) : ∀ (rest pre : List S151) (acc : List Int), (∀ p ∈ rest, UT p) → (pre ++ rest).length ≤ 1048576 → acc.length + 36 * rest.length + 24 * rs.length + 12 * ps.length ≤ 1000000000 →
    Ev (fun k => spec_l6scene.l0 k acc ((pre.length : Nat) : Int) (pre ++ rest) rs ps) (acc ++ rest.flatMap triF ++ rs.flatMap rayF ++ ps.flatMap ptF)
  | [], pre, acc, hu, hl, ha => by
    have h := scene_l1 (pre ++ []) ps hp hlp rs [] acc hr (by simpa using hlr) (by simp only [List.length_nil] at ha; omega)
    rw [List.flatMap_nil, List.append_nil acc]
    refine Ev.step (fun k => ?_) h
    simp only [spec_l6scene.l0]
    rw [if_neg (by simp)]
    rfl
  | x :: rest, pre, acc, hu, hl, ha => by
    have hlen : (pre ++ x :: rest).length = pre.length + (rest.length + 1) := by simp
    have hrl : (x :: rest).length = rest.length + 1 := rfl
    have ih := scene_l0 rs ps hr hlr hp hlp rest (pre ++ [x]) (acc ++ triF x) (fun p hp => hu p (by simp [hp])) (by simpa using hl) (by rw [List.length_append, triF_length]; omega)
    have hrd : rd_T151 (pre ++ x :: rest) ((pre.length : Nat) : Int) = x := gd_at z151 pre rest x
    rw [List.append_assoc pre, List.singleton_append, len_snoc] at ih
    rw [List.flatMap_cons, ← List.append_assoc acc]
    have hx := hu x (by simp)
    have h2 : Ev (fun k => (spec_l6point.f k x.f0.f0 x.f0.f1 x.f0.f2).bind fun t269 => (if acc.length + t269.length < 140737488355328 then ((some (acc ++ t269 : List Int)).bind fun y272 => ((spec_l6point.f k x.f1.f0 x.f1.f1 x.f1.f2).bind fun t276 => (if y272.length + t276.length < 140737488355328 then ((some (y272 ++ t276 : List Int)).bind fun y279 => ((spec_l6point.f k x.f2.f0 x.f2.f1 x.f2.f2).bind fun t283 => (if y279.length + t283.length < 140737488355328 then (spec_l6scene.l0 k (y279 ++ t283) (((pre.length : Nat) : Int) + 1) (pre ++ x :: rest) rs ps) else (none)))) else (none)))) else (none))) (acc ++ triF x ++ rest.flatMap triF ++ rs.flatMap rayF ++ ps.flatMap ptF) := by
      refine Ev.bind (l6point_ev hx.a) ?_
      refine Ev.congr (fun k => if_pos (by rw [ptF_length]; omega)) ?_
      simp only [Option.bind_some]
      refine Ev.bind (l6point_ev hx.b) ?_
      refine Ev.congr (fun k => if_pos (by rw [List.length_append, ptF_length, ptF_length]; omega)) ?_
      refine Ev.bind (l6point_ev hx.c) ?_
      refine Ev.congr (fun k => if_pos (by rw [List.length_append, List.length_append, ptF_length, ptF_length, ptF_length]; omega)) ?_
      rw [List.append_assoc (acc ++ ptF x.f0), List.append_assoc acc (ptF x.f0), ← List.append_assoc (ptF x.f0)]
      exact ih
    refine Ev.step (fun k => ?_) h2
    simp only [spec_l6scene.l0]
    rw [if_pos (by rw [hlen]; omega), if_pos (by omega), hrd, w64 (by omega) (by omega)]
def scnForm (ts : List S151) (rs : List S127) (ps : List S125) : List Int := [83, 67, 69, 78] ++ le ts.length 2 ++ le rs.length 2 ++ le ps.length 1 ++ ts.flatMap triF ++ rs.flatMap rayF ++ ps.flatMap ptF
theorem scnForm_length (ts : List S151) (rs : List S127) (ps : List S125) : (scnForm ts rs ps).length = 9 + 36 * ts.length + 24 * rs.length + 12 * ps.length := by
  simp only [scnForm, List.length_append, le_length, flat_len _ _ triF_length, flat_len _ _ rayF_length, flat_len _ _ ptF_length, List.length_cons, List.length_nil]
theorem l6scene_ev (ts : List S151) (rs : List S127) (ps : List S125) (ht : ∀ p ∈ ts, UT p) (hr : ∀ p ∈ rs, UR p) (hp : ∀ p ∈ ps, UP p) (h1 : ts.length ≤ 1048576) (h2 : rs.length ≤ 1048576) (h3 : ps.length ≤ 1048576) :
    Ev (fun k => spec_l6scene.f k ts rs ps) (scnForm ts rs ps) := by
  have h := scene_l0 rs ps hr h2 hp h3 ts [] ([83, 67, 69, 78] ++ le ts.length 2 ++ le rs.length 2 ++ le ps.length 1) ht (by simpa using h1) (by simp only [List.length_append, le_length, List.length_cons, List.length_nil]; omega)
  unfold spec_l6scene.f
  simp only [Option.bind_some]
  refine Ev.bind (little_ev (ts.length : Int) 2 (by omega) (by omega) (by omega)) ?_
  refine Ev.congr (fun k => if_pos (by simp [le_length])) ?_
  refine Ev.bind (little_ev (rs.length : Int) 2 (by omega) (by omega) (by omega)) ?_
  refine Ev.congr (fun k => if_pos (by simp [le_length])) ?_
  refine Ev.bind (little_ev (ps.length : Int) 1 (by omega) (by omega) (by omega)) ?_
  refine Ev.congr (fun k => if_pos (by simp [le_length])) ?_
  exact h

/-! ### marks in a scene: only that they end, and how far they count -/
theorem ev_set {α β : Type} {l : List α} {i : Nat} {v : α} {f : Nat → List α → Option β} {Q : β → Prop} (h : ∀ y : List α, y.length = l.length → ∃ r, Ev (fun k => f k y) r ∧ Q r) : ∃ r, Ev (fun k => (some (l.set i v)).bind (f k)) r ∧ Q r := h _ (by simp)
theorem ev_estep {β : Type} {g : Nat → Option β} {Q : β → Prop} (h : ∃ r, Ev (fun k => g (k + 1)) r ∧ Q r) : ∃ r, Ev g r ∧ Q r :=
  let ⟨r, h1, h2⟩ := h
  ⟨r, Ev.step (fun _ => rfl) h1, h2⟩
theorem markTriS_l0 : ∀ (d i : Nat) (l : List S151) (z : Int), i + d = l.length → l.length ≤ 1048576 → 0 ≤ z → z + 9 * d ≤ 1000000000 →
    ∃ r, Ev (fun k => laws_markTriS.l0 k l z (i : Int)) r ∧ (0 ≤ r.1 ∧ r.1 ≤ z + 9 * d)
  | 0, i, l, z, h, hl, h0, h1 => ⟨(z, l), ⟨1, fun k hk => by
    obtain ⟨k, rfl⟩ : ∃ m, k = m + 1 := ⟨k - 1, by omega⟩
    simp only [laws_markTriS.l0]
    rw [if_neg (by omega)]⟩, by simp only []; omega⟩
  | d + 1, i, l, z, h, hl, h0, h1 => by
    have b1 : i + 1 + d = l.length := by omega
    have b2 : z + 9 + 9 * (d : Int) ≤ 1000000000 := by omega
    have b3 : z + 9 + 9 * (d : Int) = z + 9 * ((d + 1 : Nat) : Int) := by omega
    have b4 : 0 ≤ z + 9 := by omega
    have c1 : ((i : Int) < (l.length : Int)) = True := eq_true (by omega)
    have c2 : ((0 : Int) ≤ (i : Int)) = True := eq_true (by omega)
    have hi : wrap64 ((i : Int) + 1) = ((i + 1 : Nat) : Int) := w64 (by omega) (by omega)
    have W : ∀ q : Int, 0 ≤ q → q ≤ 100 → wrap64 (z + q) = z + q := fun q h h' => w64 (by omega) (by omega)
    have e1 : wrap64 (z + 1) = z + 1 := W 1 (by decide) (by decide)
    have e2 : wrap64 (z + 2) = z + 2 := W 2 (by decide) (by decide)
    have e3 : wrap64 (z + 3) = z + 3 := W 3 (by decide) (by decide)
    have e4 : wrap64 (z + 4) = z + 4 := W 4 (by decide) (by decide)
    have e5 : wrap64 (z + 5) = z + 5 := W 5 (by decide) (by decide)
    have e6 : wrap64 (z + 6) = z + 6 := W 6 (by decide) (by decide)
    have e7 : wrap64 (z + 7) = z + 7 := W 7 (by decide) (by decide)
    have e8 : wrap64 (z + 8) = z + 8 := W 8 (by decide) (by decide)
    have e9 : wrap64 (z + 9) = z + 9 := W 9 (by decide) (by decide)
    have f1 : wrap64 (z + 1 + 1) = z + 2 := (congrArg wrap64 (Int.add_assoc z 1 1)).trans e2
    have f2 : wrap64 (z + 2 + 1) = z + 3 := (congrArg wrap64 (Int.add_assoc z 2 1)).trans e3
    have f3 : wrap64 (z + 3 + 1) = z + 4 := (congrArg wrap64 (Int.add_assoc z 3 1)).trans e4
    have f4 : wrap64 (z + 4 + 1) = z + 5 := (congrArg wrap64 (Int.add_assoc z 4 1)).trans e5
    have f5 : wrap64 (z + 5 + 1) = z + 6 := (congrArg wrap64 (Int.add_assoc z 5 1)).trans e6
    have f6 : wrap64 (z + 6 + 1) = z + 7 := (congrArg wrap64 (Int.add_assoc z 6 1)).trans e7
    have f7 : wrap64 (z + 7 + 1) = z + 8 := (congrArg wrap64 (Int.add_assoc z 7 1)).trans e8
    have f8 : wrap64 (z + 8 + 1) = z + 9 := (congrArg wrap64 (Int.add_assoc z 8 1)).trans e9
    refine ev_estep ?_
    simp only [laws_markTriS.l0, c1, c2, if_true, e1, e2, e3, e4, e5, e6, e7, e8, e9, f1, f2, f3, f4, f5, f6, f7, f8, hi]
    clear W e1 e2 e3 e4 e5 e6 e7 e8 e9 f1 f2 f3 f4 f5 f6 f7 f8
    refine ev_set ?_
    intro y1 h1
    refine ev_set ?_
    intro y2 h2
    refine ev_set ?_
    intro y3 h3
    refine ev_set ?_
    intro y4 h4
    refine ev_set ?_
    intro y5 h5
    refine ev_set ?_
    intro y6 h6
    refine ev_set ?_
    intro y7 h7
    refine ev_set ?_
    intro y8 h8
    generalize hy : y8.set (i : Int).toNat _ = y9
    have h9 : y9.length = l.length := by rw [← hy, List.length_set, h8, h7, h6, h5, h4, h3, h2, h1]
    obtain ⟨r, g1, g2, g3⟩ := markTriS_l0 d (i + 1) y9 (z + 9) (by rw [h9]; exact b1) (by rw [h9]; exact hl) b4 b2
    exact ⟨r, g1, g2, by rw [← b3]; exact g3⟩
theorem markTriS_end (l : List S151) (z : Int) (hl : l.length ≤ 1048576) (h0 : 0 ≤ z) (h1 : z ≤ 100000000) : ∃ r, Ev (fun k => laws_markTriS.f k l z) r ∧ (0 ≤ r.1 ∧ r.1 ≤ z + 9 * l.length) :=
  markTriS_l0 l.length 0 l z (by omega) hl h0 (by omega)
theorem markRayS_l0 : ∀ (d i : Nat) (l : List S127) (z : Int), i + d = l.length → l.length ≤ 1048576 → 0 ≤ z → z + 6 * d ≤ 1000000000 →
    ∃ r, Ev (fun k => laws_markRayS.l0 k l z (i : Int)) r ∧ (0 ≤ r.1 ∧ r.1 ≤ z + 6 * d)
  | 0, i, l, z, h, hl, h0, h1 => ⟨(z, l), ⟨1, fun k hk => by
    obtain ⟨k, rfl⟩ : ∃ m, k = m + 1 := ⟨k - 1, by omega⟩
    simp only [laws_markRayS.l0]
    rw [if_neg (by omega)]⟩, by simp only []; omega⟩
  | d + 1, i, l, z, h, hl, h0, h1 => by
    have b1 : i + 1 + d = l.length := by omega
    have b2 : z + 6 + 6 * (d : Int) ≤ 1000000000 := by omega
    have b3 : z + 6 + 6 * (d : Int) = z + 6 * ((d + 1 : Nat) : Int) := by omega
    have b4 : 0 ≤ z + 6 := by omega
    have c1 : ((i : Int) < (l.length : Int)) = True := eq_true (by omega)
    have c2 : ((0 : Int) ≤ (i : Int)) = True := eq_true (by omega)
    have hi : wrap64 ((i : Int) + 1) = ((i + 1 : Nat) : Int) := w64 (by omega) (by omega)
    have W : ∀ q : Int, 0 ≤ q → q ≤ 100 → wrap64 (z + q) = z + q := fun q h h' => w64 (by omega) (by omega)
    have e1 : wrap64 (z + 1) = z + 1 := W 1 (by decide) (by decide)
    have e2 : wrap64 (z + 2) = z + 2 := W 2 (by decide) (by decide)
    have e3 : wrap64 (z + 3) = z + 3 := W 3 (by decide) (by decide)
    have e4 : wrap64 (z + 4) = z + 4 := W 4 (by decide) (by decide)
    have e5 : wrap64 (z + 5) = z + 5 := W 5 (by decide) (by decide)
    have e6 : wrap64 (z + 6) = z + 6 := W 6 (by decide) (by decide)
    have f1 : wrap64 (z + 1 + 1) = z + 2 := (congrArg wrap64 (Int.add_assoc z 1 1)).trans e2
    have f2 : wrap64 (z + 2 + 1) = z + 3 := (congrArg wrap64 (Int.add_assoc z 2 1)).trans e3
    have f3 : wrap64 (z + 3 + 1) = z + 4 := (congrArg wrap64 (Int.add_assoc z 3 1)).trans e4
    have f4 : wrap64 (z + 4 + 1) = z + 5 := (congrArg wrap64 (Int.add_assoc z 4 1)).trans e5
    have f5 : wrap64 (z + 5 + 1) = z + 6 := (congrArg wrap64 (Int.add_assoc z 5 1)).trans e6
    refine ev_estep ?_
    simp only [laws_markRayS.l0, c1, c2, if_true, e1, e2, e3, e4, e5, e6, f1, f2, f3, f4, f5, hi]
    clear W e1 e2 e3 e4 e5 e6 f1 f2 f3 f4 f5
    refine ev_set ?_
    intro y1 h1
    refine ev_set ?_
    intro y2 h2
    refine ev_set ?_
    intro y3 h3
    refine ev_set ?_
    intro y4 h4
    refine ev_set ?_
    intro y5 h5
    generalize hy : y5.set (i : Int).toNat _ = y6
    have h6 : y6.length = l.length := by rw [← hy, List.length_set, h5, h4, h3, h2, h1]
    obtain ⟨r, g1, g2, g3⟩ := markRayS_l0 d (i + 1) y6 (z + 6) (by rw [h6]; exact b1) (by rw [h6]; exact hl) b4 b2
    exact ⟨r, g1, g2, by rw [← b3]; exact g3⟩
theorem markRayS_end (l : List S127) (z : Int) (hl : l.length ≤ 1048576) (h0 : 0 ≤ z) (h1 : z ≤ 100000000) : ∃ r, Ev (fun k => laws_markRayS.f k l z) r ∧ (0 ≤ r.1 ∧ r.1 ≤ z + 6 * l.length) :=
  markRayS_l0 l.length 0 l z (by omega) hl h0 (by omega)
theorem markPointS_l0 : ∀ (d i : Nat) (l : List S125) (z : Int), i + d = l.length → l.length ≤ 1048576 → 0 ≤ z → z + 3 * d ≤ 1000000000 →
    ∃ r, Ev (fun k => laws_markPointS.l0 k l z (i : Int)) r ∧ (0 ≤ r.1 ∧ r.1 ≤ z + 3 * d)
  | 0, i, l, z, h, hl, h0, h1 => ⟨(z, l), ⟨1, fun k hk => by
    obtain ⟨k, rfl⟩ : ∃ m, k = m + 1 := ⟨k - 1, by omega⟩
    simp only [laws_markPointS.l0]
    rw [if_neg (by omega)]⟩, by simp only []; omega⟩
  | d + 1, i, l, z, h, hl, h0, h1 => by
    have b1 : i + 1 + d = l.length := by omega
    have b2 : z + 3 + 3 * (d : Int) ≤ 1000000000 := by omega
    have b3 : z + 3 + 3 * (d : Int) = z + 3 * ((d + 1 : Nat) : Int) := by omega
    have b4 : 0 ≤ z + 3 := by omega
    have c1 : ((i : Int) < (l.length : Int)) = True := eq_true (by omega)
    have c2 : ((0 : Int) ≤ (i : Int)) = True := eq_true (by omega)
    have hi : wrap64 ((i : Int) + 1) = ((i + 1 : Nat) : Int) := w64 (by omega) (by omega)
    have W : ∀ q : Int, 0 ≤ q → q ≤ 100 → wrap64 (z + q) = z + q := fun q h h' => w64 (by omega) (by omega)
    have e1 : wrap64 (z + 1) = z + 1 := W 1 (by decide) (by decide)
    have e2 : wrap64 (z + 2) = z + 2 := W 2 (by decide) (by decide)
    have e3 : wrap64 (z + 3) = z + 3 := W 3 (by decide) (by decide)
    have f1 : wrap64 (z + 1 + 1) = z + 2 := (congrArg wrap64 (Int.add_assoc z 1 1)).trans e2
    have f2 : wrap64 (z + 2 + 1) = z + 3 := (congrArg wrap64 (Int.add_assoc z 2 1)).trans e3
    refine ev_estep ?_
    simp only [laws_markPointS.l0, c1, c2, if_true, e1, e2, e3, f1, f2, hi]
    clear W e1 e2 e3 f1 f2
    refine ev_set ?_
    intro y1 h1
    refine ev_set ?_
    intro y2 h2
    generalize hy : y2.set (i : Int).toNat _ = y3
    have h3 : y3.length = l.length := by rw [← hy, List.length_set, h2, h1]
    obtain ⟨r, g1, g2, g3⟩ := markPointS_l0 d (i + 1) y3 (z + 3) (by rw [h3]; exact b1) (by rw [h3]; exact hl) b4 b2
    exact ⟨r, g1, g2, by rw [← b3]; exact g3⟩
theorem markPointS_end (l : List S125) (z : Int) (hl : l.length ≤ 1048576) (h0 : 0 ≤ z) (h1 : z ≤ 100000000) : ∃ r, Ev (fun k => laws_markPointS.f k l z) r ∧ (0 ≤ r.1 ∧ r.1 ≤ z + 3 * l.length) :=
  markPointS_l0 l.length 0 l z (by omega) hl h0 (by omega)
theorem markScene_end (ts : List S151) (rs : List S127) (ps : List S125) (h1 : ts.length ≤ 1048576) (h2 : rs.length ≤ 1048576) (h3 : ps.length ≤ 1048576) :
    ∃ r, Ev (fun k => laws_markScene.f k ts rs ps 1) r ∧ 0 ≤ r.1 := by
  obtain ⟨r1, e1, b1⟩ := markTriS_end ts 1 h1 (by omega) (by omega)
  obtain ⟨r2, e2, b2⟩ := markRayS_end rs r1.1 h2 (by omega) (by omega)
  obtain ⟨r3, e3, b3⟩ := markPointS_end ps r2.1 h3 (by omega) (by omega)
  refine ⟨(r3.1, r1.2, r2.2, r3.2), ?_, b3.1⟩
  unfold laws_markScene.f
  refine Ev.bind e1 ?_
  refine Ev.bind e2 ?_
  exact ev_bindc e3 rfl

/-! ### EncodeScene: the program's bytes are the form -/
theorem putB_cons (n : Nat) (v : Int) (vs : List Int) : putB n (v :: vs) = putB n [v] ++ putB n vs := by simp [putB]
theorem u32id {v : Int} (h : U32 v) : v % 4294967296 = v := Int.emod_eq_of_lt h.1 h.2
theorem ptB_eq (p : S125) : ptB p = ptF p := by
  unfold ptB ptF
  rw [putB_cons, putB_cons 4 p.f1, putB_le 4 (by omega), putB_le 4 (by omega), putB_le 4 (by omega), List.append_assoc]
theorem pointsB_eq (ps : List S125) : pointsB ps = ps.flatMap ptF := by
  unfold pointsB
  rw [show (ptB : S125 → List Int) = ptF from funext ptB_eq]
theorem trisB_eq (ts : List S151) : trisB ts = ts.flatMap triF := by
  unfold trisB
  rw [show (fun t : S151 => pointsB (triPs t)) = triF from funext fun t => by simp [pointsB_eq, triPs, triF]]
theorem raysB_eq (rs : List S127) : raysB rs = rs.flatMap rayF := by
  unfold raysB
  rw [show (fun t : S127 => pointsB (rayPs t)) = rayF from funext fun t => by simp [pointsB_eq, rayPs, rayF]]
theorem sceneB_eq (ts : List S151) (rs : List S127) (ps : List S125) (h1 : ts.length ≤ 1048576) (h2 : rs.length ≤ 1048576) (h3 : ps.length ≤ 1048576) : sceneB ts rs ps = scnForm ts rs ps := by
  unfold sceneB scnForm scnHead
  rw [trisB_eq, raysB_eq, pointsB_eq, putB_cons, u32wrap, u32wrap, u32wrap, show (ts.length : Int) % 4294967296 = ts.length from by omega, show (rs.length : Int) % 4294967296 = rs.length from by omega, show (ps.length : Int) % 4294967296 = ps.length from by omega, putB_le 2 (by omega), putB_le 2 (by omega), putB_le 1 (by omega), ← List.append_assoc ([83, 67, 69, 78] : List Int)]
theorem EncodeScene_same (ts : List S151) (rs : List S127) (ps : List S125) (ht : ∀ p ∈ ts, UT p) (hr : ∀ p ∈ rs, UR p) (hp : ∀ p ∈ ps, UP p) (h1 : ts.length ≤ 1048576) (h2 : rs.length ≤ 1048576) (h3 : ps.length ≤ 1048576) :
    ∃ r : List Int, r.length ≤ 3000 ∧ Ev (fun k => spec_EncodeScene.f k ts rs ps) r ∧ Ev (fun k => impl_EncodeScene.f k ts rs ps) r := by
  have hs := specValid_ev ts rs ps ht hr hp h1 h2 h3
  have hi := implValid_ev ts rs ps ht hr hp h1 h2 h3
  unfold spec_EncodeScene.f impl_EncodeScene.f
  cases hv : validS ts rs ps with
  | true =>
    rw [hv] at hs hi
    have hb : ts.length ≤ 40 ∧ rs.length ≤ 40 ∧ ps.length ≤ 4 := by
      simp only [validS, Bool.and_eq_true, decide_eq_true_eq] at hv
      omega
    refine ⟨scnForm ts rs ps, by rw [scnForm_length]; omega, ?_, ?_⟩
    · refine Ev.bind hs ?_
      refine Ev.congr (fun k => if_pos rfl) ?_
      exact ev_bindc (l6scene_ev ts rs ps ht hr hp h1 h2 h3) rfl
    · refine Ev.bind hi ?_
      refine Ev.congr (fun k => if_pos rfl) ?_
      refine Ev.congr (fun k => if_pos ⟨h1, h2, h3⟩) ?_
      exact ev_const (by rw [sceneB_eq ts rs ps h1 h2 h3])
  | false =>
    rw [hv] at hs hi
    refine ⟨[], by simp, ?_, ?_⟩
    · refine Ev.bind hs ?_
      exact Ev.congr (fun k => if_neg (by simp)) (ev_const rfl)
    · refine Ev.bind hi ?_
      exact Ev.congr (fun k => if_neg (by simp)) (ev_const rfl)

theorem u32_of {a : Int} (h : (Lit.int .u32 a).wf = true) : U32 a := by
  unfold U32
  simp [Lit.wf, IntKind.min, IntKind.max, IntKind.bits, IntKind.signed] at h
  omega
theorem up_of {x : S173} (h : W173 x) : UP (cPoint x) := ⟨u32_of h.1, u32_of h.2.1, u32_of h.2.2⟩
theorem ut_of {x : S175} (h : W175 x) : UT (cTri x) := ⟨up_of h.1, up_of h.2.1, up_of h.2.2⟩
theorem ur_of {x : S178} (h : W178 x) : UR (cRay x) := ⟨up_of h.1, up_of h.2⟩
theorem szScene_big (ts : List S175) (rs : List S178) (ps : List S173) (h1 : ts.length ≤ 9223372036854775807) (h2 : rs.length ≤ 9223372036854775807) (h3 : ps.length ≤ 9223372036854775807) :
    ∃ z : Int, laws_szScene.f ts rs ps 1048576 = some z ∧ (z < 0 ∨ (z = 1048576 - ts.length - rs.length - ps.length ∧ 0 ≤ z)) := by
  unfold laws_szScene.f laws_szTriS.f
  rw [w64 (by omega) (by omega)]
  by_cases a1 : (1048576 : Int) - ts.length < 0
  · rw [if_pos a1]
    exact ⟨-1, rfl, by omega⟩
  · rw [if_neg a1]
    simp only [Option.bind_some]
    rw [if_neg a1]
    unfold laws_szRayS.f
    rw [w64 (by omega) (by omega)]
    by_cases a2 : (1048576 : Int) - ts.length - rs.length < 0
    · rw [if_pos a2]
      exact ⟨-1, rfl, by omega⟩
    · rw [if_neg a2]
      simp only [Option.bind_some]
      rw [if_neg a2]
      unfold laws_szPointS.f
      rw [w64 (by omega) (by omega)]
      by_cases a3 : (1048576 : Int) - ts.length - rs.length - ps.length < 0
      · rw [if_pos a3]
        exact ⟨-1, rfl, by omega⟩
      · rw [if_neg a3]
        simp only [Option.bind_some]
        rw [if_neg a3]
        exact ⟨_, rfl, by omega⟩
theorem toScene_ev (ts : List S175) (rs : List S178) (ps : List S173) (h1 : ts.length ≤ 1048576) (h2 : rs.length ≤ 1048576) (h3 : ps.length ≤ 1048576) :
    Ev (fun k => laws_toScene.f k ts rs ps) (ts.map cTri, rs.map cRay, ps.map cPoint) := by
  unfold laws_toScene.f
  refine Ev.bind (toTriS_ev ts h1) ?_
  refine Ev.bind (toRayS_ev rs h2) ?_
  refine Ev.bind (toPointS_ev ps h3) ?_
  exact ev_const rfl
theorem eqScene_ev (ts : List S151) (rs : List S127) (ps : List S125) (h1 : ts.length ≤ 1048576) (h2 : rs.length ≤ 1048576) (h3 : ps.length ≤ 1048576) :
    Ev (fun k => laws_eqScene.f k ts rs ps ts rs ps) true := by
  unfold laws_eqScene.f
  refine Ev.bind (eqTriS_ev ts h1) ?_
  simp only [if_true]
  refine Ev.bind (eqRayS_ev rs h2) ?_
  simp only [if_true]
  refine Ev.bind (eqPointS_ev ps h3) ?_
  exact ev_const rfl

theorem FnExactEncodeScene : laws_FnExactEncodeScene.Pure := by
  rintro ⟨ts, rs, ps⟩ ⟨⟨l1, w1⟩, ⟨l2, w2⟩, ⟨l3, w3⟩⟩
  dsimp only at l1 w1 l2 w2 l3 w3 ⊢
  refine Ev.rounds ?_
  unfold laws_FnExactEncodeScene.f
  obtain ⟨z, hz, hz2⟩ := szScene_big ts rs ps l1 l2 l3
  rw [hz]
  simp only [Option.bind_some]
  by_cases h : z < 0
  · exact Ev.congr (fun k => if_pos h) (ev_const rfl)
  refine Ev.congr (fun k => if_neg h) ?_
  have b1 : ts.length ≤ 1048576 := by omega
  have b2 : rs.length ≤ 1048576 := by omega
  have b3 : ps.length ≤ 1048576 := by omega
  have ut : ∀ p ∈ ts.map cTri, UT p := fun p hp => by
    obtain ⟨x, hx, rfl⟩ := List.mem_map.1 hp
    exact ut_of (w1 x hx)
  have ur : ∀ p ∈ rs.map cRay, UR p := fun p hp => by
    obtain ⟨x, hx, rfl⟩ := List.mem_map.1 hp
    exact ur_of (w2 x hx)
  have up : ∀ p ∈ ps.map cPoint, UP p := fun p hp => by
    obtain ⟨x, hx, rfl⟩ := List.mem_map.1 hp
    exact up_of (w3 x hx)
  obtain ⟨r, hr, hs, hi⟩ := EncodeScene_same (ts.map cTri) (rs.map cRay) (ps.map cPoint) ut ur up (by simpa using b1) (by simpa using b2) (by simpa using b3)
  have tx := toScene_ev ts rs ps b1 b2 b3
  have ex := eqScene_ev (ts.map cTri) (rs.map cRay) (ps.map cPoint) (by simpa using b1) (by simpa using b2) (by simpa using b3)
  obtain ⟨m, mx, hm⟩ := markScene_end (ts.map cTri) (rs.map cRay) (ps.map cPoint) (by simpa using b1) (by simpa using b2) (by simpa using b3)
  have er := eqByteS_ev r (by omega)
  have mr := markByteS_ev r 1 (by omega) (by omega) (by omega)
  have hh := heldByteS_ev r.length 1 (by omega) (by omega) (by omega)
  refine Ev.bind tx ?_
  refine Ev.bind hs ?_
  refine Ev.bind tx ?_
  refine Ev.bind hi ?_
  refine Ev.bind er ?_
  simp only [if_true]
  refine Ev.bind tx ?_
  refine Ev.bind ex ?_
  simp only [if_true]
  refine Ev.bind mx ?_
  refine Ev.congr (fun k => if_neg (by omega)) ?_
  refine Ev.bind er ?_
  simp only [if_true]
  refine Ev.bind mr ?_
  dsimp only
  refine Ev.bind hh ?_
  refine Ev.congr (fun k => if_neg (by omega)) ?_
  simp only [if_true]
  refine Ev.bind tx ?_
  refine Ev.bind hi ?_
  refine Ev.bind er ?_
  simp only [if_true]
  refine Ev.bind hh ?_
  refine Ev.congr (fun k => if_neg (by omega)) ?_
  exact ev_const (if_pos rfl)

end Go.Proofs.Ytcpdeenhjodmfaa.Pure
