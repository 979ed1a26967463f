/- The plain law behind FnExactBigValidSaid: the pure functions that the program's Go functions come to answer as the statement says, for every input that the row lets in. -/
import Derived.Test.YtcpdeenhjodmfaaQBigValidO
namespace Go.Proofs.Ytcpdeenhjodmfaa.Pure
open Go.RowKit Go.Proofs.Ytcpdeenhjodmfaa.QBigValid Go.Proofs.YtcpdeenhjodmfaaW.PrintWords Go.Proofs.YtcpdeenhjodmfaaW.PrintLast Go.Proofs.YtcpdeenhjodmfaaW.PrintMore
set_option linter.unusedVariables false
set_option linter.unusedSimpArgs false
/-! ### rounds, and lists by index -/
theorem ev_const {α : Type} {a : Option α} {r : α} (h : a = some r) : Ev (fun _ => a) r := ⟨0, fun _ _ => h⟩
theorem ev_bindc {α β : Type} {g : Nat → Option α} {f : α → Option β} {a : α} {r : β} (h : Ev g a) (k : f a = some r) : Ev (fun n => (g n).bind f) r :=
  Ev.bind (f := fun _ => f) h (ev_const k)
theorem ev_cbind {α β : Type} {g : Option α} {f : Nat → α → Option β} {a : α} {r : β} (h : g = some a) (k : Ev (fun n => f n a) r) : Ev (fun n => g.bind (f n)) r :=
  Ev.bind (g := fun _ => g) (ev_const h) k
theorem rd_nat (xs : List Int) (i : Nat) : rd xs (i : Int) = xs.getD i 0 := by simp [rd]
theorem rd_at (pre rest : List Int) (r : Int) : rd (pre ++ r :: rest) ((pre.length : Nat) : Int) = r := by simp [rd]
theorem rdb_at (pre rest : List Bool) (r : Bool) : rdOf false (pre ++ r :: rest) ((pre.length : Nat) : Int) = r := by simp [rdOf]
theorem set_at {α : Type} (pre rest : List α) (r v : α) : (pre ++ r :: rest).set (((pre.length : Nat) : Int)).toNat v = (pre ++ [v]) ++ rest := by simp
theorem w64 {x : Int} (h0 : -9223372036854775808 ≤ x) (h1 : x ≤ 9223372036854775807) : wrap64 x = x := by unfold wrap64; omega
theorem len_snoc {α : Type} (pre : List α) (v : α) : (((pre ++ [v]).length : Nat) : Int) = ((pre.length : Nat) : Int) + 1 := by simp
def marks {α : Type} (M : Int → α) : Int → Nat → List α
  | _, 0 => []
  | k, n + 1 => M k :: marks M (k + 1) n
theorem marks_length {α : Type} (M : Int → α) : ∀ (n : Nat) (k : Int), (marks M k n).length = n
  | 0, _ => rfl
  | n + 1, k => by simp [marks, marks_length M n]

theorem toUint32S_l0 : ∀ (rest junk pre : List Int), junk.length = rest.length → (pre ++ rest).length ≤ 4611686018427387904 → Ev (fun k => laws_toUint32S.l0 k (pre ++ rest) (pre ++ junk) ((pre.length : Nat) : Int)) (pre ++ rest)
  | [], junk, pre, hj, hl => by
    obtain rfl : junk = [] := List.eq_nil_of_length_eq_zero hj
    exact ⟨1, fun k hk => by obtain ⟨k, rfl⟩ : ∃ m, k = m + 1 := ⟨k - 1, by omega⟩; simp only [laws_toUint32S.l0]; rw [if_neg (by simp)]⟩
  | r :: rest, [], pre, hj, hl => by simp at hj
  | r :: rest, j :: junk, pre, hj, hl => by
    have hlen : (pre ++ r :: rest).length = pre.length + (rest.length + 1) := by simp
    have hlen2 : (pre ++ j :: junk).length = pre.length + (junk.length + 1) := by simp
    have h := toUint32S_l0 rest junk (pre ++ [r]) (by simpa using hj) (by simpa using hl)
    rw [len_snoc, List.append_assoc, List.singleton_append] at h
    refine Ev.step (fun k => ?_) h
    simp only [laws_toUint32S.l0]
    rw [if_pos (by rw [hlen]; omega), if_pos (by omega), if_pos (by rw [hlen2]; omega), set_at, rd_at, w64 (by omega) (by omega)]
theorem toUint32S_ev (l : List Int) (h : l.length ≤ 1048576) : Ev (fun k => laws_toUint32S.f k l) l := by
  have h1 := toUint32S_l0 l (List.replicate l.length 0) [] (by simp) (by simp; omega)
  refine Ev.congr (fun k => ?_) h1
  simp only [laws_toUint32S.f]
  rw [if_pos (by omega), if_pos (by simp; omega)]
  simp

theorem eqUint32S_l0 : ∀ (rest pre : List Int), (pre ++ rest).length ≤ 4611686018427387904 → Ev (fun k => laws_eqUint32S.l0 k (pre ++ rest) (pre ++ rest) ((pre.length : Nat) : Int)) true
  | [], pre, hl => ⟨1, fun k hk => by obtain ⟨k, rfl⟩ : ∃ m, k = m + 1 := ⟨k - 1, by omega⟩; simp only [laws_eqUint32S.l0]; rw [if_neg (by simp)]⟩
  | r :: rest, pre, hl => by
    have hlen : (pre ++ r :: rest).length = pre.length + (rest.length + 1) := by simp
    have h := eqUint32S_l0 rest (pre ++ [r]) (by simpa using hl)
    rw [len_snoc, List.append_assoc, List.singleton_append] at h
    refine Ev.step (fun k => ?_) h
    simp only [laws_eqUint32S.l0]
    rw [if_pos (by rw [hlen]; omega), if_pos (by omega), if_pos (by rw [hlen]; omega), if_pos trivial, w64 (by omega) (by omega)]
theorem eqUint32S_ev (l : List Int) (h : l.length ≤ 4611686018427387904) : Ev (fun k => laws_eqUint32S.f k l l) true := by
  have h1 := eqUint32S_l0 l [] (by simpa using h)
  refine Ev.congr (fun k => ?_) h1
  simp only [laws_eqUint32S.f]
  rw [if_pos trivial]
  rfl

/-! ### Big's helpers -/
theorem szBig_big (a : Bool) (l : List Int) (z : Int) (hz0 : 0 ≤ z) (hz1 : z ≤ 1048576) (hl : l.length ≤ 9223372036854775807) :
    laws_szBig.f a l z = some (if z < l.length then -1 else z - l.length) := by
  unfold laws_szBig.f laws_szUint32S.f
  rw [w64 (by omega) (by omega)]
  by_cases h : z < (l.length : Int)
  · rw [if_pos (by omega), if_pos h]; rfl
  · rw [if_neg (by omega), if_neg h]; simp only [Option.bind_some]; rw [if_neg (by omega)]
theorem toBig_ev (a : Bool) (l : List Int) (h : l.length ≤ 1048576) : Ev (fun k => laws_toBig.f k a l) (a, l) :=
  ev_bindc (toUint32S_ev l h) rfl
theorem eqBig_ev (a : Bool) (l : List Int) (h : l.length ≤ 4611686018427387904) : Ev (fun k => laws_eqBig.f k a l a l) true := by
  refine Ev.congr (fun k => ?_) (ev_bindc (f := fun t => if t = true then some true else some false) (eqUint32S_ev l h) rfl)
  simp only [laws_eqBig.f]
  rw [if_neg (by simp)]

theorem BigValid_same (a : Bool) (l : List Int) (h : l.length ≤ 1048576) : ∃ b, spec_BigValid.f a l = some b ∧ impl_BigValid.f a l = some b := by
  unfold spec_BigValid.f impl_BigValid.f
  by_cases h0 : (l.length : Int) = 0
  · rw [if_pos h0, if_pos h0]
    cases a
    · exact ⟨true, rfl, by simp⟩
    · exact ⟨false, rfl, by simp [h0]⟩
  · rw [if_neg h0, if_neg h0, if_pos (show (l.length : Int) > 0 by omega)]
    by_cases h1 : (l.length : Int) ≤ 512
    · rw [if_pos h1, w64 (by omega) (by omega), if_pos (by omega), if_pos (by omega)]
      exact ⟨_, rfl, rfl⟩
    · rw [if_neg h1]
      exact ⟨_, rfl, rfl⟩
theorem FnExactBigValid : laws_FnExactBigValid.Pure := by
  rintro ⟨a, l⟩ ⟨_, hl, _⟩
  dsimp only at hl ⊢
  refine Ev.rounds ?_
  unfold laws_FnExactBigValid.f
  rw [szBig_big a l 1048576 (by omega) (by omega) hl]
  simp only [Option.bind_some]
  by_cases h : 1048576 < (l.length : Int)
  · rw [if_pos h]
    exact ev_const rfl
  · rw [if_neg h]
    have hb : l.length ≤ 1048576 := by omega
    obtain ⟨b, hs, hi⟩ := BigValid_same a l hb
    simp only [show ¬ (1048576 - (l.length : Int) < 0) from by omega, if_false]
    refine Ev.bind (toBig_ev a l hb) ?_
    dsimp only
    rw [hs]
    simp only [Option.bind_some]
    refine Ev.bind (toBig_ev a l hb) ?_
    dsimp only
    rw [hi]
    simp only [Option.bind_some, bne_self_eq_false, Bool.false_eq_true, if_false]
    refine Ev.bind (toBig_ev a l hb) ?_
    exact ev_bindc (eqBig_ev a l (by omega)) rfl

end Go.Proofs.Ytcpdeenhjodmfaa.Pure
