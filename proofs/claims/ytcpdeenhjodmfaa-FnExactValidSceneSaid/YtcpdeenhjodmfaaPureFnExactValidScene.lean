/- The plain law behind FnExactValidSceneSaid: the pure functions that the program's Go functions come to answer as the statement says, for every input that the row lets in. -/
import Derived.Test.YtcpdeenhjodmfaaQValidSceneO
namespace Go.Proofs.Ytcpdeenhjodmfaa.Pure
open Go.RowKit Go.Proofs.Ytcpdeenhjodmfaa.QValidScene Go.Proofs.YtcpdeenhjodmfaaW.PrintWords Go.Proofs.YtcpdeenhjodmfaaW.PrintLast Go.Proofs.YtcpdeenhjodmfaaW.PrintMore
set_option linter.unusedVariables false
set_option linter.unusedSimpArgs false
/-! ### rounds, and lists by index -/
theorem ev_const {α : Type} {a : Option α} {r : α} (h : a = some r) : Ev (fun _ => a) r := ⟨0, fun _ _ => h⟩
theorem ev_bindc {α β : Type} {g : Nat → Option α} {f : α → Option β} {a : α} {r : β} (h : Ev g a) (k : f a = some r) : Ev (fun n => (g n).bind f) r :=
  Ev.bind (f := fun _ => f) h (ev_const k)
theorem ev_cbind {α β : Type} {g : Option α} {f : Nat → α → Option β} {a : α} {r : β} (h : g = some a) (k : Ev (fun n => f n a) r) : Ev (fun n => g.bind (f n)) r :=
  Ev.bind (g := fun _ => g) (ev_const h) k
theorem rd_nat (xs : List Int) (i : Nat) : rd xs (i : Int) = xs.getD i 0 := by simp [rd]
theorem rd_at (pre rest : List Int) (r : Int) : rd (pre ++ r :: rest) ((pre.length : Nat) : Int) = r := by simp [rd]
theorem rdb_at (pre rest : List Bool) (r : Bool) : rdOf false (pre ++ r :: rest) ((pre.length : Nat) : Int) = r := by simp [rdOf]
theorem set_at {α : Type} (pre rest : List α) (r v : α) : (pre ++ r :: rest).set (((pre.length : Nat) : Int)).toNat v = (pre ++ [v]) ++ rest := by simp
theorem w64 {x : Int} (h0 : -9223372036854775808 ≤ x) (h1 : x ≤ 9223372036854775807) : wrap64 x = x := by unfold wrap64; omega
theorem len_snoc {α : Type} (pre : List α) (v : α) : (((pre ++ [v]).length : Nat) : Int) = ((pre.length : Nat) : Int) + 1 := by simp
def marks {α : Type} (M : Int → α) : Int → Nat → List α
  | _, 0 => []
  | k, n + 1 => M k :: marks M (k + 1) n
theorem marks_length {α : Type} (M : Int → α) : ∀ (n : Nat) (k : Int), (marks M k n).length = n
  | 0, _ => rfl
  | n + 1, k => by simp [marks, marks_length M n]

/-! ### words -/
theorem shr_eq (k : IntKind) (x : Int) (s : Nat) (h : s ≤ k.bits) : shr k x ((s : Nat) : Int) = x / 2 ^ s := by
  unfold shr
  rw [Int.toNat_natCast, Nat.min_eq_left h]
theorem shl_eq (k : IntKind) (x : Int) (s : Nat) (h : s ≤ k.bits) : shl k x ((s : Nat) : Int) = k.wrap (x * 2 ^ s) := by
  unfold shl
  rw [Int.toNat_natCast, Nat.min_eq_left h]
theorem tdn (n m : Nat) : Int.tdiv ((n : Nat) : Int) ((m : Nat) : Int) = ((n / m : Nat) : Int) := by
  rw [Int.tdiv_eq_ediv_of_nonneg (by omega)]; rfl
theorem tmn (n m : Nat) : Int.tmod ((n : Nat) : Int) ((m : Nat) : Int) = ((n % m : Nat) : Int) := by
  rw [Int.tmod_eq_emod_of_nonneg (by omega)]; rfl

/-! ### finite -/
theorem l2finite_f (x : Nat) (hx : x < 4294967296) : spec_l2finite.f (x : Int) = some (x / 8388608 % 256 != 255) := by
  unfold spec_l2finite.f
  rw [show (8388608 : Int) = ((8388608 : Nat) : Int) from rfl, tdn]
  congr 1
  by_cases h : x / 8388608 % 256 = 255
  · rw [bne_eq_false_iff_eq.2 h, bne_eq_false_iff_eq]; omega
  · rw [bne_iff_ne.2 h, bne_iff_ne]; omega
theorem finite_f (x : Nat) (hx : x < 4294967296) : impl_finite.f (x : Int) = some (x / 8388608 % 256 != 255) := by
  unfold impl_finite.f
  rw [if_pos (by omega)]
  congr 1
  by_cases h : x / 8388608 % 256 = 255
  · rw [bne_eq_false_iff_eq.2 h, bne_eq_false_iff_eq]; omega
  · rw [bne_iff_ne.2 h, bne_iff_ne]; omega
theorem u32_nat {a : Int} (h : (Lit.int .u32 a).wf = true) : ∃ n : Nat, a = (n : Int) ∧ n < 4294967296 := by
  have h2 : 0 ≤ a ∧ a < 4294967296 := by
    simp [Lit.wf, IntKind.min, IntKind.max, IntKind.bits, IntKind.signed] at h
    omega
  obtain ⟨n, rfl⟩ := Int.eq_ofNat_of_zero_le h2.1
  exact ⟨n, rfl, by omega⟩

/-! ### scenes -/
theorem gd_at {α : Type} (z : α) (pre rest : List α) (x : α) : (pre ++ x :: rest).getD (((pre.length : Nat) : Int)).toNat z = x := by simp
def cPoint (x : S173) : S125 := ⟨x.f0, x.f1, x.f2⟩
def cTri (x : S175) : S151 := ⟨cPoint x.f0, cPoint x.f1, cPoint x.f2⟩
def cRay (x : S178) : S127 := ⟨cPoint x.f0, cPoint x.f1⟩
theorem toTriS_l0 : ∀ (rest pre : List S175) (o : List S151), o.length = pre.length → (pre ++ rest).length ≤ 1048576 →
    Ev (fun k => laws_toTriS.l0 k (pre ++ rest) (o ++ List.replicate rest.length z151) ((pre.length : Nat) : Int)) (o ++ rest.map cTri)
  | [], pre, o, ho, hl => ⟨1, fun k hk => by
    obtain ⟨k, rfl⟩ : ∃ m, k = m + 1 := ⟨k - 1, by omega⟩
    simp only [laws_toTriS.l0]
    rw [if_neg (by simp)]
    simp⟩
  | x :: rest, pre, o, ho, hl => by
    have hlen : (pre ++ x :: rest).length = pre.length + (rest.length + 1) := by simp
    have ih := toTriS_l0 rest (pre ++ [x]) (o ++ [cTri x]) (by simp [ho]) (by simpa using hl)
    have hrd : rd_T175 (pre ++ x :: rest) ((pre.length : Nat) : Int) = x := gd_at z175 pre rest x
    have hset := set_at o (List.replicate rest.length z151) z151 (cTri x)
    rw [ho] at hset
    rw [List.append_assoc, List.singleton_append] at ih
    refine Ev.step (fun k => ?_) (by simpa using ih)
    simp only [laws_toTriS.l0]
    rw [if_pos (by rw [hlen]; omega), if_pos (by omega), hrd]
    rw [show (x :: rest).length = rest.length + 1 from rfl, List.replicate_succ]
    have hb : ((pre.length : Nat) : Int) < ((o ++ z151 :: List.replicate rest.length z151).length : Int) := by simp; omega
    simp only [laws_toPoint.f, laws_toTri.f, Option.bind_some]
    rw [if_pos hb]
    have e : wrap64 (((pre.length : Nat) : Int) + 1) = ((pre.length : Nat) : Int) + 1 := w64 (by omega) (by omega)
    rw [e]
    have hs2 := hset
    unfold cTri cPoint at hs2
    rw [hs2]
    simp [cTri, cPoint]
theorem toTriS_ev (l : List S175) (hl : l.length ≤ 1048576) : Ev (fun k => laws_toTriS.f k l) (l.map cTri) := by
  have h := toTriS_l0 l [] [] rfl (by simpa using hl)
  refine Ev.congr (fun k => ?_) (by simpa using h)
  unfold laws_toTriS.f
  rw [if_pos (by omega), if_pos (by omega), Int.toNat_natCast]
theorem eqTriS_l0 : ∀ (rest pre : List S151), (pre ++ rest).length ≤ 1048576 → Ev (fun k => laws_eqTriS.l0 k (pre ++ rest) (pre ++ rest) ((pre.length : Nat) : Int)) true
  | [], pre, hl => ⟨1, fun k hk => by
    obtain ⟨k, rfl⟩ : ∃ m, k = m + 1 := ⟨k - 1, by omega⟩
    simp only [laws_eqTriS.l0]
    rw [if_neg (by simp)]⟩
  | x :: rest, pre, hl => by
    have hlen : (pre ++ x :: rest).length = pre.length + (rest.length + 1) := by simp
    have ih := eqTriS_l0 rest (pre ++ [x]) (by simpa using hl)
    have hrd : rd_T151 (pre ++ x :: rest) ((pre.length : Nat) : Int) = x := gd_at z151 pre rest x
    rw [List.append_assoc, List.singleton_append, len_snoc] at ih
    refine Ev.step (fun k => ?_) ih
    simp only [laws_eqTriS.l0]
    rw [if_pos (by rw [hlen]; omega), if_pos (by omega), if_pos (by rw [hlen]; omega), hrd, w64 (by omega) (by omega)]
    simp [laws_eqPoint.f, laws_eqTri.f]
theorem eqTriS_ev (l : List S151) (hl : l.length ≤ 1048576) : Ev (fun k => laws_eqTriS.f k l l) true := by
  have h := eqTriS_l0 l [] (by simpa using hl)
  refine Ev.congr (fun k => ?_) (by simpa using h)
  unfold laws_eqTriS.f
  rw [if_pos rfl]
theorem toRayS_l0 : ∀ (rest pre : List S178) (o : List S127), o.length = pre.length → (pre ++ rest).length ≤ 1048576 →
    Ev (fun k => laws_toRayS.l0 k (pre ++ rest) (o ++ List.replicate rest.length z127) ((pre.length : Nat) : Int)) (o ++ rest.map cRay)
  | [], pre, o, ho, hl => ⟨1, fun k hk => by
    obtain ⟨k, rfl⟩ : ∃ m, k = m + 1 := ⟨k - 1, by omega⟩
    simp only [laws_toRayS.l0]
    rw [if_neg (by simp)]
    simp⟩
  | x :: rest, pre, o, ho, hl => by
    have hlen : (pre ++ x :: rest).length = pre.length + (rest.length + 1) := by simp
    have ih := toRayS_l0 rest (pre ++ [x]) (o ++ [cRay x]) (by simp [ho]) (by simpa using hl)
    have hrd : rd_T178 (pre ++ x :: rest) ((pre.length : Nat) : Int) = x := gd_at z178 pre rest x
    have hset := set_at o (List.replicate rest.length z127) z127 (cRay x)
    rw [ho] at hset
    rw [List.append_assoc, List.singleton_append] at ih
    refine Ev.step (fun k => ?_) (by simpa using ih)
    simp only [laws_toRayS.l0]
    rw [if_pos (by rw [hlen]; omega), if_pos (by omega), hrd]
    rw [show (x :: rest).length = rest.length + 1 from rfl, List.replicate_succ]
    have hb : ((pre.length : Nat) : Int) < ((o ++ z127 :: List.replicate rest.length z127).length : Int) := by simp; omega
    simp only [laws_toPoint.f, laws_toRay.f, Option.bind_some]
    rw [if_pos hb]
    have e : wrap64 (((pre.length : Nat) : Int) + 1) = ((pre.length : Nat) : Int) + 1 := w64 (by omega) (by omega)
    rw [e]
    have hs2 := hset
    unfold cRay cPoint at hs2
    rw [hs2]
    simp [cRay, cPoint]
theorem toRayS_ev (l : List S178) (hl : l.length ≤ 1048576) : Ev (fun k => laws_toRayS.f k l) (l.map cRay) := by
  have h := toRayS_l0 l [] [] rfl (by simpa using hl)
  refine Ev.congr (fun k => ?_) (by simpa using h)
  unfold laws_toRayS.f
  rw [if_pos (by omega), if_pos (by omega), Int.toNat_natCast]
theorem eqRayS_l0 : ∀ (rest pre : List S127), (pre ++ rest).length ≤ 1048576 → Ev (fun k => laws_eqRayS.l0 k (pre ++ rest) (pre ++ rest) ((pre.length : Nat) : Int)) true
  | [], pre, hl => ⟨1, fun k hk => by
    obtain ⟨k, rfl⟩ : ∃ m, k = m + 1 := ⟨k - 1, by omega⟩
    simp only [laws_eqRayS.l0]
    rw [if_neg (by simp)]⟩
  | x :: rest, pre, hl => by
    have hlen : (pre ++ x :: rest).length = pre.length + (rest.length + 1) := by simp
    have ih := eqRayS_l0 rest (pre ++ [x]) (by simpa using hl)
    have hrd : rd_T127 (pre ++ x :: rest) ((pre.length : Nat) : Int) = x := gd_at z127 pre rest x
    rw [List.append_assoc, List.singleton_append, len_snoc] at ih
    refine Ev.step (fun k => ?_) ih
    simp only [laws_eqRayS.l0]
    rw [if_pos (by rw [hlen]; omega), if_pos (by omega), if_pos (by rw [hlen]; omega), hrd, w64 (by omega) (by omega)]
    simp [laws_eqPoint.f, laws_eqRay.f]
theorem eqRayS_ev (l : List S127) (hl : l.length ≤ 1048576) : Ev (fun k => laws_eqRayS.f k l l) true := by
  have h := eqRayS_l0 l [] (by simpa using hl)
  refine Ev.congr (fun k => ?_) (by simpa using h)
  unfold laws_eqRayS.f
  rw [if_pos rfl]
theorem toPointS_l0 : ∀ (rest pre : List S173) (o : List S125), o.length = pre.length → (pre ++ rest).length ≤ 1048576 →
    Ev (fun k => laws_toPointS.l0 k (pre ++ rest) (o ++ List.replicate rest.length z125) ((pre.length : Nat) : Int)) (o ++ rest.map cPoint)
  | [], pre, o, ho, hl => ⟨1, fun k hk => by
    obtain ⟨k, rfl⟩ : ∃ m, k = m + 1 := ⟨k - 1, by omega⟩
    simp only [laws_toPointS.l0]
    rw [if_neg (by simp)]
    simp⟩
  | x :: rest, pre, o, ho, hl => by
    have hlen : (pre ++ x :: rest).length = pre.length + (rest.length + 1) := by simp
    have ih := toPointS_l0 rest (pre ++ [x]) (o ++ [cPoint x]) (by simp [ho]) (by simpa using hl)
    have hrd : rd_T173 (pre ++ x :: rest) ((pre.length : Nat) : Int) = x := gd_at z173 pre rest x
    have hset := set_at o (List.replicate rest.length z125) z125 (cPoint x)
    rw [ho] at hset
    rw [List.append_assoc, List.singleton_append] at ih
    refine Ev.step (fun k => ?_) (by simpa using ih)
    simp only [laws_toPointS.l0]
    rw [if_pos (by rw [hlen]; omega), if_pos (by omega), hrd]
    rw [show (x :: rest).length = rest.length + 1 from rfl, List.replicate_succ]
    have hb : ((pre.length : Nat) : Int) < ((o ++ z125 :: List.replicate rest.length z125).length : Int) := by simp; omega
    simp only [laws_toPoint.f, Option.bind_some]
    rw [if_pos hb]
    have e : wrap64 (((pre.length : Nat) : Int) + 1) = ((pre.length : Nat) : Int) + 1 := w64 (by omega) (by omega)
    rw [e]
    have hs2 := hset
    unfold cPoint at hs2
    rw [hs2]
    simp [cPoint]
theorem toPointS_ev (l : List S173) (hl : l.length ≤ 1048576) : Ev (fun k => laws_toPointS.f k l) (l.map cPoint) := by
  have h := toPointS_l0 l [] [] rfl (by simpa using hl)
  refine Ev.congr (fun k => ?_) (by simpa using h)
  unfold laws_toPointS.f
  rw [if_pos (by omega), if_pos (by omega), Int.toNat_natCast]
theorem eqPointS_l0 : ∀ (rest pre : List S125), (pre ++ rest).length ≤ 1048576 → Ev (fun k => laws_eqPointS.l0 k (pre ++ rest) (pre ++ rest) ((pre.length : Nat) : Int)) true
  | [], pre, hl => ⟨1, fun k hk => by
    obtain ⟨k, rfl⟩ : ∃ m, k = m + 1 := ⟨k - 1, by omega⟩
    simp only [laws_eqPointS.l0]
    rw [if_neg (by simp)]⟩
  | x :: rest, pre, hl => by
    have hlen : (pre ++ x :: rest).length = pre.length + (rest.length + 1) := by simp
    have ih := eqPointS_l0 rest (pre ++ [x]) (by simpa using hl)
    have hrd : rd_T125 (pre ++ x :: rest) ((pre.length : Nat) : Int) = x := gd_at z125 pre rest x
    rw [List.append_assoc, List.singleton_append, len_snoc] at ih
    refine Ev.step (fun k => ?_) ih
    simp only [laws_eqPointS.l0]
    rw [if_pos (by rw [hlen]; omega), if_pos (by omega), if_pos (by rw [hlen]; omega), hrd, w64 (by omega) (by omega)]
    simp [laws_eqPoint.f]
theorem eqPointS_ev (l : List S125) (hl : l.length ≤ 1048576) : Ev (fun k => laws_eqPointS.f k l l) true := by
  have h := eqPointS_l0 l [] (by simpa using hl)
  refine Ev.congr (fun k => ?_) (by simpa using h)
  unfold laws_eqPointS.f
  rw [if_pos rfl]

/-! ### both checks of a scene -/
def fin1 (a : Int) : Bool := a / 8388608 % 256 != 255
def U32 (a : Int) : Prop := 0 ≤ a ∧ a < 4294967296
theorem spec_fin {a : Int} (h : U32 a) : spec_l2finite.f a = some (fin1 a) := by
  obtain ⟨n, rfl⟩ := Int.eq_ofNat_of_zero_le h.1
  rw [l2finite_f n (by have := h.2; omega)]
  unfold fin1
  congr 1
  by_cases k : n / 8388608 % 256 = 255
  · rw [bne_eq_false_iff_eq.2 k, eq_comm, bne_eq_false_iff_eq]; omega
  · rw [bne_iff_ne.2 k, eq_comm, bne_iff_ne]; omega
theorem impl_fin {a : Int} (h : U32 a) : impl_finite.f a = some (fin1 a) := by
  unfold impl_finite.f
  rw [if_pos (show 0 ≤ a ∧ a < 4294967296 from h)]
  rfl
def finP (p : S125) : Bool := fin1 p.f0 && fin1 p.f1 && fin1 p.f2
structure UP (p : S125) : Prop where
  x : U32 p.f0
  y : U32 p.f1
  z : U32 p.f2
theorem spec_finP {p : S125} (h : UP p) : spec_l3finite.f p.f0 p.f1 p.f2 = some (finP p) := by
  unfold spec_l3finite.f finP
  rw [spec_fin h.x, spec_fin h.y, spec_fin h.z]
  simp only [Option.bind_some]
  cases fin1 p.f0 <;> cases fin1 p.f1 <;> rfl
theorem impl_finP {p : S125} (h : UP p) : impl_finitePoint.f p.f0 p.f1 p.f2 = some (finP p) := by
  unfold impl_finitePoint.f finP
  rw [impl_fin h.x, impl_fin h.y, impl_fin h.z]
  simp only [Option.bind_some]
  cases fin1 p.f0 <;> cases fin1 p.f1 <;> rfl
theorem finitePoints_l0 : ∀ (rest pre : List S125), (∀ p ∈ rest, UP p) → (pre ++ rest).length ≤ 1048576 → Ev (fun k => impl_finitePoints.l0 k (pre ++ rest) (((pre ++ rest).length : Nat) : Int) ((pre.length : Nat) : Int)) (rest.all finP)
  | [], pre, hu, hl => ⟨1, fun k hk => by
    obtain ⟨k, rfl⟩ : ∃ m, k = m + 1 := ⟨k - 1, by omega⟩
    simp only [impl_finitePoints.l0]
    rw [if_neg (by simp)]
    rfl⟩
  | x :: rest, pre, hu, hl => by
    have hlen : (pre ++ x :: rest).length = pre.length + (rest.length + 1) := by simp
    have ih := finitePoints_l0 rest (pre ++ [x]) (fun p hp => hu p (by simp [hp])) (by simpa using hl)
    have hrd : rd_T125 (pre ++ x :: rest) ((pre.length : Nat) : Int) = x := gd_at z125 pre rest x
    rw [List.append_assoc, List.singleton_append, len_snoc] at ih
    have hx := impl_finP (hu x (by simp))
    cases hf : finP x with
    | true =>
      have : (x :: rest).all finP = rest.all finP := by simp [hf]
      rw [this]
      refine Ev.step (fun k => ?_) ih
      simp only [impl_finitePoints.l0]
      rw [if_pos (by rw [hlen]; omega), if_pos (by omega), if_pos (by rw [hlen]; omega), hrd, hx, hf, w64 (by omega) (by omega)]
      rfl
    | false =>
      have : (x :: rest).all finP = false := by simp [hf]
      rw [this]
      exact ⟨1, fun k hk => by
        obtain ⟨k, rfl⟩ : ∃ m, k = m + 1 := ⟨k - 1, by omega⟩
        simp only [impl_finitePoints.l0]
        rw [if_pos (by rw [hlen]; omega), if_pos (by omega), if_pos (by rw [hlen]; omega), hrd, hx, hf]
        rfl⟩
theorem finitePoints_ev (l : List S125) (hu : ∀ p ∈ l, UP p) (hl : l.length ≤ 1048576) : Ev (fun k => impl_finitePoints.f k l) (l.all finP) := by
  have h := finitePoints_l0 l [] hu (by simpa using hl)
  have h2 : Ev (fun k => impl_finitePoints.l0 k l (l.length : Int) 0) (l.all finP) := by simpa using h
  exact Ev.congr (fun k => rfl) h2
def finT (t : S151) : Bool := finP t.f0 && finP t.f1 && finP t.f2
structure UT (t : S151) : Prop where
  a : UP t.f0
  b : UP t.f1
  c : UP t.f2
theorem spec_finT {t : S151} (h : UT t) : spec_l3triOK.f t.f0.f0 t.f0.f1 t.f0.f2 t.f1.f0 t.f1.f1 t.f1.f2 t.f2.f0 t.f2.f1 t.f2.f2 = some (finT t) := by
  unfold spec_l3triOK.f finT
  rw [spec_finP h.a, spec_finP h.b, spec_finP h.c]
  simp only [Option.bind_some]
  cases finP t.f0 <;> cases finP t.f1 <;> rfl
theorem impl_finT {t : S151} (h : UT t) : Ev (fun k => impl_Tri_finite.f k t.f0.f0 t.f0.f1 t.f0.f2 t.f1.f0 t.f1.f1 t.f1.f2 t.f2.f0 t.f2.f1 t.f2.f2) (finT t) := by
  have h1 := finitePoints_ev [t.f0, t.f1, t.f2] (fun p hp => by
    simp at hp
    rcases hp with rfl | rfl | rfl
    · exact h.a
    · exact h.b
    · exact h.c) (by simp)
  unfold impl_Tri_finite.f
  refine ev_bindc h1 ?_
  simp [finT, Bool.and_assoc]
def zero1 (a : Int) : Bool := a % 2147483648 == 0
theorem spec_zero {a : Int} (h : U32 a) : spec_l3isZero.f a = some (zero1 a) := by
  unfold spec_l3isZero.f zero1
  rw [Int.tmod_eq_emod_of_nonneg h.1]
def zeroP (p : S125) : Bool := zero1 p.f0 && zero1 p.f1 && zero1 p.f2
theorem spec_zeroP {p : S125} (h : UP p) : spec_l3noWay.f p.f0 p.f1 p.f2 = some (zeroP p) := by
  unfold spec_l3noWay.f zeroP
  rw [spec_zero h.x, spec_zero h.y, spec_zero h.z]
  simp only [Option.bind_some]
  cases zero1 p.f0 <;> cases zero1 p.f1 <;> rfl
theorem bor32 (x y : Nat) (hx : x < 4294967296) (hy : y < 4294967296) : Go.bits .or .u32 ((x : Nat) : Int) ((y : Nat) : Int) = ((x ||| y : Nat) : Int) := by
  have h : x ||| y < 4294967296 := Nat.or_lt_two_pow (n := 32) hx hy
  show IntKind.u32.wrap (((BitVec.ofInt 32 ((x : Nat) : Int) ||| BitVec.ofInt 32 ((y : Nat) : Int)).toNat : Nat) : Int) = _
  rw [BitVec.toNat_or, BitVec.ofInt_natCast, BitVec.ofInt_natCast, BitVec.toNat_ofNat, BitVec.toNat_ofNat, Nat.mod_eq_of_lt (a := x) (by omega), Nat.mod_eq_of_lt (a := y) (by omega)]
  have h2 : ∀ z : Int, IntKind.u32.wrap z = z % 4294967296 := fun z => by simp [IntKind.wrap, IntKind.bits, IntKind.signed]
  rw [h2]
  omega
theorem impl_zeroP {p : S125} (h : UP p) : impl_Point_zero.f p.f0 p.f1 p.f2 = some (zeroP p) := by
  obtain ⟨⟨x0, x1⟩, ⟨y0, y1⟩, ⟨z0, z1⟩⟩ := h
  unfold impl_Point_zero.f zeroP zero1
  obtain ⟨x, hx⟩ := Int.eq_ofNat_of_zero_le x0
  obtain ⟨y, hy⟩ := Int.eq_ofNat_of_zero_le y0
  obtain ⟨z, hz⟩ := Int.eq_ofNat_of_zero_le z0
  have hx4 : x < 4294967296 := by omega
  have hy4 : y < 4294967296 := by omega
  have hz4 : z < 4294967296 := by omega
  rw [hx, hy, hz]
  rw [bor32 x y hx4 hy4, bor32 (x ||| y) z (Nat.or_lt_two_pow (n := 32) hx4 hy4) hz4]
  congr 1
  have hm : (x ||| y ||| z) % 2147483648 = x % 2147483648 ||| y % 2147483648 ||| z % 2147483648 := by
    rw [show 2147483648 = 2 ^ 31 from by decide, Nat.or_mod_two_pow, Nat.or_mod_two_pow]
  have hz1 : ((x ||| y ||| z) % 2147483648 = 0) ↔ (x % 2147483648 = 0 ∧ y % 2147483648 = 0 ∧ z % 2147483648 = 0) := by
    rw [hm, Nat.or_eq_zero_iff, Nat.or_eq_zero_iff, and_assoc]
  generalize x ||| y ||| z = v at hz1 ⊢
  rw [Bool.eq_iff_iff]
  simp only [Bool.and_eq_true, beq_iff_eq]
  omega
def okR (r : S127) : Bool := finP r.f0 && finP r.f1 && !zeroP r.f1
structure UR (r : S127) : Prop where
  a : UP r.f0
  b : UP r.f1
theorem spec_okR {r : S127} (h : UR r) : spec_l3rayOK.f r.f0.f0 r.f0.f1 r.f0.f2 r.f1.f0 r.f1.f1 r.f1.f2 = some (okR r) := by
  unfold spec_l3rayOK.f okR
  rw [spec_finP h.a, spec_finP h.b, spec_zeroP h.b]
  simp only [Option.bind_some]
  cases finP r.f0 <;> cases finP r.f1 <;> rfl
theorem impl_okR {r : S127} (h : UR r) : Ev (fun k => impl_Ray_proper.f k r.f0.f0 r.f0.f1 r.f0.f2 r.f1.f0 r.f1.f1 r.f1.f2) (okR r) := by
  have h1 := finitePoints_ev [r.f0, r.f1] (fun p hp => by
    simp at hp
    rcases hp with rfl | rfl
    · exact h.a
    · exact h.b) (by simp)
  unfold impl_Ray_proper.f
  refine ev_bindc h1 ?_
  rw [impl_zeroP h.b]
  simp only [Option.bind_some, okR, List.all_cons, List.all_nil, Bool.and_true]
  cases finP r.f0 <;> cases finP r.f1 <;> rfl
theorem trisOK_l0 : ∀ (rest pre : List S151), (∀ p ∈ rest, UT p) → (pre ++ rest).length ≤ 1048576 → Ev (fun k => spec_l5trisOK.l0 k (pre ++ rest) ((pre.length : Nat) : Int)) (rest.all finT)
  | [], pre, hu, hl => ⟨1, fun k hk => by
    obtain ⟨k, rfl⟩ : ∃ m, k = m + 1 := ⟨k - 1, by omega⟩
    simp only [spec_l5trisOK.l0]
    rw [if_neg (by simp)]
    rfl⟩
  | x :: rest, pre, hu, hl => by
    have hlen : (pre ++ x :: rest).length = pre.length + (rest.length + 1) := by simp
    have ih := trisOK_l0 rest (pre ++ [x]) (fun p hp => hu p (by simp [hp])) (by simpa using hl)
    have hrd : rd_T151 (pre ++ x :: rest) ((pre.length : Nat) : Int) = x := gd_at z151 pre rest x
    rw [List.append_assoc, List.singleton_append, len_snoc] at ih
    have hx := spec_finT (hu x (by simp))
    cases hf : finT x with
    | true =>
      have : (x :: rest).all finT = rest.all finT := by simp [hf]
      rw [this]
      refine Ev.step (fun k => ?_) ih
      simp only [spec_l5trisOK.l0]
      rw [if_pos (by rw [hlen]; omega), if_pos (by omega), hrd, hx, hf, w64 (by omega) (by omega)]
      rfl
    | false =>
      have : (x :: rest).all finT = false := by simp [hf]
      rw [this]
      exact ⟨1, fun k hk => by
        obtain ⟨k, rfl⟩ : ∃ m, k = m + 1 := ⟨k - 1, by omega⟩
        simp only [spec_l5trisOK.l0]
        rw [if_pos (by rw [hlen]; omega), if_pos (by omega), hrd, hx, hf]
        rfl⟩
theorem goodTris_l0 : ∀ (rest pre : List S151), (∀ p ∈ rest, UT p) → (pre ++ rest).length ≤ 1048576 → Ev (fun k => impl_goodTris.l0 k (pre ++ rest) (((pre ++ rest).length : Nat) : Int) ((pre.length : Nat) : Int)) (rest.all finT)
  | [], pre, hu, hl => ⟨1, fun k hk => by
    obtain ⟨k, rfl⟩ : ∃ m, k = m + 1 := ⟨k - 1, by omega⟩
    simp only [impl_goodTris.l0]
    rw [if_neg (by simp)]
    rfl⟩
  | x :: rest, pre, hu, hl => by
    have hlen : (pre ++ x :: rest).length = pre.length + (rest.length + 1) := by simp
    have ih := goodTris_l0 rest (pre ++ [x]) (fun p hp => hu p (by simp [hp])) (by simpa using hl)
    have hrd : rd_T151 (pre ++ x :: rest) ((pre.length : Nat) : Int) = x := gd_at z151 pre rest x
    rw [List.append_assoc, List.singleton_append, len_snoc] at ih
    have hx := impl_finT (hu x (by simp))
    cases hf : finT x with
    | true =>
      have : (x :: rest).all finT = rest.all finT := by simp [hf]
      rw [this]
      rw [hf] at hx
      refine Ev.step (f := fun k => (impl_Tri_finite.f k x.f0.f0 x.f0.f1 x.f0.f2 x.f1.f0 x.f1.f1 x.f1.f2 x.f2.f0 x.f2.f1 x.f2.f2).bind fun t => if t = true then impl_goodTris.l0 k (pre ++ x :: rest) (((pre ++ x :: rest).length : Nat) : Int) (((pre.length : Nat) : Int) + 1) else some false) (fun k => ?_) (Ev.bind hx (by simpa using ih))
      simp only [impl_goodTris.l0]
      rw [if_pos (by rw [hlen]; omega), if_pos (by omega), if_pos (by rw [hlen]; omega), hrd, w64 (by omega) (by omega)]
    | false =>
      have : (x :: rest).all finT = false := by simp [hf]
      rw [this]
      rw [hf] at hx
      refine Ev.step (f := fun k => (impl_Tri_finite.f k x.f0.f0 x.f0.f1 x.f0.f2 x.f1.f0 x.f1.f1 x.f1.f2 x.f2.f0 x.f2.f1 x.f2.f2).bind fun t => if t = true then impl_goodTris.l0 k (pre ++ x :: rest) (((pre ++ x :: rest).length : Nat) : Int) (((pre.length : Nat) : Int) + 1) else some false) (fun k => ?_) (Ev.bind hx (by simpa using ev_const rfl))
      simp only [impl_goodTris.l0]
      rw [if_pos (by rw [hlen]; omega), if_pos (by omega), if_pos (by rw [hlen]; omega), hrd, w64 (by omega) (by omega)]
def validS (ts : List S151) (rs : List S127) (ps : List S125) : Bool := decide (ts.length ≤ 40) && ts.all finT && decide (rs.length ≤ 40) && decide (ps.length ≤ 4) && rs.all okR && ps.all finP
theorem spec_pts : ∀ (rest pre : List S125) (ts : List S151) (rs : List S127), (∀ p ∈ rest, UP p) → (pre ++ rest).length ≤ 1048576 → Ev (fun k => spec_ValidScene.l1 k ((pre.length : Nat) : Int) ts rs (pre ++ rest)) (rest.all finP)
  | [], pre, ts, rs, hu, hl => ⟨1, fun k hk => by
    obtain ⟨k, rfl⟩ : ∃ m, k = m + 1 := ⟨k - 1, by omega⟩
    simp only [spec_ValidScene.l1]
    rw [if_neg (by simp)]
    rfl⟩
  | x :: rest, pre, ts, rs, hu, hl => by
    have hlen : (pre ++ x :: rest).length = pre.length + (rest.length + 1) := by simp
    have ih := spec_pts rest (pre ++ [x]) ts rs (fun p hp => hu p (by simp [hp])) (by simpa using hl)
    have hrd : rd_T125 (pre ++ x :: rest) ((pre.length : Nat) : Int) = x := gd_at z125 pre rest x
    rw [List.append_assoc, List.singleton_append, len_snoc] at ih
    have hx := spec_finP (hu x (by simp))
    cases hf : finP x with
    | true =>
      have : (x :: rest).all finP = rest.all finP := by simp [hf]
      rw [this]
      refine Ev.step (fun k => ?_) ih
      simp only [spec_ValidScene.l1]
      rw [if_pos (by rw [hlen]; omega), if_pos (by omega), hrd, hx, hf, w64 (by omega) (by omega)]
      rfl
    | false =>
      have : (x :: rest).all finP = false := by simp [hf]
      rw [this]
      exact ⟨1, fun k hk => by
        obtain ⟨k, rfl⟩ : ∃ m, k = m + 1 := ⟨k - 1, by omega⟩
        simp only [spec_ValidScene.l1]
        rw [if_pos (by rw [hlen]; omega), if_pos (by omega), hrd, hx, hf]
        rfl⟩
theorem spec_rays (ts : List S151) (ps : List S125) (hp : ∀ p ∈ ps, UP p) (hlp : ps.length ≤ 1048576) : ∀ (rest pre : List S127), (∀ p ∈ rest, UR p) → (pre ++ rest).length ≤ 1048576 → Ev (fun k => spec_ValidScene.l0 k ((pre.length : Nat) : Int) ts (pre ++ rest) ps) (rest.all okR && ps.all finP)
  | [], pre, hu, hl => by
    have h := spec_pts ps [] ts (pre ++ []) hp (by simpa using hlp)
    refine Ev.step (fun k => ?_) (by simpa using h)
    simp only [spec_ValidScene.l0]
    rw [if_neg (by simp)]
    try simp
  | x :: rest, pre, hu, hl => by
    have hlen : (pre ++ x :: rest).length = pre.length + (rest.length + 1) := by simp
    have ih := spec_rays ts ps hp hlp rest (pre ++ [x]) (fun p hp => hu p (by simp [hp])) (by simpa using hl)
    have hrd : rd_T127 (pre ++ x :: rest) ((pre.length : Nat) : Int) = x := gd_at z127 pre rest x
    rw [List.append_assoc, List.singleton_append, len_snoc] at ih
    have hx := spec_okR (hu x (by simp))
    cases hf : okR x with
    | true =>
      have : (x :: rest).all okR = rest.all okR := by simp [hf]
      rw [this]
      refine Ev.step (fun k => ?_) ih
      simp only [spec_ValidScene.l0]
      rw [if_pos (by rw [hlen]; omega), if_pos (by omega), hrd, hx, hf, w64 (by omega) (by omega)]
      rfl
    | false =>
      have : ((x :: rest).all okR && ps.all finP) = false := by simp [hf]
      rw [this]
      exact ⟨1, fun k hk => by
        obtain ⟨k, rfl⟩ : ∃ m, k = m + 1 := ⟨k - 1, by omega⟩
        simp only [spec_ValidScene.l0]
        rw [if_pos (by rw [hlen]; omega), if_pos (by omega), hrd, hx, hf]
        rfl⟩
theorem impl_rays (ts : List S151) (ps : List S125) (hp : ∀ p ∈ ps, UP p) (hlp : ps.length ≤ 1048576) (rs : List S127) : ∀ (rest pre : List S127), (∀ p ∈ rest, UR p) → (pre ++ rest).length ≤ 1048576 → Ev (fun k => impl_ValidScene.l0 k (pre ++ rest) (((pre ++ rest).length : Nat) : Int) ((pre.length : Nat) : Int) ts rs ps) (rest.all okR && ps.all finP)
  | [], pre, hu, hl => by
    have h := finitePoints_ev ps hp hlp
    refine Ev.step (fun k => ?_) (ev_bindc h rfl)
    simp only [impl_ValidScene.l0]
    rw [if_neg (by simp)]
    try simp
  | x :: rest, pre, hu, hl => by
    have hlen : (pre ++ x :: rest).length = pre.length + (rest.length + 1) := by simp
    have ih := impl_rays ts ps hp hlp rs rest (pre ++ [x]) (fun p hp => hu p (by simp [hp])) (by simpa using hl)
    have hrd : rd_T127 (pre ++ x :: rest) ((pre.length : Nat) : Int) = x := gd_at z127 pre rest x
    rw [List.append_assoc, List.singleton_append, len_snoc] at ih
    have hx := impl_okR (hu x (by simp))
    have hstep : ∀ k, impl_ValidScene.l0 (k + 1) (pre ++ x :: rest) (((pre ++ x :: rest).length : Nat) : Int) ((pre.length : Nat) : Int) ts rs ps = (impl_Ray_proper.f k x.f0.f0 x.f0.f1 x.f0.f2 x.f1.f0 x.f1.f1 x.f1.f2).bind fun t => if t = true then impl_ValidScene.l0 k (pre ++ x :: rest) (((pre ++ x :: rest).length : Nat) : Int) (((pre.length : Nat) : Int) + 1) ts rs ps else some false := by
      intro k
      simp only [impl_ValidScene.l0]
      rw [if_pos (by rw [hlen]; omega), if_pos (by omega), if_pos (by rw [hlen]; omega), hrd, w64 (by omega) (by omega)]
    refine Ev.step hstep ?_
    cases hf : okR x with
    | true =>
      have : (x :: rest).all okR = rest.all okR := by simp [hf]
      rw [this]
      rw [hf] at hx
      refine Ev.bind hx ?_
      simpa using ih
    | false =>
      have : ((x :: rest).all okR && ps.all finP) = false := by simp [hf]
      rw [this]
      rw [hf] at hx
      refine Ev.bind hx ?_
      exact ev_const rfl
theorem specValid_ev (ts : List S151) (rs : List S127) (ps : List S125) (ht : ∀ p ∈ ts, UT p) (hr : ∀ p ∈ rs, UR p) (hp : ∀ p ∈ ps, UP p) (h1 : ts.length ≤ 1048576) (h2 : rs.length ≤ 1048576) (h3 : ps.length ≤ 1048576) :
    Ev (fun k => spec_ValidScene.f k ts rs ps) (validS ts rs ps) := by
  have e1 : Ev (fun k => spec_l5trisOK.f k ts) (decide (ts.length ≤ 40) && ts.all finT) := by
    unfold spec_l5trisOK.f
    by_cases h : (ts.length : Int) > 40
    · simp only [h, if_true]
      rw [decide_eq_false (by omega)]
      exact ev_const rfl
    · simp only [h, if_false]
      rw [decide_eq_true (by omega)]
      have h5 := trisOK_l0 ts [] ht (by simpa using h1)
      simpa using h5
  unfold spec_ValidScene.f validS
  refine Ev.bind e1 ?_
  cases (decide (ts.length ≤ 40) && ts.all finT) with
  | false =>
    simp only [Bool.false_eq_true, if_false, Bool.false_and]
    exact Ev.step (f := fun _ => some false) (fun k => rfl) (ev_const rfl)
  | true =>
    simp only [if_true, Bool.true_and]
    by_cases h : (rs.length : Int) > 40
    · simp only [h, if_true]
      rw [decide_eq_false (p := rs.length ≤ 40) (by omega)]
      exact Ev.step (f := fun _ => some false) (fun k => rfl) (ev_const rfl)
    · simp only [h, if_false]
      rw [decide_eq_true (p := rs.length ≤ 40) (by omega)]
      by_cases h4 : (ps.length : Int) > 4
      · rw [decide_eq_true h4, decide_eq_false (p := ps.length ≤ 4) (by omega)]
        exact Ev.step (f := fun _ => some false) (fun k => rfl) (ev_const rfl)
      · rw [decide_eq_false h4, decide_eq_true (p := ps.length ≤ 4) (by omega)]
        have h5 := spec_rays ts ps hp h3 rs [] hr (by simpa using h2)
        refine Ev.step (f := fun k => spec_ValidScene.l0 k 0 ts rs ps) (fun k => ?_) (by simpa using h5)
        simp [spec_ValidScene.j0]
theorem implValid_ev (ts : List S151) (rs : List S127) (ps : List S125) (ht : ∀ p ∈ ts, UT p) (hr : ∀ p ∈ rs, UR p) (hp : ∀ p ∈ ps, UP p) (h1 : ts.length ≤ 1048576) (h2 : rs.length ≤ 1048576) (h3 : ps.length ≤ 1048576) :
    Ev (fun k => impl_ValidScene.f k ts rs ps) (validS ts rs ps) := by
  have e1 : Ev (fun k => impl_goodTris.f k ts) (decide (ts.length ≤ 40) && ts.all finT) := by
    unfold impl_goodTris.f
    by_cases h : (ts.length : Int) > 40
    · simp only [h, if_true]
      rw [decide_eq_false (by omega)]
      exact ev_const rfl
    · simp only [h, if_false]
      rw [decide_eq_true (by omega)]
      have h5 := goodTris_l0 ts [] ht (by simpa using h1)
      simpa using h5
  unfold impl_ValidScene.f validS
  refine Ev.bind e1 ?_
  cases (decide (ts.length ≤ 40) && ts.all finT) with
  | false =>
    simp only [Bool.false_eq_true, if_false, Bool.false_and]
    exact Ev.step (f := fun _ => some false) (fun k => rfl) (ev_const rfl)
  | true =>
    simp only [if_true, Bool.true_and]
    by_cases h : (rs.length : Int) > 40
    · simp only [h, if_true]
      rw [decide_eq_false (p := rs.length ≤ 40) (by omega)]
      exact Ev.step (f := fun _ => some false) (fun k => rfl) (ev_const rfl)
    · simp only [h, if_false]
      rw [decide_eq_true (p := rs.length ≤ 40) (by omega)]
      by_cases h4 : (ps.length : Int) > 4
      · rw [decide_eq_true h4, decide_eq_false (p := ps.length ≤ 4) (by omega)]
        exact Ev.step (f := fun _ => some false) (fun k => rfl) (ev_const rfl)
      · rw [decide_eq_false h4, decide_eq_true (p := ps.length ≤ 4) (by omega)]
        have h5 := impl_rays ts ps hp h3 rs rs [] hr (by simpa using h2)
        refine Ev.step (f := fun k => impl_ValidScene.l0 k rs (rs.length : Int) 0 ts rs ps) (fun k => ?_) (by simpa using h5)
        simp [impl_ValidScene.j0]

theorem u32_of {a : Int} (h : (Lit.int .u32 a).wf = true) : U32 a := by
  unfold U32
  simp [Lit.wf, IntKind.min, IntKind.max, IntKind.bits, IntKind.signed] at h
  omega
theorem up_of {x : S173} (h : W173 x) : UP (cPoint x) := ⟨u32_of h.1, u32_of h.2.1, u32_of h.2.2⟩
theorem ut_of {x : S175} (h : W175 x) : UT (cTri x) := ⟨up_of h.1, up_of h.2.1, up_of h.2.2⟩
theorem ur_of {x : S178} (h : W178 x) : UR (cRay x) := ⟨up_of h.1, up_of h.2⟩
theorem szScene_big (ts : List S175) (rs : List S178) (ps : List S173) (h1 : ts.length ≤ 9223372036854775807) (h2 : rs.length ≤ 9223372036854775807) (h3 : ps.length ≤ 9223372036854775807) :
    ∃ z : Int, laws_szScene.f ts rs ps 1048576 = some z ∧ (z < 0 ∨ (z = 1048576 - ts.length - rs.length - ps.length ∧ 0 ≤ z)) := by
  unfold laws_szScene.f laws_szTriS.f
  rw [w64 (by omega) (by omega)]
  by_cases a1 : (1048576 : Int) - ts.length < 0
  · rw [if_pos a1]
    exact ⟨-1, rfl, by omega⟩
  · rw [if_neg a1]
    simp only [Option.bind_some]
    rw [if_neg a1]
    unfold laws_szRayS.f
    rw [w64 (by omega) (by omega)]
    by_cases a2 : (1048576 : Int) - ts.length - rs.length < 0
    · rw [if_pos a2]
      exact ⟨-1, rfl, by omega⟩
    · rw [if_neg a2]
      simp only [Option.bind_some]
      rw [if_neg a2]
      unfold laws_szPointS.f
      rw [w64 (by omega) (by omega)]
      by_cases a3 : (1048576 : Int) - ts.length - rs.length - ps.length < 0
      · rw [if_pos a3]
        exact ⟨-1, rfl, by omega⟩
      · rw [if_neg a3]
        simp only [Option.bind_some]
        rw [if_neg a3]
        exact ⟨_, rfl, by omega⟩
theorem toScene_ev (ts : List S175) (rs : List S178) (ps : List S173) (h1 : ts.length ≤ 1048576) (h2 : rs.length ≤ 1048576) (h3 : ps.length ≤ 1048576) :
    Ev (fun k => laws_toScene.f k ts rs ps) (ts.map cTri, rs.map cRay, ps.map cPoint) := by
  unfold laws_toScene.f
  refine Ev.bind (toTriS_ev ts h1) ?_
  refine Ev.bind (toRayS_ev rs h2) ?_
  refine Ev.bind (toPointS_ev ps h3) ?_
  exact ev_const rfl
theorem eqScene_ev (ts : List S151) (rs : List S127) (ps : List S125) (h1 : ts.length ≤ 1048576) (h2 : rs.length ≤ 1048576) (h3 : ps.length ≤ 1048576) :
    Ev (fun k => laws_eqScene.f k ts rs ps ts rs ps) true := by
  unfold laws_eqScene.f
  refine Ev.bind (eqTriS_ev ts h1) ?_
  simp only [if_true]
  refine Ev.bind (eqRayS_ev rs h2) ?_
  simp only [if_true]
  refine Ev.bind (eqPointS_ev ps h3) ?_
  exact ev_const rfl

theorem FnExactValidScene : laws_FnExactValidScene.Pure := by
  rintro ⟨ts, rs, ps⟩ ⟨⟨l1, w1⟩, ⟨l2, w2⟩, ⟨l3, w3⟩⟩
  dsimp only at l1 w1 l2 w2 l3 w3 ⊢
  refine Ev.rounds ?_
  unfold laws_FnExactValidScene.f
  obtain ⟨z, hz, hz2⟩ := szScene_big ts rs ps l1 l2 l3
  rw [hz]
  simp only [Option.bind_some]
  by_cases h : z < 0
  · simp only [h, if_true]
    exact ev_const rfl
  · simp only [h, if_false]
    have b1 : ts.length ≤ 1048576 := by omega
    have b2 : rs.length ≤ 1048576 := by omega
    have b3 : ps.length ≤ 1048576 := by omega
    have ut : ∀ p ∈ ts.map cTri, UT p := fun p hp => by
      obtain ⟨x, hx, rfl⟩ := List.mem_map.1 hp
      exact ut_of (w1 x hx)
    have ur : ∀ p ∈ rs.map cRay, UR p := fun p hp => by
      obtain ⟨x, hx, rfl⟩ := List.mem_map.1 hp
      exact ur_of (w2 x hx)
    have up : ∀ p ∈ ps.map cPoint, UP p := fun p hp => by
      obtain ⟨x, hx, rfl⟩ := List.mem_map.1 hp
      exact up_of (w3 x hx)
    have tx := toScene_ev ts rs ps b1 b2 b3
    have sx := specValid_ev (ts.map cTri) (rs.map cRay) (ps.map cPoint) ut ur up (by simpa using b1) (by simpa using b2) (by simpa using b3)
    have ix := implValid_ev (ts.map cTri) (rs.map cRay) (ps.map cPoint) ut ur up (by simpa using b1) (by simpa using b2) (by simpa using b3)
    have ex := eqScene_ev (ts.map cTri) (rs.map cRay) (ps.map cPoint) (by simpa using b1) (by simpa using b2) (by simpa using b3)
    refine Ev.bind tx ?_
    refine Ev.bind sx ?_
    refine Ev.bind tx ?_
    refine Ev.bind ix ?_
    simp only [bne_self_eq_false, Bool.false_eq_true, if_false]
    refine Ev.bind tx ?_
    refine Ev.bind ex ?_
    exact ev_const rfl

end Go.Proofs.Ytcpdeenhjodmfaa.Pure
