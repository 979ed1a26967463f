-- Written by wip/tools/mkprint.py (my program) out of the translation, for this claim. Not trusted: Lean checks it.
import Derived.Test.YtcpdeenhjodmfaaQDyOfx0
import Derived.Test.YtcpdeenhjodmfaaQDyOfx1
import Derived.Test.YtcpdeenhjodmfaaQDyOfx3
import Derived.Test.YtcpdeenhjodmfaaQDyOfx4
namespace Go.Proofs.Ytcpdeenhjodmfaa.QDyOf
open Go.RowKit Go.Proofs.YtcpdeenhjodmfaaW.PrintWords Go.Proofs.YtcpdeenhjodmfaaW.PrintLast Go.Proofs.YtcpdeenhjodmfaaW.PrintMore
attribute [local go_sem] max2_int min2_int max_two min_two max_three min_three max_four min_four   -- for this text's walks alone
set_option linter.unusedVariables false
set_option linter.unusedSimpArgs false

/-! ### impl_exact: function 109 -/
set_option maxRecDepth 100000 in
theorem frexp_calls (b : Nat) (w : World)
    (h1 : (FloatKind.f64.format.order b 0 == some .eq) = false)
    (h2 : (FloatKind.f64.format.order (bits .andNot .u64 b 9223372036854775808).toNat 9218868437227405311 == some .gt) = false)
    (h3 : (FloatKind.f64.format.order b b != some .eq) = false)
    (h4 : (FloatKind.f64.format.order (bits .andNot .u64 b 9223372036854775808).toNat 4503599627370496 == some .lt) = false) :
    Calls Try.prog 142 #[.float .f64 b] w fun e w' => e = .returned (.tuple #[.float .f64 (bits .or .u64 (bits .andNot .u64 b 9218868437227405312) 4602678819172646912).toNat, .int .i64 (wrap64 (wrap64 (wrap64 (wrap64 (bits .and .u64 ((b : Int) / 4503599627370496) 2047) - 1023) + 1)))]) ∧ Drawn0 w w' := by
  have r1 := run_b64 b
  have r2 := run_f64 (bits .andNot .u64 b 9223372036854775808)
  have r3 := run_f64 (bits .or .u64 (bits .andNot .u64 b 9218868437227405312) 4602678819172646912)
  go_enter Try.func142, Try.ntmps142
  go_wp2
  go_ret2
  exact ⟨by simp, by repeat (first | exact Drawn0.refl _ | apply Drawn0.step)⟩
set_option maxRecDepth 100000 in
theorem frexp_zero (b : Nat) (w : World) (h1 : (FloatKind.f64.format.order b 0 == some .eq) = true) :
    Calls Try.prog 142 #[.float .f64 b] w fun e w' => e = .returned (.tuple #[.float .f64 b, .int .i64 0]) ∧ Drawn0 w w' := by
  go_enter Try.func142, Try.ntmps142
  go_wp2
  go_ret2
  exact ⟨by simp, by repeat (first | exact Drawn0.refl _ | apply Drawn0.step)⟩
set_option maxRecDepth 100000 in
theorem ldexp_zero (b : Nat) (w : World) (h1 : (FloatKind.f64.format.order b 0 == some .eq) = true) :
    Calls Try.prog 144 #[.float .f64 b, .int .i64 24] w fun e w' => e = .returned (.float .f64 b) ∧ Drawn0 w w' := by
  go_enter Try.func144, Try.ntmps144
  go_wp2
  go_ret
  exact ⟨by simp, by repeat (first | exact Drawn0.refl _ | apply Drawn0.step)⟩
set_option maxRecDepth 100000 in
theorem ldexp_calls (b : Nat) (y z : Nat) (w : World)
    (h1 : (FloatKind.f64.format.order b 0 == some .eq) = false)
    (h2 : (FloatKind.f64.format.order (bits .andNot .u64 b 9223372036854775808).toNat 9218868437227405311 == some .gt) = false)
    (h3 : (FloatKind.f64.format.order b b != some .eq) = false)
    (h4 : (FloatKind.f64.format.order (bits .andNot .u64 b 9223372036854775808).toNat 4503599627370496 == some .lt) = false)
    (h5 : wrap64 (24 + wrap64 (bits .and .i64 (wrap64 ((b : Int) / 4503599627370496)) 2047 - 1023)) = 23)
    (h6 : (bits .or .u64 (bits .andNot .u64 b 9218868437227405312) 4710765210229538816).toNat = y)
    (h7 : ∀ w : World, (binOp .mul 165 (.float .f64 4607182418800017408) (.float .f64 y)).run Try.prog w = .ok (.float .f64 z) w) :
    Calls Try.prog 144 #[.float .f64 b, .int .i64 24] w fun e w' => e = .returned (.float .f64 z) ∧ Drawn0 w w' := by
  have r1 := run_b64 b
  have r2 := run_f64 (bits .andNot .u64 b 9223372036854775808)
  have r3 := run_f64 (bits .or .u64 (bits .andNot .u64 b 9218868437227405312) 4710765210229538816)
  rw [h6] at r3
  go_enter Try.func144, Try.ntmps144
  go_wp2
  go_ret
  exact ⟨by simp, by repeat (first | exact Drawn0.refl _ | apply Drawn0.step)⟩
/-- The word of a sign, an exponent field and a fraction. -/
def dw (s : Bool) (E fr : Nat) : Nat := (if s then 9223372036854775808 else 0) + (E * 4503599627370496 + fr)
theorem dw_lt (s : Bool) (E fr : Nat) (hE : E ≤ 2047) (hf : fr < 4503599627370496) : dw s E fr < 18446744073709551616 := by
  unfold dw
  cases s <;> simp <;> omega
theorem dw_div (s : Bool) (E fr : Nat) (hE : E ≤ 2047) (hf : fr < 4503599627370496) : dw s E fr / 4503599627370496 = (if s then 2048 else 0) + E := by
  unfold dw
  cases s <;> simp <;> omega
theorem dw_mod (s : Bool) (E fr : Nat) (hE : E ≤ 2047) (hf : fr < 4503599627370496) : dw s E fr % 9223372036854775808 = E * 4503599627370496 + fr := by
  unfold dw
  cases s <;> simp <;> omega
theorem dw_sign (s : Bool) (E fr : Nat) (hE : E ≤ 2047) (hf : fr < 4503599627370496) : (dw s E fr / 9223372036854775808 % 2 == 1) = s := by
  unfold dw
  cases s
  · rw [beq_eq_false_iff_ne]; simp; omega
  · rw [beq_iff_eq]; simp; omega
theorem u64wr (z : Int) : IntKind.u64.wrap z = z % 18446744073709551616 := by simp [IntKind.wrap, IntKind.bits, IntKind.signed]
theorem dw_exp (s : Bool) (E fr : Nat) (hE : E ≤ 2047) (hf : fr < 4503599627370496) : bits .and .u64 (((dw s E fr : Nat) : Int) / 4503599627370496) 2047 = (E : Int) := by
  have h : ((dw s E fr : Nat) : Int) / 4503599627370496 = ((dw s E fr / 4503599627370496 : Nat) : Int) := rfl
  rw [h, dw_div s E fr hE hf]
  have hx : (if s then 2048 else 0) + E < 4096 := by cases s <;> simp <;> omega
  have hm : ((if s then 2048 else 0) + E) % 2048 = E := by cases s <;> simp <;> omega
  generalize (if s then 2048 else 0) + E = x at hx hm
  show IntKind.u64.wrap (((BitVec.ofInt 64 ((x : Nat) : Int) &&& BitVec.ofInt 64 ((2047 : Nat) : Int)).toNat : Nat) : Int) = _
  rw [BitVec.toNat_and, BitVec.ofInt_natCast, BitVec.ofInt_natCast, BitVec.toNat_ofNat, BitVec.toNat_ofNat, Nat.mod_eq_of_lt (a := x) (by omega), Nat.mod_eq_of_lt (a := 2047) (by omega), show (2047 : Nat) = 2 ^ 11 - 1 from rfl, Nat.and_two_pow_sub_one_eq_mod, show (2 : Nat) ^ 11 = 2048 from rfl, hm, u64wr]
  omega
theorem dw_exp' (s : Bool) (E fr : Nat) (hE : E ≤ 2047) (hf : fr < 4503599627370496) : bits .and .i64 (wrap64 (((dw s E fr : Nat) : Int) / 4503599627370496)) 2047 = (E : Int) := by
  have h : ((dw s E fr : Nat) : Int) / 4503599627370496 = ((dw s E fr / 4503599627370496 : Nat) : Int) := rfl
  rw [h, dw_div s E fr hE hf]
  have hx : (if s then 2048 else 0) + E < 4096 := by cases s <;> simp <;> omega
  have hm : ((if s then 2048 else 0) + E) % 2048 = E := by cases s <;> simp <;> omega
  generalize (if s then 2048 else 0) + E = x at hx hm
  have hw : wrap64 (x : Int) = (x : Int) := by unfold wrap64; omega
  rw [hw]
  show IntKind.i64.wrap (((BitVec.ofInt 64 ((x : Nat) : Int) &&& BitVec.ofInt 64 ((2047 : Nat) : Int)).toNat : Nat) : Int) = _
  rw [BitVec.toNat_and, BitVec.ofInt_natCast, BitVec.ofInt_natCast, BitVec.toNat_ofNat, BitVec.toNat_ofNat, Nat.mod_eq_of_lt (a := x) (by omega), Nat.mod_eq_of_lt (a := 2047) (by omega), show (2047 : Nat) = 2 ^ 11 - 1 from rfl, Nat.and_two_pow_sub_one_eq_mod, show (2 : Nat) ^ 11 = 2048 from rfl, hm, i64_w]
  unfold wrap64
  omega
theorem p63 : (2 : Nat) ^ 63 = 9223372036854775808 := by kernel_rfl
theorem p52 : (2 : Nat) ^ 52 = 4503599627370496 := by kernel_rfl
theorem and63_low (r : Nat) (h : r < 9223372036854775808) : r &&& 2 ^ 63 = 0 := by
  have h1 : r &&& 2 ^ 63 ≤ r := Nat.and_le_left
  have h2 := Nat.and_mod_two_pow (a := r) (b := 2 ^ 63) (n := 63)
  rw [Nat.mod_self, Nat.and_zero, Nat.mod_eq_of_lt (by rw [p63] at h1 ⊢; omega)] at h2
  exact h2
theorem or63 (s : Bool) (r : Nat) (h : r < 9223372036854775808) : (if s then 9223372036854775808 else 0) + r = 2 ^ 63 * s.toNat ||| r := by
  rw [← Nat.two_pow_add_eq_or_of_lt (i := 63) (b := r) (by rw [p63]; omega), p63]
  cases s <;> simp
theorem or52 (C r : Nat) (h : r < 4503599627370496) : C * 4503599627370496 + r = 2 ^ 52 * C ||| r := by
  rw [← Nat.two_pow_add_eq_or_of_lt (i := 52) (b := r) (by rw [p52]; omega), p52, Nat.mul_comm]
theorem dw_or (s : Bool) (E fr : Nat) (hE : E ≤ 2047) (hf : fr < 4503599627370496) : dw s E fr = 2 ^ 63 * s.toNat ||| (2 ^ 52 * E ||| fr) := by
  unfold dw
  rw [or63 s _ (by omega), or52 E fr hf]
theorem dw_clear (s : Bool) (E fr : Nat) (hE : E ≤ 2047) (hf : fr < 4503599627370496) : dw s E fr &&& (2 ^ 63 ||| (2 ^ 52 - 1)) = dw s 0 fr := by
  have e2 : dw s E fr % 2 ^ 52 = fr := by
    rw [p52]
    unfold dw
    cases s <;> simp <;> omega
  have e3 : dw s E fr &&& 2 ^ 63 = 2 ^ 63 * s.toNat := by
    have h1 : dw s E fr = 2 ^ 63 * s.toNat ||| (E * 4503599627370496 + fr) := by
      unfold dw
      rw [or63 s _ (by omega)]
    rw [h1, Nat.and_or_distrib_right, and63_low (E * 4503599627370496 + fr) (by omega), Nat.or_zero]
    cases s
    · simp
    · rw [Bool.toNat_true, Nat.mul_one, Nat.and_self]
  rw [Nat.and_or_distrib_left, Nat.and_two_pow_sub_one_eq_mod, e2, e3, dw_or s 0 fr (by omega) hf, Nat.mul_zero, Nat.zero_or]
theorem mask_eq : (~~~ (BitVec.ofInt 64 ((9218868437227405312 : Nat) : Int))).toNat = 2 ^ 63 ||| (2 ^ 52 - 1) := by kernel_rfl
theorem dw_swap (s : Bool) (E C fr : Nat) (hE : E ≤ 2047) (hC : C ≤ 2047) (hf : fr < 4503599627370496) (c : Int) (hc : c = ((C * 4503599627370496 : Nat) : Int)) :
    (bits .or .u64 (bits .andNot .u64 ((dw s E fr : Nat) : Int) 9218868437227405312) c).toNat = dw s C fr := by
  subst hc
  have hb := dw_lt s E fr hE hf
  have e1 : bits .andNot .u64 ((dw s E fr : Nat) : Int) 9218868437227405312 = ((dw s 0 fr : Nat) : Int) := by
    show IntKind.u64.wrap (((BitVec.ofInt 64 ((dw s E fr : Nat) : Int) &&& ~~~ (BitVec.ofInt 64 ((9218868437227405312 : Nat) : Int))).toNat : Nat) : Int) = _
    rw [BitVec.toNat_and, mask_eq, BitVec.ofInt_natCast, BitVec.toNat_ofNat, Nat.mod_eq_of_lt (a := dw s E fr) hb, dw_clear s E fr hE hf, u64wr]
    have := dw_lt s 0 fr (by omega) hf
    omega
  rw [e1]
  show (IntKind.u64.wrap (((BitVec.ofInt 64 ((dw s 0 fr : Nat) : Int) ||| BitVec.ofInt 64 ((C * 4503599627370496 : Nat) : Int)).toNat : Nat) : Int)).toNat = _
  have h0 := dw_lt s 0 fr (by omega) hf
  rw [BitVec.toNat_or, BitVec.ofInt_natCast, BitVec.ofInt_natCast, BitVec.toNat_ofNat, BitVec.toNat_ofNat, Nat.mod_eq_of_lt (a := dw s 0 fr) h0, Nat.mod_eq_of_lt (a := C * 4503599627370496) (by omega)]
  have h4 : dw s 0 fr ||| C * 4503599627370496 = dw s C fr := by
    rw [dw_or s 0 fr (by omega) hf, dw_or s C fr hC hf, Nat.mul_zero, Nat.zero_or, Nat.or_assoc, Nat.or_comm fr, Nat.mul_comm C, ← p52]
  rw [h4, u64wr]
  have := dw_lt s C fr hC hf
  omega
theorem dw_read (s : Bool) (E fr : Nat) (h1 : 1 ≤ E) (hE : E ≤ 2046) (hf : fr < 4503599627370496) : Ieee.double.read (dw s E fr) = .number s (4503599627370496 + fr) (-1075 + E) := by
  rw [fl_read, dw_mod s E fr (by omega) hf, dw_sign s E fr (by omega) hf, if_neg (by omega), if_pos (by omega)]
  congr 1
  · omega
  · omega
theorem cmp_ne {a b : Int} {o : Ordering} (h : compare a b ≠ o) : (some (compare a b) == some o) = false := by
  generalize compare a b = c at h ⊢
  cases c <;> cases o <;> simp_all
theorem dw_ne0 (s : Bool) (E fr : Nat) (h1 : 1 ≤ E) (hE : E ≤ 2046) (hf : fr < 4503599627370496) : (FloatKind.f64.format.order (dw s E fr) 0 == some .eq) = false := by
  show (Ieee.double.order (dw s E fr) 0 == some .eq) = false
  unfold Ieee.Format.order
  rw [dw_read s E fr h1 hE hf, show Ieee.double.read 0 = .number false 0 (-1074) from by rw [fl_read]; rfl]
  simp only [Ieee.Datum.order]
  refine cmp_ne ?_
  rw [Ne, Int.compare_eq_eq]
  have hb : Ieee.signed false 0 ((-1074 : Int) - min (-1075 + (E : Int)) (-1074)).toNat = 0 := by simp [Ieee.signed]
  rw [hb]
  unfold Ieee.signed
  rw [Nat.shiftLeft_eq]
  have hp := Nat.two_pow_pos (-1075 + (E : Int) - min (-1075 + (E : Int)) (-1074)).toNat
  have : 1 * 1 ≤ (4503599627370496 + fr) * 2 ^ (-1075 + (E : Int) - min (-1075 + (E : Int)) (-1074)).toNat := Nat.mul_le_mul (by omega) hp
  generalize (4503599627370496 + fr) * 2 ^ (-1075 + (E : Int) - min (-1075 + (E : Int)) (-1074)).toNat = z at this ⊢
  cases s <;> simp <;> omega
theorem dw_abs (s : Bool) (E fr : Nat) (hE : E ≤ 2046) (hf : fr < 4503599627370496) : (bits .andNot .u64 ((dw s E fr : Nat) : Int) 9223372036854775808).toNat = E * 4503599627370496 + fr := by
  rw [fl_and _ (dw_lt s E fr (by omega) hf), dw_mod s E fr (by omega) hf]
theorem dw_fin (s : Bool) (E fr : Nat) (h1 : 1 ≤ E) (hE : E ≤ 2046) (hf : fr < 4503599627370496) : (FloatKind.f64.format.order (bits .andNot .u64 ((dw s E fr : Nat) : Int) 9223372036854775808).toNat 9218868437227405311 == some .gt) = false := by
  rw [dw_abs s E fr hE hf]
  exact fl_gt _ (by omega)
theorem dw_num (s : Bool) (E fr : Nat) (h1 : 1 ≤ E) (hE : E ≤ 2046) (hf : fr < 4503599627370496) : (FloatKind.f64.format.order (dw s E fr) (dw s E fr) != some .eq) = false := fl_self _ _ _ _ (dw_read s E fr h1 hE hf)
theorem dw_normal (s : Bool) (E fr : Nat) (h1 : 1 ≤ E) (hE : E ≤ 2046) (hf : fr < 4503599627370496) : (FloatKind.f64.format.order (bits .andNot .u64 ((dw s E fr : Nat) : Int) 9223372036854775808).toNat 4503599627370496 == some .lt) = false := by
  rw [dw_abs s E fr hE hf]
  show (Ieee.double.order (E * 4503599627370496 + fr) 4503599627370496 == some .lt) = false
  have e1 : E * 4503599627370496 + fr = dw false E fr := by unfold dw; simp
  have e2 : 4503599627370496 = dw false 1 0 := by unfold dw; simp
  unfold Ieee.Format.order
  rw [e1, dw_read false E fr h1 hE hf]
  conv => lhs; lhs; rhs; rw [e2]
  rw [dw_read false 1 0 (by omega) (by omega) (by omega)]
  simp only [Ieee.Datum.order]
  refine cmp_ne ?_
  rw [Ne, Int.compare_eq_lt]
  have hm : min (-1075 + (E : Int)) (-1075 + ((1 : Nat) : Int)) = -1074 := by omega
  rw [hm]
  simp only [Ieee.signed, Bool.false_eq_true, if_false]
  rw [Nat.shiftLeft_eq, Nat.shiftLeft_eq]
  have hp := Nat.two_pow_pos (-1075 + (E : Int) - -1074).toNat
  have : (4503599627370496 + fr) * 1 ≤ (4503599627370496 + fr) * 2 ^ (-1075 + (E : Int) - -1074).toNat := Nat.mul_le_mul_left _ hp
  generalize (4503599627370496 + fr) * 2 ^ (-1075 + (E : Int) - -1074).toNat = z at this ⊢
  simp
  omega
theorem dw_one (s : Bool) (E fr : Nat) (h1 : 1 ≤ E) (hE : E ≤ 2046) (hf : fr < 4503599627370496) : Ieee.double.nearest s (4503599627370496 * (4503599627370496 + fr)) (-52 + (-1075 + (E : Int))) = dw s E fr := by
  unfold Ieee.Format.nearest
  have hM : 4503599627370496 * (4503599627370496 + fr) ≠ 0 := by omega
  rw [if_neg hM]
  have hlog : (4503599627370496 * (4503599627370496 + fr)).log2 = 104 := by
    rw [Nat.log2_eq_iff hM, show (2 : Nat) ^ 104 = 20282409603651670423947251286016 from by kernel_rfl, show (2 : Nat) ^ (104 + 1) = 40564819207303340847894502572032 from by kernel_rfl]
    omega
  have e1 : Ieee.double.leastPlace = -1074 := by decide
  have e2 : (Ieee.double.fractionBits : Int) = 52 := by decide
  have e3 : Ieee.double.binade = 4503599627370496 := by decide
  have e4 : Ieee.double.infRung = 9218868437227405312 := by decide
  dsimp only
  rw [e1, e2, e3, e4, hlog]
  have hmax : max (-52 + (-1075 + (E : Int)) + ((104 : Nat) : Int) - 52) (-1074) = -1075 + (E : Int) := by omega
  rw [hmax]
  have e5 : (-52 + (-1075 + (E : Int)) - (-1075 + (E : Int))).toNat = 0 := by omega
  have e6 : (-1075 + (E : Int) - (-52 + (-1075 + (E : Int)))).toNat = 52 := by omega
  have e7 : (-1075 + (E : Int) - -1074).toNat = E - 1 := by omega
  rw [e5, e6, e7, Nat.shiftLeft_zero]
  have hc : Ieee.Toward.even.cut s (4503599627370496 * (4503599627370496 + fr)) 52 = 4503599627370496 + fr := by
    unfold Ieee.Toward.cut
    rw [hlog, Nat.min_eq_left (by omega), Nat.one_shiftLeft, p52]
    dsimp only
    rw [Nat.mul_div_cancel_left _ (by omega), Nat.mul_mod_right]
    simp
  rw [hc, Nat.min_eq_left (by omega), fl_word]
  unfold dw
  cases s <;> simp <;> omega
theorem dw_mul1 (s : Bool) (E fr : Nat) (h1 : 1 ≤ E) (hE : E ≤ 2046) (hf : fr < 4503599627370496) (w : World) :
    (binOp .mul 165 (.float .f64 4607182418800017408) (.float .f64 (dw s E fr))).run Try.prog w = .ok (.float .f64 (dw s E fr)) w := by
  refine run_float_arith (w := w) .mul 165 .f64 4607182418800017408 (dw s E fr) (dw s E fr) ?_
  have e1 : (4607182418800017408 : Nat) = dw false 1023 0 := by unfold dw; simp
  show Ieee.double.mul 4607182418800017408 (dw s E fr) = some (dw s E fr)
  unfold Ieee.Format.mul
  rw [e1, dw_read false 1023 0 (by omega) (by omega) (by omega), dw_read s E fr h1 hE hf]
  simp only [Ieee.Datum.product, Option.map_some, Ieee.Format.write]
  have := dw_one s E fr h1 hE hf
  simp only [Bool.false_xor]
  exact congrArg some this
theorem dw_nearest (s : Bool) (mag : Nat) (place : Int) (hz : mag ≠ 0) (hm : mag < 16777216) (h0 : -149 ≤ place) (h1 : place ≤ 105) :
    mag.log2 ≤ 23 ∧ 4503599627370496 ≤ mag * 2 ^ (52 - mag.log2) ∧ mag * 2 ^ (52 - mag.log2) < 9007199254740992 ∧ Ieee.double.nearest s mag place = dw s (place + mag.log2 + 1023).toNat (mag * 2 ^ (52 - mag.log2) - 4503599627370496) := by
  have hlog : mag.log2 < 24 := (Nat.log2_lt hz).2 (by omega)
  have hup : mag < 2 ^ (mag.log2 + 1) := Nat.lt_log2_self
  have hlo : 2 ^ mag.log2 ≤ mag := Nat.log2_self_le hz
  have hk : mag * 2 ^ (52 - mag.log2) < 9007199254740992 := by
    have : 2 ^ (mag.log2 + 1) * 2 ^ (52 - mag.log2) = 2 ^ 53 := by rw [← Nat.pow_add]; congr 1; omega
    rw [show (9007199254740992 : Nat) = 2 ^ 53 from by kernel_rfl, ← this]
    exact Nat.mul_lt_mul_of_pos_right hup (Nat.two_pow_pos _)
  have hk2 : 4503599627370496 ≤ mag * 2 ^ (52 - mag.log2) := by
    have : 2 ^ mag.log2 * 2 ^ (52 - mag.log2) = 2 ^ 52 := by rw [← Nat.pow_add]; congr 1; omega
    rw [← p52, ← this]
    exact Nat.mul_le_mul_right _ hlo
  refine ⟨by omega, hk2, hk, ?_⟩
  unfold Ieee.Format.nearest
  rw [if_neg hz]
  have e1 : Ieee.double.leastPlace = -1074 := by decide
  have e2 : (Ieee.double.fractionBits : Int) = 52 := by decide
  have e3 : Ieee.double.binade = 4503599627370496 := by decide
  have e4 : Ieee.double.infRung = 9218868437227405312 := by decide
  dsimp only
  rw [e1, e2, e3, e4, Int.max_eq_left (by omega)]
  have e5 : (place - (place + (mag.log2 : Int) - 52)).toNat = 52 - mag.log2 := by omega
  have e6 : (place + (mag.log2 : Int) - 52 - place).toNat = 0 := by omega
  rw [e5, e6, Nat.shiftLeft_eq]
  have hc : Ieee.Toward.even.cut s (mag * 2 ^ (52 - mag.log2)) 0 = mag * 2 ^ (52 - mag.log2) := by
    generalize mag * 2 ^ (52 - mag.log2) = n
    simp [Ieee.Toward.cut, Nat.mod_one]
  rw [hc]
  generalize mag * 2 ^ (52 - mag.log2) = n at hk hk2 ⊢
  have e7 : (place + (mag.log2 : Int) - 52 - -1074).toNat = (place + (mag.log2 : Int) + 1023).toNat - 1 := by omega
  have e8 : 1 ≤ (place + (mag.log2 : Int) + 1023).toNat := by omega
  have e9 : (place + (mag.log2 : Int) + 1023).toNat ≤ 2000 := by omega
  rw [e7]
  generalize (place + (mag.log2 : Int) + 1023).toNat = E at e8 e9 ⊢
  clear e5 e6 e7 hc hup hlo hlog e1 e2 e3 e4
  rw [Nat.min_eq_left (by omega), fl_word]
  unfold dw
  cases s <;> simp <;> omega
def exF (x : Nat) : Nat := if 0 < x / 8388608 % 256 then x % 8388608 + 8388608 else x % 8388608
def exG (x : Nat) : Int := (if 0 < x / 8388608 % 256 then ((x / 8388608 % 256 : Nat) : Int) else 1) - 150
def exV (x : Nat) : Int := if exF x = 0 then 0 else if 2147483648 ≤ x then -((exF x * 2 ^ (23 - (exF x).log2) : Nat) : Int) else ((exF x * 2 ^ (23 - (exF x).log2) : Nat) : Int)
def exE (x : Nat) : Int := if exF x = 0 then -24 else exG x + (exF x).log2 - 23
theorem ex_single (x : Nat) (hx : x < 4294967296) (h : x / 8388608 % 256 ≠ 255) : Ieee.single.read x = .number (decide (2147483648 ≤ x)) (exF x) (exG x) := by
  rw [fl_single x hx]
  have hs : (x / 2147483648 % 2 == 1) = decide (2147483648 ≤ x) := by
    by_cases hn : 2147483648 ≤ x
    · rw [decide_eq_true hn, beq_iff_eq]; omega
    · rw [decide_eq_false hn, beq_eq_false_iff_ne]; omega
  rw [hs]
  unfold exF exG
  by_cases he : 0 < x / 8388608 % 256
  · rw [if_neg (by omega), if_pos (by omega), if_pos he, if_pos he]
    congr 1
    · omega
    · omega
  · rw [if_pos (by omega), if_neg he, if_neg he]
    congr 1
    omega
theorem ex_bounds (x : Nat) (h : x / 8388608 % 256 ≠ 255) : exF x < 16777216 ∧ -149 ≤ exG x ∧ exG x ≤ 105 := by
  unfold exF exG
  split <;> omega
theorem ex_zero_conv (s : Bool) (w : World) : (convert 165 3 (.float .f64 (dw s 0 0))).run Try.prog w = .ok (.int .i64 0) w := by
  refine run_convert_float_int w 165 3 .f64 .i64 (dw s 0 0) 0 (by kernel_rfl) (by kernel_rfl) ?_
  cases s <;> decide
theorem ex_conv (s : Bool) (fr n : Nat) (hf : fr < 4503599627370496) (hn : (4503599627370496 + fr) / 536870912 = n) (w : World) :
    (convert 165 3 (.float .f64 (dw s 1046 fr))).run Try.prog w = .ok (.int .i64 (if s then -(n : Int) else (n : Int))) w := by
  refine run_convert_float_int w 165 3 .f64 .i64 (dw s 1046 fr) _ (by kernel_rfl) (by kernel_rfl) ?_
  have hr : FloatKind.f64.decode (dw s 1046 fr) = .number s (4503599627370496 + fr) (-29) := dw_read s 1046 fr (by omega) (by omega) hf
  unfold floatToIntVal
  rw [hr]
  have hlog : (4503599627370496 + fr).log2 = 52 := by
    rw [Nat.log2_eq_iff (by omega), p52, show (2 : Nat) ^ (52 + 1) = 9007199254740992 from by kernel_rfl]
    omega
  have hc : Ieee.Toward.zero.cut s ((4503599627370496 + fr) <<< (-29 : Int).toNat) (- (-29 : Int)).toNat = n := by
    rw [show (-29 : Int).toNat = 0 from rfl, show (-(-29 : Int)).toNat = 29 from rfl, Nat.shiftLeft_zero]
    unfold Ieee.Toward.cut
    rw [hlog, Nat.min_eq_left (by omega), Nat.one_shiftLeft, show (2 : Nat) ^ 29 = 536870912 from by kernel_rfl]
    dsimp only
    rw [hn]
    rfl
  simp only [Ieee.Datum.toInt, Ieee.Datum.integral, hc, Ieee.signed, Nat.shiftLeft_zero]
  have hlt : n < 16777216 := by omega
  have h1 : IntKind.i64.min = -9223372036854775808 := by decide
  have h2 : IntKind.i64.max = 9223372036854775807 := by decide
  rw [h1, h2]
  cases s <;> simp <;> omega
set_option maxHeartbeats 8000000 in
set_option maxRecDepth 100000 in
theorem exact_walk (k : Nat) (a0 : Int) (b y z : Nat) (e v : Int) (r1 : Bool) (r2 : List Int) (r3 : Int) (w : World)
    (hc : ∀ w : World, (convert 166 165 (.float .f32 a0.toNat)).run Try.prog w = .ok (.float .f64 b) w)
    (hf : ∀ w : World, Calls Try.prog 142 #[.float .f64 b] w fun r w' => r = .returned (.tuple #[.float .f64 y, .int .i64 e]) ∧ Drawn0 w w')
    (hl : ∀ w : World, Calls Try.prog 144 #[.float .f64 y, .int .i64 24] w fun r w' => r = .returned (.float .f64 z) ∧ Drawn0 w w')
    (hi : ∀ w : World, (convert 165 3 (.float .f64 z)).run Try.prog w = .ok (.int .i64 v) w)
    (h : ((impl_whole.f k v).bind fun bt1 => (impl_dyadic_normal.f k bt1.1 bt1.2 (wrap64 (e - 24))).bind fun bt2 => some (bt2.1, bt2.2.1, bt2.2.2)) = some (r1, r2, r3)) :
    Calls Try.prog 109 #[.int .u32 a0] w fun e w' => ∃ v1_ : Value, e = .returned (.agg #[.bool r1, v1_, .int .i64 r3]) ∧ Kd.V (Kd.int .u32) 50 w' w.heap.size (fun k_ => (w.heap.size ≤ k_)) v1_ r2 ∧ Below w.heap.size w w' := by
  have hu144 := Try.underlying144
  have hu101 := Try.underlying101
  have HB := AM (Below.refl w.heap.size w)
  obtain ⟨⟨t1, t2⟩, A80, H⟩ := Option.bind_eq_some_iff.mp h
  obtain ⟨⟨n1, n2, n3⟩, A90, H⟩ := Option.bind_eq_some_iff.mp H
  dsimp only at A90 H
  have A8 := AM A80; clear A80
  have A9 := AM A90; clear A90
  simp only [Option.some.injEq, Prod.mk.injEq] at H
  obtain ⟨rfl, rfl, rfl⟩ := H
  clear h
  have run32 := run_f32 a0
  go_enter Try.func109, Try.ntmps109
  go_wp2_with (first | ((with_reducible refine gate_dst (N := 2) rfl ?_); refine box_event ?hg (N := 2) ?hd (cs := #[.bool false, .slice none 0 0, .int .i64 0]) (t := 144) ?hr ?_; (case hd => rfl); (case hg => rfl); (case hr => first | (go_simp; done) | (go_simp; rfl)); intro gb1 hg w3 hbox hb; have BK1 := AM (hbox); have GW1 := gH HB hg; have GE1 := gH HB hg; replace HB := AM (below_step (pH HB) hb); clear hb hbox hg; have ⟨hcz1, hcz2, hcz3, hfz1, hfz2, hfz3⟩ := z3 BK1) | ((with_reducible refine gate_callee (f := 142) rfl ?_); refine goesL_ (some 9) rfl rfl Try.func142 (by kernel_rfl) rfl #[.float .f64 b] rfl (by (try simp only [List.map_toArray, List.map_cons, List.map_nil]); first | done | rfl) ?_; (with_reducible refine (hf _).mono ?_); rintro e_ w' ⟨rfl, ⟨nd, rfl⟩⟩; refine ⟨_, rfl, ?_⟩; (try (rw [drewN_self w3]; generalize hq_ : World.drewN w3 _ = w3; have m0_ : Aside0 (w3.heap[gb1]? = some (.cells #[.bool false, .slice none 0 0, .int .i64 0] 144 (0, 0))) := ⟨by rw [← hq_]; exact (pB BK1)⟩; have m2_ : Aside0 (Below w.heap.size w w3) := ⟨by rw [← hq_]; exact (pH HB)⟩; clear BK1 HB hq_; have BK1 := m0_; have HB := m2_; clear m0_ m2_)); have ⟨hcy1, hcy2, hcy3, hfy1, hfy2, hfy3⟩ := z3 BK1) | ((with_reducible refine gate_callee (f := 144) rfl ?_); refine goesL_ (some 13) rfl rfl Try.func144 (by kernel_rfl) rfl #[.float .f64 y, .int .i64 24] rfl (by (try simp only [List.map_toArray, List.map_cons, List.map_nil]); first | done | rfl) ?_; (with_reducible refine (hl _).mono ?_); rintro e_ w' ⟨rfl, ⟨nd, rfl⟩⟩; refine ⟨_, rfl, ?_⟩; (try (rw [drewN_self w3]; generalize hq_ : World.drewN w3 _ = w3; have m0_ : Aside0 (w3.heap[gb1]? = some (.cells #[.bool false, .slice none 0 0, .int .i64 0] 144 (0, 0))) := ⟨by rw [← hq_]; exact (pB BK1)⟩; have m2_ : Aside0 (Below w.heap.size w w3) := ⟨by rw [← hq_]; exact (pH HB)⟩; clear BK1 HB hq_; have BK1 := m0_; have HB := m2_; clear m0_ m2_))) | ((with_reducible refine gate_callee (f := 143) rfl ?_); refine goesL_ (some 15) rfl rfl Try.func143 (by kernel_rfl) rfl #[.int .i64 v] rfl (by (try simp only [List.map_toArray, List.map_cons, List.map_nil]); first | done | rfl) ?_; (with_reducible refine (impl_whole.calls k v t1 t2 _ A8.out).mono ?_); rintro e_ w4 ⟨v20, rfl, ho0, hb⟩; refine ⟨_, rfl, ?_⟩; have HO20 := AM (Kd.V_lower (Kd.V_mono (ok' := fun k_ => k_ ≠ gb1) ho0 (fun k_ hk_ => (Kd.freshB (g := gb1) (o := .cells #[.bool false, .slice none 0 0, .int .i64 0] 144 (0, 0)) (pB BK1) k_ hk_))) (below_size (pH HB))); replace BK1 := bB BK1 hb; replace HB := AM (below_step (pH HB) hb); (try clear hb); (try clear ho0); obtain ⟨Ao1, co1, eo1⟩ := Kd.V_slice HO20.out; subst eo1) | ((with_reducible refine gate_callee (f := 140) rfl ?_); refine goesL_ (some 19) rfl rfl Try.func140 (by kernel_rfl) rfl #[.agg #[.bool t1, .slice Ao1 t2.length co1, .int .i64 (wrap64 (e - 24))]] rfl (by (try simp only [List.map_toArray, List.map_cons, List.map_nil]); first | done | rfl) ?_; (with_reducible refine (impl_dyadic_normal.calls k t1 _ _ t2 (wrap64 (e - 24)) n1 n2 n3 _ ?side1 ?side2 A9.out).mono ?_); (case side1 => exact (Kd.V_reads' HO20.out).2.2); (case side2 => exact (Kd.V_reads' HO20.out).2.1); rintro e_ w5 ⟨v21, rfl, ho0, hb⟩; refine ⟨_, rfl, ?_⟩; have HO21 := AM (Kd.V_lower (Kd.V_mono (ok' := fun k_ => k_ ≠ gb1 ∧ w.heap.size ≤ k_) ho0 (fun k_ hk_ => ⟨(Kd.freshB (g := gb1) (o := .cells #[.bool false, .slice none 0 0, .int .i64 0] 144 (0, 0)) (pB BK1) k_ hk_), Nat.le_trans (below_size (pH HB)) hk_⟩)) (below_size (pH HB))); replace BK1 := bB BK1 hb; replace HB := AM (below_step (pH HB) hb); (try clear hb); (try clear ho0); clear HO20; have ⟨hcx1, hcx2, hcx3, hfx1, hfx2, hfx3⟩ := z3 BK1; obtain ⟨Ao2, co2, eo2⟩ := Kd.V_slice HO21.out; subst eo2))
  refine bodyPost_ret (results_cell_row rfl _ _ gb1 144 #[.bool n1, .slice Ao2 n2.length co2, .int .i64 n3] (0, 0) _ rfl (by refine sB ?_; refine blk_put (cs := #[.bool n1, .slice Ao2 n2.length co2, .int .i64 0]) ?_ 2 _ rfl; refine sB ?_; refine blk_put (cs := #[.bool n1, .slice none 0 0, .int .i64 0]) ?_ 1 _ rfl; refine sB ?_; refine blk_put (cs := #[.bool false, .slice none 0 0, .int .i64 0]) ?_ 0 _ rfl; refine sB ?_; exact BK1.out) Try.underlying144 rfl (by kernel_rfl)) rfl ?_
  exact ⟨_, rfl, Kd.V_mono (Kd.V_far (p := ⟨gb1, 2, none⟩) (Kd.V_far (p := ⟨gb1, 1, none⟩) (Kd.V_far (p := ⟨gb1, 0, none⟩) HO21.out (fun _ hk => hk.1) (.bool n1)) (fun _ hk => hk.1) (.slice Ao2 n2.length co2)) (fun _ hk => hk.1) (.int .i64 n3)) (fun _ h_ => h_.2), below_set (below_set (below_set HB.out GW1.out) GW1.out) GW1.out⟩
theorem ex_zero_nearest (s : Bool) (place : Int) : Ieee.double.nearest s 0 place = dw s 0 0 := by
  unfold Ieee.Format.nearest dw
  rw [if_pos rfl, fl_word]
  cases s <;> rfl
theorem ex_zero_eq (s : Bool) : (FloatKind.f64.format.order (dw s 0 0) 0 == some .eq) = true := by
  show (Ieee.double.order (dw s 0 0) 0 == some .eq) = true
  unfold Ieee.Format.order
  rw [fl_read, fl_read]
  cases s <;> decide
theorem ex_convert (x b : Nat) (s : Bool) (F : Nat) (G : Int) (hd0 : Ieee.single.read x = .number s F G) (hF : F < 16777216) (h0 : -149 ≤ G) (h1 : G ≤ 104) (hb : Ieee.double.nearest s F G = b) (w : World) :
    (convert 166 165 (.float .f32 x)).run Try.prog w = .ok (.float .f64 b) w := by
  have ha : (Try.prog.underlying 166).isSome = true := by kernel_rfl
  have hu : Try.prog.underlying 165 = some (.float .f64) := by kernel_rfl
  refine run_convert_float_float w 166 165 .f32 .f64 x b ha hu ?_
  have hd : FloatKind.f32.decode x = .number s F G := hd0
  unfold floatToFloatBits
  rw [if_neg (by decide), hd]
  have he : FloatKind.f64.encode (.number s F G) = b := hb
  have hf : (FloatKind.f64.decode b).isInfinity = false := by
    obtain ⟨rung, hrg, hw⟩ := fl_nearest s F G hF h0 h1
    obtain ⟨_, _, s5, m5, i5, f3⟩ := fl_fin b s rung hrg (hb.symm.trans hw)
    have : FloatKind.f64.decode b = .number s5 m5 i5 := f3
    rw [this]
    rfl
  dsimp only
  rw [he, hf]
  rfl
theorem ex_wr1 (E : Nat) (h : E ≤ 2046) : wrap64 (wrap64 (wrap64 (wrap64 (E : Int) - 1023) + 1)) = (E : Int) - 1022 := by unfold wrap64; omega
theorem ex_wr2 (E : Nat) (h : E ≤ 2046) : wrap64 ((E : Int) - 1022 - 24) = (E : Int) - 1022 - 24 := by unfold wrap64; omega
theorem ex_frexp (s : Bool) (E fr : Nat) (e2 : 1 ≤ E) (e3 : E ≤ 2046) (f2 : fr < 4503599627370496) (y : Nat) (hy : y = dw s 1022 fr) (e : Int) (he : e = (E : Int) - 1022) (w : World) :
    Calls Try.prog 142 #[.float .f64 (dw s E fr)] w fun r w' => r = .returned (.tuple #[.float .f64 y, .int .i64 e]) ∧ Drawn0 w w' := by
  have g5 := dw_swap s E 1022 fr (by omega) (by omega) f2 4602678819172646912 (by decide)
  have g6 := dw_exp s E fr (by omega) f2
  refine (frexp_calls (dw s E fr) w (dw_ne0 s E fr e2 e3 f2) (dw_fin s E fr e2 e3 f2) (dw_num s E fr e2 e3 f2) (dw_normal s E fr e2 e3 f2)).mono fun r w' h => ⟨?_, h.2⟩
  rw [h.1, g5, g6, hy, he, ex_wr1 E e3]
theorem ex_ldexp (s : Bool) (fr : Nat) (f2 : fr < 4503599627370496) (w : World) :
    Calls Try.prog 144 #[.float .f64 (dw s 1022 fr), .int .i64 24] w fun r w' => r = .returned (.float .f64 (dw s 1046 fr)) ∧ Drawn0 w w' := by
  have k5 := dw_swap s 1022 1046 fr (by omega) (by omega) f2 4710765210229538816 (by decide)
  have k6 := dw_exp' s 1022 fr (by omega) f2
  have k7 : wrap64 (24 + wrap64 (bits .and .i64 (wrap64 ((dw s 1022 fr : Int) / 4503599627370496)) 2047 - 1023)) = 23 := by
    rw [k6]
    unfold wrap64
    omega
  exact ldexp_calls (dw s 1022 fr) (dw s 1046 fr) (dw s 1046 fr) w (dw_ne0 s 1022 fr (by omega) (by omega) f2) (dw_fin s 1022 fr (by omega) (by omega) f2) (dw_num s 1022 fr (by omega) (by omega) f2) (dw_normal s 1022 fr (by omega) (by omega) f2) k7 k5 (fun w => dw_mul1 s 1046 fr (by omega) (by omega) f2 w)
theorem ex_cut (F : Nat) (h : F.log2 ≤ 23) (c2 : 4503599627370496 ≤ F * 2 ^ (52 - F.log2)) (c3 : F * 2 ^ (52 - F.log2) < 9007199254740992) :
    ∃ fr : Nat, F * 2 ^ (52 - F.log2) - 4503599627370496 = fr ∧ fr < 4503599627370496 ∧ (4503599627370496 + fr) / 536870912 = F * 2 ^ (23 - F.log2) := by
  have hpow : F * 2 ^ (52 - F.log2) = F * 2 ^ (23 - F.log2) * 536870912 := by
    rw [show (536870912 : Nat) = 2 ^ 29 from by kernel_rfl, Nat.mul_assoc, ← Nat.pow_add]
    congr 2
    omega
  rw [hpow] at c2 c3 ⊢
  generalize F * 2 ^ (23 - F.log2) = n at c2 c3 ⊢
  exact ⟨_, rfl, by omega, by omega⟩
/-- What the number comes to: its parts, and the walk's operations on them. -/
theorem ex_num (k x : Nat) (s : Bool) (F : Nat) (G : Int) (hx : x < 4294967296) (hd : Ieee.single.read x = .number s F G) (hz : F ≠ 0) (b1 : F < 16777216) (b2 : -149 ≤ G) (b3 : G ≤ 104) (r1 : Bool) (r2 : List Int) (r3 : Int) (w : World)
    (h : ((impl_whole.f k (if s then -((F * 2 ^ (23 - F.log2) : Nat) : Int) else ((F * 2 ^ (23 - F.log2) : Nat) : Int))).bind fun bt1 => (impl_dyadic_normal.f k bt1.1 bt1.2 (G + F.log2 - 23)).bind fun bt2 => some (bt2.1, bt2.2.1, bt2.2.2)) = some (r1, r2, r3)) :
    Calls Try.prog 109 #[.int .u32 (x : Int)] w fun e w' => ∃ v1_ : Value, e = .returned (.agg #[.bool r1, v1_, .int .i64 r3]) ∧ Kd.V (Kd.int .u32) 50 w' w.heap.size (fun k_ => (w.heap.size ≤ k_)) v1_ r2 ∧ Below w.heap.size w w' := by
  obtain ⟨c1, c2, c3, c4⟩ := dw_nearest s F G hz b1 b2 (by omega)
  obtain ⟨E, e1, e2, e3, e4⟩ : ∃ E : Nat, (G + F.log2 + 1023).toNat = E ∧ 1 ≤ E ∧ E ≤ 2046 ∧ (E : Int) - 1022 - 24 = G + F.log2 - 23 := ⟨_, rfl, by omega, by omega, by omega⟩
  obtain ⟨fr, f1, f2, f3⟩ := ex_cut F c1 c2 c3
  rw [e1, f1] at c4
  refine exact_walk k (x : Int) (dw s E fr) (dw s 1022 fr) (dw s 1046 fr) ((E : Int) - 1022) _ r1 r2 r3 w (fun w => ?_) (fun w => ex_frexp s E fr e2 e3 f2 _ rfl _ rfl w) (fun w => ex_ldexp s fr f2 w) (fun w => ex_conv s fr (F * 2 ^ (23 - F.log2)) f2 f3 w) ?_
  · rw [Int.toNat_natCast]
    exact ex_convert x (dw s E fr) s F G hd b1 b2 b3 c4 w
  · rw [ex_wr2 E e3, e4]
    exact h
theorem ex_num0 (k x : Nat) (s : Bool) (G : Int) (hx : x < 4294967296) (hd : Ieee.single.read x = .number s 0 G) (b2 : -149 ≤ G) (b3 : G ≤ 104) (r1 : Bool) (r2 : List Int) (r3 : Int) (w : World)
    (h : ((impl_whole.f k 0).bind fun bt1 => (impl_dyadic_normal.f k bt1.1 bt1.2 (-24)).bind fun bt2 => some (bt2.1, bt2.2.1, bt2.2.2)) = some (r1, r2, r3)) :
    Calls Try.prog 109 #[.int .u32 (x : Int)] w fun e w' => ∃ v1_ : Value, e = .returned (.agg #[.bool r1, v1_, .int .i64 r3]) ∧ Kd.V (Kd.int .u32) 50 w' w.heap.size (fun k_ => (w.heap.size ≤ k_)) v1_ r2 ∧ Below w.heap.size w w' := by
  refine exact_walk k (x : Int) (dw s 0 0) (dw s 0 0) (dw s 0 0) 0 0 r1 r2 r3 w (fun w => ?_) (fun w => frexp_zero _ w (ex_zero_eq s)) (fun w => ldexp_zero _ w (ex_zero_eq s)) (fun w => ex_zero_conv s w) ?_
  · rw [Int.toNat_natCast]
    exact ex_convert x (dw s 0 0) s 0 G hd (by omega) b2 b3 (ex_zero_nearest s G) w
  · rw [show wrap64 (0 - 24) = -24 from by unfold wrap64; omega]
    exact h
theorem ex_bnd (x : Nat) (h : x / 8388608 % 256 ≠ 255) : exF x < 16777216 ∧ -149 ≤ exG x ∧ exG x ≤ 104 := by
  unfold exF exG
  split <;> omega
def impl_exact.f (k : Nat) (a0 : Int) : Option (Bool × List Int × Int) := if 0 ≤ a0 ∧ a0 < 4294967296 ∧ a0.toNat / 8388608 % 256 ≠ 255 then ((impl_whole.f k (exV a0.toNat)).bind fun bt1 => (impl_dyadic_normal.f k bt1.1 bt1.2 (exE a0.toNat)).bind fun bt2 => some (bt2.1, bt2.2.1, bt2.2.2)) else none
theorem impl_exact.mono : ∀ a0 k, LeO (impl_exact.f k a0) (impl_exact.f (k + 1) a0) := by
  intro a0 k
  unfold impl_exact.f
  repeat' with_reducible first | exact impl_whole.mono _ _ | exact impl_dyadic_normal.mono _ _ _ _ | exact LeO.refl _ | exact LeO.none _ | refine LeO.ite ?_ ?_ | refine LeO.bind ?_ (fun _ => ?_)
theorem impl_exact.calls (k : Nat) (a0 : Int) (r1 : Bool) (r2 : List Int) (r3 : Int) (w : World) (h : impl_exact.f k a0 = some (r1, r2, r3)) :
    Calls Try.prog 109 #[.int .u32 a0] w fun e w' => ∃ v1_ : Value, e = .returned (.agg #[.bool r1, v1_, .int .i64 r3]) ∧ Kd.V (Kd.int .u32) 50 w' w.heap.size (fun k_ => (w.heap.size ≤ k_)) v1_ r2 ∧ Below w.heap.size w w' := by
  unfold impl_exact.f at h
  by_cases hr : 0 ≤ a0 ∧ a0 < 4294967296 ∧ a0.toNat / 8388608 % 256 ≠ 255
  · rw [if_pos hr] at h
    obtain ⟨h0, h1, h2⟩ := hr
    obtain ⟨x, rfl⟩ := Int.eq_ofNat_of_zero_le h0
    rw [Int.toNat_natCast] at h h2
    have hx : x < 4294967296 := by omega
    obtain ⟨b1, b2, b3⟩ := ex_bnd x h2
    have hd := ex_single x hx h2
    by_cases hz : exF x = 0
    · have hv : exV x = 0 := by unfold exV; rw [if_pos hz]
      have he : exE x = -24 := by unfold exE; rw [if_pos hz]
      rw [hv, he] at h
      rw [hz] at hd
      exact ex_num0 k x _ _ hx hd b2 b3 r1 r2 r3 w h
    · have hv : exV x = if decide (2147483648 ≤ x) = true then -((exF x * 2 ^ (23 - (exF x).log2) : Nat) : Int) else ((exF x * 2 ^ (23 - (exF x).log2) : Nat) : Int) := by
        unfold exV
        rw [if_neg hz]
        by_cases hs : 2147483648 ≤ x
        · rw [if_pos hs, if_pos (decide_eq_true hs)]
        · rw [if_neg hs, if_neg (by rw [decide_eq_false hs]; decide)]
      have he : exE x = exG x + (exF x).log2 - 23 := by unfold exE; rw [if_neg hz]
      rw [hv, he] at h
      exact ex_num k x _ _ _ hx hd hz b1 b2 b3 r1 r2 r3 w h
  · rw [if_neg hr] at h
    cases h

/-! ### impl_DyOf: function 50 -/
def impl_DyOf.f (k : Nat) (a0 : Int) : Option (Bool × List Int × Int × Int) := (impl_finite.f a0).bind fun t284 => (if t284 = true then ((impl_exact.f k a0).bind fun bt285 => ((impl_dyadic_out.f k bt285.1 bt285.2.1 bt285.2.2).bind fun bt290 => (some (bt290.1, bt290.2.1, bt290.2.2.1, bt290.2.2.2)))) else (some (false, ([] : List Int), 0, 1)))
theorem impl_DyOf.mono : ∀ a0 k, LeO (impl_DyOf.f k a0) (impl_DyOf.f (k + 1) a0) := by
 intro a0 k
 unfold impl_DyOf.f
 repeat' with_reducible first | exact impl_dyadic_out.mono _ _ _ _ | exact impl_exact.mono _ _ | exact LeO.refl _ | exact LeO.none _ | refine LeO.ite ?_ ?_ | refine LeO.bind ?_ (fun _ => ?_)
set_option maxHeartbeats 8000000 in
set_option maxRecDepth 100000 in
theorem impl_DyOf.calls (k : Nat) (a0 : Int) (r1 : Bool) (r2 : List Int) (r3 : Int) (r4 : Int) (w : World) (h : impl_DyOf.f k a0 = some (r1, r2, r3, r4)) :
 Calls Try.prog 50 #[.int .u32 a0] w fun e w' => ∃ v1_ : Value, e = .returned (.tuple #[.agg #[.bool r1, v1_, .int .i64 r3], .int .i64 r4]) ∧ Kd.R (Kd.int .u32) 50 w' w.heap.size (fun _ => True) v1_ r2 ∧ Below w.heap.size w w' := by
 have hu77 := Try.underlying77; have HB := AM (Below.refl w.heap.size w)
 have H : ((impl_finite.f a0).bind fun t284 => (if t284 = true then ((impl_exact.f k a0).bind fun bt285 => ((impl_dyadic_out.f k bt285.1 bt285.2.1 bt285.2.2).bind fun bt290 => (some (bt290.1, bt290.2.1, bt290.2.2.1, bt290.2.2.2)))) else (some (false, ([] : List Int), 0, 1)))) = some (r1, r2, r3, r4) := h
 clear h
 replace H := Option.bind_eq_some_iff.mp H
 obtain ⟨t284, A20, H⟩ := H
 (try dsimp only at H)
 have A2 := AM A20; clear A20
 by_cases c3 : t284 = true
 rotate_left
 · replace c3 := Bool.eq_false_iff.mpr c3
   subst c3
   have H1 : (some (false, ([] : List Int), 0, 1)) = some (r1, r2, r3, r4) := by rw [if_neg (show ¬ (false = true) by decide)] at H; exact H
   clear H; have H := H1; clear H1
   simp only [Option.some.injEq, Prod.mk.injEq] at H
   obtain ⟨rfl, rfl, rfl, rfl⟩ := H
   go_enter Try.func50, Try.ntmps50
   go_wp2_with (first | ((with_reducible refine gate_dst (N := 2) rfl ?_); refine box_event ?hg (N := 2) ?hd (cs := #[.bool false, .slice none 0 0, .int .i64 0]) (t := 77) ?hr ?_; (case hd => rfl); (case hg => rfl); (case hr => first | (go_simp; done) | (go_simp; rfl)); intro gb283 hg w12 hbox hb; have BK283 := AM (hbox); have GW283 := gH HB hg; have GE283 := gH HB hg; replace HB := AM (below_step (pH HB) hb); clear hb hbox hg) | ((with_reducible refine gate_callee (f := 79) rfl ?_); refine goesL_ (some 5) rfl rfl Try.func79 (by kernel_rfl) rfl #[.int .u32 a0] rfl (by (try simp only [List.map_toArray, List.map_cons, List.map_nil]); first | done | rfl | (simp only [List.length_drop, List.length_take]; rfl)) ?_; (with_reducible refine (impl_finite.calls a0 false _ A2.out).mono ?_); rintro e w' ⟨rfl, ⟨nd, rfl⟩⟩; refine ⟨_, rfl, ?_⟩; (try (rw [drewN_self w12]; generalize hq_ : World.drewN w12 _ = w12; have n0_ : Aside0 (w12.heap[gb283]? = some (.cells #[.bool false, .slice none 0 0, .int .i64 0] 77 (0, 0))) := ⟨by rw [← hq_]; exact (pB BK283)⟩; have n1_ : Aside0 (Below w.heap.size w w12) := ⟨by rw [← hq_]; exact (pH HB)⟩; clear BK283 HB hq_; have BK283 := n0_; have HB := n1_; clear n0_ n1_)); have ⟨hcz13_0, hcz13_1, hcz13_2, hfz13_0, hfz13_1, hfz13_2⟩ := z3 BK283))
   refine bodyPost_ret (results_ct rfl _ _ gb283 77 #[.bool false, .slice none 0 0, .int .i64 0] (0, 0) _ rfl (by refine sB ?_; refine blk_put (cs := #[.bool false, .slice none 0 0, .int .i64 0]) ?_ 2 _ rfl; refine sB ?_; refine blk_put (cs := #[.bool false, .slice none 0 0, .int .i64 0]) ?_ 1 _ rfl; refine sB ?_; refine blk_put (cs := #[.bool false, .slice none 0 0, .int .i64 0]) ?_ 0 _ rfl; refine sB ?_; exact BK283.out) Try.underlying77 rfl (by kernel_rfl)) rfl ?_
   exact ⟨_, by first | rfl | (simp [errW_none, errW_some] <;> rfl) | (simp [*, errW_none, errW_some] <;> rfl), by first | exact Kd.R_nil _ _ _ _ _ | exact Kd.N_nil _ _ _ _ _ | exact Kd.V_nil _ _ _ _ _ | exact Kd.Q_nil _ _ _ _ _ | exact Kd.S_nil _ _ _ _ _, pH HB⟩

 subst c3
 have H1 : ((impl_exact.f k a0).bind fun bt285 => ((impl_dyadic_out.f k bt285.1 bt285.2.1 bt285.2.2).bind fun bt290 => (some (bt290.1, bt290.2.1, bt290.2.2.1, bt290.2.2.2)))) = some (r1, r2, r3, r4) := by rw [if_pos rfl] at H; exact H
 clear H; have H := H1; clear H1
 replace H := Option.bind_eq_some_iff.mp H
 obtain ⟨⟨t285, t286, t289⟩, A40, H⟩ := H
 (try dsimp only at H)
 have A4 := AM A40; clear A40
 replace H := Option.bind_eq_some_iff.mp H
 obtain ⟨⟨t290, t291, t294, t295⟩, A50, H⟩ := H
 (try dsimp only at H)
 have A5 := AM A50; clear A50
 simp only [Option.some.injEq, Prod.mk.injEq] at H
 obtain ⟨rfl, rfl, rfl, rfl⟩ := H
 go_enter Try.func50, Try.ntmps50
 go_wp2_with (first | ((with_reducible refine gate_dst (N := 2) rfl ?_); refine box_event ?hg (N := 2) ?hd (cs := #[.bool false, .slice none 0 0, .int .i64 0]) (t := 77) ?hr ?_; (case hd => rfl); (case hg => rfl); (case hr => first | (go_simp; done) | (go_simp; rfl)); intro gb283 hg w6 hbox hb; have BK283 := AM (hbox); have GW283 := gH HB hg; have GE283 := gH HB hg; replace HB := AM (below_step (pH HB) hb); clear hb hbox hg) | ((with_reducible refine gate_callee (f := 79) rfl ?_); refine goesL_ (some 5) rfl rfl Try.func79 (by kernel_rfl) rfl #[.int .u32 a0] rfl (by (try simp only [List.map_toArray, List.map_cons, List.map_nil]); first | done | rfl | (simp only [List.length_drop, List.length_take]; rfl)) ?_; (with_reducible refine (impl_finite.calls a0 true _ A2.out).mono ?_); rintro e w' ⟨rfl, ⟨nd, rfl⟩⟩; refine ⟨_, rfl, ?_⟩; (try (rw [drewN_self w6]; generalize hq_ : World.drewN w6 _ = w6; have n0_ : Aside0 (w6.heap[gb283]? = some (.cells #[.bool false, .slice none 0 0, .int .i64 0] 77 (0, 0))) := ⟨by rw [← hq_]; exact (pB BK283)⟩; have n1_ : Aside0 (Below w.heap.size w w6) := ⟨by rw [← hq_]; exact (pH HB)⟩; clear BK283 HB hq_; have BK283 := n0_; have HB := n1_; clear n0_ n1_))) | ((with_reducible refine gate_callee (f := 109) rfl ?_); refine goesL_ (some 9) rfl rfl Try.func109 (by kernel_rfl) rfl #[.int .u32 a0] rfl (by (try simp only [List.map_toArray, List.map_cons, List.map_nil]); first | done | rfl | (simp only [List.length_drop, List.length_take]; rfl)) ?_; (with_reducible refine (impl_exact.calls k a0 t285 t286 t289 _ A4.out).mono ?_); rintro e w7 ⟨v287, rfl, ho0, hb⟩; refine ⟨_, rfl, ?_⟩; have HO288 := AM (Kd.V_lower (Kd.V_mono (ok' := fun k_ => k_ ≠ gb283) ho0 (fun k_ hk_ => (Kd.freshB (g := gb283) (o := .cells #[.bool false, .slice none 0 0, .int .i64 0] 77 (0, 0)) (pB BK283) k_ hk_))) (below_size (pH HB))); replace BK283 := bB BK283 hb; replace HB := AM (below_step (pH HB) hb); (try clear hb); (try clear hb2); (try clear hk); (try clear hi); (try clear ho0); obtain ⟨Ao8, co8, eo8⟩ := Kd.V_slice HO288.out; subst eo8) | ((with_reducible refine gate_callee (f := 107) rfl ?_); refine goesL_ (some 10) rfl rfl Try.func107 (by kernel_rfl) rfl #[.agg #[.bool t285, .slice Ao8 t286.length co8, .int .i64 t289]] rfl (by (try simp only [List.map_toArray, List.map_cons, List.map_nil]); first | done | rfl | (simp only [List.length_drop, List.length_take]; rfl)) ?_; (with_reducible refine (impl_dyadic_out.calls k t285 _ _ t286 t289 t290 t291 t294 t295 _ ?side1 ?side2 A5.out).mono ?_); (case side1 => repeat (first | exact (Kd.V_reads' HO288.out).2.2 | (with_reducible refine Kd.C_alloc ?_ _) | (with_reducible refine Kd.C_drewN ?_ _) | (with_reducible refine Kd.C_drew ?_))); (case side2 => exact (Kd.V_reads' HO288.out).2.1); rintro e w9 ⟨v292, rfl, ho0, hb⟩; refine ⟨_, rfl, ?_⟩; replace HO288 := AM (Kd.V_elder' (by (with_reducible repeat (first | apply Kd.V_alloc | apply Kd.V_drewN | apply Kd.V_drew)); exact HO288.out) (Kd.R_base ho0) hb); have HO293 := AM (Kd.R_lower ho0 (below_size (pH HB))); replace BK283 := bB BK283 hb; replace HB := AM (below_step (pH HB) hb); (try clear hb); (try clear hb2); (try clear hk); (try clear hi); (try clear ho0); have ⟨hcz10_0, hcz10_1, hcz10_2, hfz10_0, hfz10_1, hfz10_2⟩ := z3 BK283; obtain ⟨Ao11, co11, eo11⟩ := Kd.R_slice HO293.out; subst eo11))
 refine bodyPost_ret (results_ct rfl _ _ gb283 77 #[.bool t290, .slice Ao11 t291.length co11, .int .i64 t294] (0, 0) _ rfl (by refine sB ?_; refine blk_put (cs := #[.bool t290, .slice Ao11 t291.length co11, .int .i64 0]) ?_ 2 _ rfl; refine sB ?_; refine blk_put (cs := #[.bool t290, .slice none 0 0, .int .i64 0]) ?_ 1 _ rfl; refine sB ?_; refine blk_put (cs := #[.bool false, .slice none 0 0, .int .i64 0]) ?_ 0 _ rfl; refine sB ?_; exact BK283.out) Try.underlying77 rfl (by kernel_rfl)) rfl ?_
 exact ⟨_, by first | rfl | (simp [errW_none, errW_some] <;> rfl) | (simp [*, errW_none, errW_some] <;> rfl), by (with_reducible repeat (first | apply Kd.R_alloc | apply Kd.R_drewN | apply Kd.R_drew)); exact Kd.R_mono (Kd.R_far (p := ⟨gb283, 2, none⟩) (Kd.R_far (p := ⟨gb283, 1, none⟩) (Kd.R_far (p := ⟨gb283, 0, none⟩) (Kd.R_types HO293.out BK283.out (by decide)) (fun _ hk => hk.2) (.bool t290)) (fun _ hk => hk.2) (.slice Ao11 t291.length co11)) (fun _ hk => hk.2) (.int .i64 t294)) (fun _ hk => trivial), pH HB⟩
/-! ### laws_FnExactDyOf: function 11 -/
def laws_FnExactDyOf.f (k : Nat) (a0 : Int) : Option (Bool) := (spec_DyOf.f k a0).bind fun bt296 => ((impl_DyOf.f k a0).bind fun bt303 => ((laws_eqDyadic.f k bt303.1 bt303.2.1 bt303.2.2.1 bt296.1 bt296.2.1 bt296.2.2.1).bind fun t310 => (if t310 = true then (if bt303.2.2.2 = bt296.2.2.2 then ((laws_markDyadic.f k bt303.1 bt303.2.1 bt303.2.2.1 1).bind fun bt311 => ((laws_heldDyadic.f k bt303.1 bt311.2 bt303.2.2.1 1).bind fun t313 => (if t313 < 0 then (none) else (if t313 = bt311.1 then ((impl_DyOf.f k a0).bind fun bt314 => ((laws_eqDyadic.f k bt314.1 bt314.2.1 bt314.2.2.1 bt296.1 bt296.2.1 bt296.2.2.1).bind fun t321 => (if t321 = true then (if bt314.2.2.2 = bt296.2.2.2 then ((laws_heldDyadic.f k bt303.1 bt311.2 bt303.2.2.1 1).bind fun t322 => (if t322 < 0 then (none) else (if t322 = bt311.1 then (some true) else (none)))) else (none)) else (none)))) else (none))))) else (none)) else (none))))
theorem laws_FnExactDyOf.mono : ∀ a0 k, LeO (laws_FnExactDyOf.f k a0) (laws_FnExactDyOf.f (k + 1) a0) := by
 intro a0 k
 unfold laws_FnExactDyOf.f
 repeat' with_reducible first | exact impl_DyOf.mono _ _ | exact laws_eqDyadic.mono _ _ _ _ _ _ _ | exact laws_heldDyadic.mono _ _ _ _ _ | exact laws_markDyadic.mono _ _ _ _ _ | exact spec_DyOf.mono _ _ | exact LeO.refl _ | exact LeO.none _ | refine LeO.ite ?_ ?_ | refine LeO.bind ?_ (fun _ => ?_)
set_option maxHeartbeats 8000000 in
set_option maxRecDepth 100000 in
theorem laws_FnExactDyOf.calls (k : Nat) (a0 : Int) (r : Bool) (w : World) (h : laws_FnExactDyOf.f k a0 = some r) :
 Calls Try.prog 11 #[.int .u32 a0] w fun e w' => e = .returned (.bool r) ∧ Below w.heap.size w w' := by
 have hu77 := Try.underlying77; have HB := AM (Below.refl w.heap.size w)
 have H : ((spec_DyOf.f k a0).bind fun bt296 => ((impl_DyOf.f k a0).bind fun bt303 => ((laws_eqDyadic.f k bt303.1 bt303.2.1 bt303.2.2.1 bt296.1 bt296.2.1 bt296.2.2.1).bind fun t310 => (if t310 = true then (if bt303.2.2.2 = bt296.2.2.2 then ((laws_markDyadic.f k bt303.1 bt303.2.1 bt303.2.2.1 1).bind fun bt311 => ((laws_heldDyadic.f k bt303.1 bt311.2 bt303.2.2.1 1).bind fun t313 => (if t313 < 0 then (none) else (if t313 = bt311.1 then ((impl_DyOf.f k a0).bind fun bt314 => ((laws_eqDyadic.f k bt314.1 bt314.2.1 bt314.2.2.1 bt296.1 bt296.2.1 bt296.2.2.1).bind fun t321 => (if t321 = true then (if bt314.2.2.2 = bt296.2.2.2 then ((laws_heldDyadic.f k bt303.1 bt311.2 bt303.2.2.1 1).bind fun t322 => (if t322 < 0 then (none) else (if t322 = bt311.1 then (some true) else (none)))) else (none)) else (none)))) else (none))))) else (none)) else (none))))) = some r := h
 clear h
 replace H := Option.bind_eq_some_iff.mp H
 obtain ⟨⟨t296, t297, t300, t301⟩, A20, H⟩ := H
 (try dsimp only at H)
 have A2 := AM A20; clear A20
 replace H := Option.bind_eq_some_iff.mp H
 obtain ⟨⟨t303, t304, t307, t308⟩, A30, H⟩ := H
 (try dsimp only at H)
 have A3 := AM A30; clear A30
 replace H := Option.bind_eq_some_iff.mp H
 obtain ⟨t310, A40, H⟩ := H
 (try dsimp only at H)
 have A4 := AM A40; clear A40
 by_cases c5 : t310 = true
 rotate_left
 · replace c5 := Bool.eq_false_iff.mpr c5
   subst c5
   have H1 : (none) = some r := by rw [if_neg (show ¬ (false = true) by decide)] at H; exact H
   clear H; have H := H1; clear H1
   exact absurd H (by simp)

 subst c5
 have H1 : (if t308 = t301 then ((laws_markDyadic.f k t303 t304 t307 1).bind fun bt311 => ((laws_heldDyadic.f k t303 bt311.2 t307 1).bind fun t313 => (if t313 < 0 then (none) else (if t313 = bt311.1 then ((impl_DyOf.f k a0).bind fun bt314 => ((laws_eqDyadic.f k bt314.1 bt314.2.1 bt314.2.2.1 t296 t297 t300).bind fun t321 => (if t321 = true then (if bt314.2.2.2 = t301 then ((laws_heldDyadic.f k t303 bt311.2 t307 1).bind fun t322 => (if t322 < 0 then (none) else (if t322 = bt311.1 then (some true) else (none)))) else (none)) else (none)))) else (none))))) else (none)) = some r := by rw [if_pos rfl] at H; exact H
 clear H; have H := H1; clear H1
 by_cases c6 : t308 = t301
 rotate_left
 · rw [if_neg c6] at H
   exact absurd H (by simp)
 rw [if_pos c6] at H
 have c6b0 : (t308 == t301) = true := beq_iff_eq.mpr c6
 have c6b1 : (t308 != t301) = false := bne_eq_false_iff_eq.mpr c6
 clear c6
 replace H := Option.bind_eq_some_iff.mp H
 obtain ⟨⟨t311, t312⟩, A70, H⟩ := H
 (try dsimp only at H)
 have A7 := AM A70; clear A70
 replace H := Option.bind_eq_some_iff.mp H
 obtain ⟨t313, A80, H⟩ := H
 (try dsimp only at H)
 have A8 := AM A80; clear A80
 by_cases c9 : t313 < 0
 · rw [if_pos c9] at H
   exact absurd H (by simp)
 rw [if_neg c9] at H
 have c9b0 : decide (t313 < 0) = false := decide_eq_false c9
 clear c9
 by_cases c10 : t313 = t311
 rotate_left
 · rw [if_neg c10] at H
   exact absurd H (by simp)
 rw [if_pos c10] at H
 have c10b0 : (t313 == t311) = true := beq_iff_eq.mpr c10
 have c10b1 : (t313 != t311) = false := bne_eq_false_iff_eq.mpr c10
 clear c10
 replace H := Option.bind_eq_some_iff.mp H
 obtain ⟨⟨t314, t315, t318, t319⟩, A110, H⟩ := H
 (try dsimp only at H)
 have A11 := AM A110; clear A110
 replace H := Option.bind_eq_some_iff.mp H
 obtain ⟨t321, A120, H⟩ := H
 (try dsimp only at H)
 have A12 := AM A120; clear A120
 by_cases c13 : t321 = true
 rotate_left
 · replace c13 := Bool.eq_false_iff.mpr c13
   subst c13
   have H1 : (none) = some r := by rw [if_neg (show ¬ (false = true) by decide)] at H; exact H
   clear H; have H := H1; clear H1
   exact absurd H (by simp)
 subst c13
 have H1 : (if t319 = t301 then ((laws_heldDyadic.f k t303 t312 t307 1).bind fun t322 => (if t322 < 0 then (none) else (if t322 = t311 then (some true) else (none)))) else (none)) = some r := by rw [if_pos rfl] at H; exact H
 clear H; have H := H1; clear H1
 by_cases c14 : t319 = t301
 rotate_left
 · rw [if_neg c14] at H
   exact absurd H (by simp)
 rw [if_pos c14] at H
 have c14b0 : (t319 == t301) = true := beq_iff_eq.mpr c14
 have c14b1 : (t319 != t301) = false := bne_eq_false_iff_eq.mpr c14
 clear c14
 replace H := Option.bind_eq_some_iff.mp H
 obtain ⟨t322, A150, H⟩ := H
 (try dsimp only at H)
 have A15 := AM A150; clear A150
 by_cases c16 : t322 < 0
 · rw [if_pos c16] at H
   exact absurd H (by simp)
 rw [if_neg c16] at H
 have c16b0 : decide (t322 < 0) = false := decide_eq_false c16
 clear c16
 by_cases c17 : t322 = t311
 rotate_left
 · rw [if_neg c17] at H
   exact absurd H (by simp)
 rw [if_pos c17] at H
 have c17b0 : (t322 == t311) = true := beq_iff_eq.mpr c17
 have c17b1 : (t322 != t311) = false := bne_eq_false_iff_eq.mpr c17
 clear c17
 obtain rfl := Option.some.inj H
 go_enter Try.func11, Try.ntmps11
 go_wp2_with (first | ((with_reducible refine gate_callee (f := 49) rfl ?_); refine goesL_ (some 13) rfl rfl Try.func49 (by kernel_rfl) rfl #[.int .u32 a0] rfl (by (try simp only [List.map_toArray, List.map_cons, List.map_nil]); first | done | rfl | (simp only [List.length_drop, List.length_take]; rfl)) ?_; (with_reducible refine (spec_DyOf.calls k a0 t296 t297 t300 t301 _ A2.out).mono ?_); rintro e w18 ⟨v298, rfl, ho0, hb⟩; refine ⟨_, rfl, ?_⟩; have HO299 := AM (Kd.R_lower ho0 (below_size (pH HB))); replace HB := AM (below_step (pH HB) hb); (try clear hb); (try clear hb2); (try clear hk); (try clear hi); (try clear ho0)) | ((with_reducible refine gate_dst (N := 3) rfl ?_); refine box_event ?hg (N := 3) ?hd (cs := #[.bool false, .slice none 0 0, .int .i64 0]) (t := 77) ?hr ?_; (case hd => rfl); (case hg => rfl); (case hr => first | (go_simp; done) | (go_simp; rfl)); intro gb302 hg w19 hbox hb; replace HO299 := AM (Kd.R_below (pR HO299) hb); have BK302 := AM (hbox); have GW302 := gH HB hg; have GE302 := gH HB hg; replace HB := AM (below_step (pH HB) hb); clear hb hbox hg; have ⟨hcz20_0, hcz20_1, hcz20_2, hfz20_0, hfz20_1, hfz20_2⟩ := z3 BK302; obtain ⟨Ao21, co21, eo21⟩ := Kd.R_slice HO299.out; subst eo21) | ((with_reducible refine gate_callee (f := 50) rfl ?_); refine goesL_ (some 18) rfl rfl Try.func50 (by kernel_rfl) rfl #[.int .u32 a0] rfl (by (try simp only [List.map_toArray, List.map_cons, List.map_nil]); first | done | rfl | (simp only [List.length_drop, List.length_take]; rfl)) ?_; (with_reducible refine (impl_DyOf.calls k a0 t303 t304 t307 t308 _ A3.out).mono ?_); rintro e w22 ⟨v305, rfl, ho0, hb⟩; refine ⟨_, rfl, ?_⟩; have HO306 := AM (Kd.R_lower (Kd.R_new' ho0 (Kd.R_lt (by (with_reducible repeat (first | apply Kd.R_alloc | apply Kd.R_drewN | apply Kd.R_drew)); exact (Kd.R_mono (Kd.R_far (p := ⟨gb302, 2, none⟩) (Kd.R_far (p := ⟨gb302, 1, none⟩) (Kd.R_far (p := ⟨gb302, 0, none⟩) (Kd.R_types HO299.out BK302.out (by decide)) (fun _ hk => hk.2) (.bool t296)) (fun _ hk => hk.2) (.slice Ao21 t297.length co21)) (fun _ hk => hk.2) (.int .i64 t300)) (fun _ h_ => h_.1))))) (below_size (pH HB))); replace HO299 := AM (Kd.R_elder' (by (with_reducible repeat (first | apply Kd.R_alloc | apply Kd.R_drewN | apply Kd.R_drew)); exact (Kd.R_mono (Kd.R_far (p := ⟨gb302, 2, none⟩) (Kd.R_far (p := ⟨gb302, 1, none⟩) (Kd.R_far (p := ⟨gb302, 0, none⟩) (Kd.R_types HO299.out BK302.out (by decide)) (fun _ hk => hk.2) (.bool t296)) (fun _ hk => hk.2) (.slice Ao21 t297.length co21)) (fun _ hk => hk.2) (.int .i64 t300)) (fun _ h_ => h_.1))) (Kd.R_base ho0) hb); replace BK302 := AM (blk_below (g := gb302) (o := .cells #[.bool t296, .slice Ao21 t297.length co21, .int .i64 t300] 77 (0, 0)) (by refine sB ?_; refine blk_put (cs := #[.bool t296, .slice Ao21 t297.length co21, .int .i64 0]) ?_ 2 _ rfl; refine sB ?_; refine blk_put (cs := #[.bool t296, .slice none 0 0, .int .i64 0]) ?_ 1 _ rfl; refine sB ?_; refine blk_put (cs := #[.bool false, .slice none 0 0, .int .i64 0]) ?_ 0 _ rfl; refine sB ?_; exact BK302.out) hb); replace HB := AM (below_step (pH HB) hb); (try clear hb); (try clear hb2); (try clear hk); (try clear hi); (try clear ho0)) | ((with_reducible refine gate_dst (N := 5) rfl ?_); refine box_event ?hg (N := 5) ?hd (cs := #[.bool false, .slice none 0 0, .int .i64 0]) (t := 77) ?hr ?_; (case hd => rfl); (case hg => rfl); (case hr => first | (go_simp; done) | (go_simp; rfl)); intro gb309 hg w23 hbox hb; replace HO299 := AM (Kd.R_below (pR HO299) hb); replace HO306 := AM (Kd.R_below (pR HO306) hb); have BK309 := AM (hbox); have GW309 := gH HB hg; have GE309 := gH HB hg; replace HB := AM (below_step (pH HB) hb); have NB302_309 := nL BK302 hg; have NB309_302 := nG BK302 hg; replace BK302 := bB BK302 hb; clear hb hbox hg; have hnb24 := NB309_302.out; have hnc24 := NB302_309.out; have ⟨hcz25_0, hcz25_1, hcz25_2, hfz25_0, hfz25_1, hfz25_2⟩ := z3 BK309; obtain ⟨Ao26, co26, eo26⟩ := Kd.R_slice HO306.out; subst eo26; have ⟨hcz27_0, hcz27_1, hcz27_2, hfz27_0, hfz27_1, hfz27_2⟩ := z3 BK302) | ((with_reducible refine gate_callee (f := 46) rfl ?_); refine goesL_ (some 23) rfl rfl Try.func46 (by kernel_rfl) rfl #[.agg #[.bool t303, .slice Ao26 t304.length co26, .int .i64 t307], .agg #[.bool t296, .slice Ao21 t297.length co21, .int .i64 t300]] rfl (by (try simp only [List.map_toArray, List.map_cons, List.map_nil]); first | done | rfl | (simp only [List.length_drop, List.length_take]; rfl)) ?_; (with_reducible refine (laws_eqDyadic.calls k t303 _ _ t304 t307 t296 _ _ t297 t300 true _ ?side1 ?side2 ?side3 ?side4 A4.out).mono ?_); (case side1 => refine (Kd.R_reads' (e := 50) (base := w.heap.size) (ok := fun k_ => (True ∧ some k_ ≠ (.slice Ao21 t297.length co21 : Value).ownBlock)) (n := t304.length) (c := co26) ?_).2.2; exact (by (with_reducible repeat (first | apply Kd.R_alloc | apply Kd.R_drewN | apply Kd.R_drew)); exact (Kd.R_mono (Kd.R_far (p := ⟨gb309, 2, none⟩) (Kd.R_far (p := ⟨gb309, 1, none⟩) (Kd.R_far (p := ⟨gb309, 0, none⟩) (Kd.R_types HO306.out BK309.out (by decide)) (fun _ hk => hk.2) (.bool t303)) (fun _ hk => hk.2) (.slice Ao26 t304.length co26)) (fun _ hk => hk.2) (.int .i64 t307)) (fun _ h_ => h_.1)))); (case side2 => exact (Kd.R_reads' HO306.out).2.1); (case side3 => refine (Kd.R_reads' (e := 50) (base := w.heap.size) (ok := fun k_ => (True ∧ some k_ ≠ (.slice Ao26 t304.length co26 : Value).ownBlock)) (n := t297.length) (c := co21) ?_).2.2; exact (by (with_reducible repeat (first | apply Kd.R_alloc | apply Kd.R_drewN | apply Kd.R_drew)); exact (Kd.R_mono (Kd.R_far (p := ⟨gb309, 2, none⟩) (Kd.R_far (p := ⟨gb309, 1, none⟩) (Kd.R_far (p := ⟨gb309, 0, none⟩) (Kd.R_types HO299.out BK309.out (by decide)) (fun _ hk => hk.2) (.bool t303)) (fun _ hk => hk.2) (.slice Ao26 t304.length co26)) (fun _ hk => hk.2) (.int .i64 t307)) (fun _ h_ => h_.1)))); (case side4 => exact (Kd.R_reads' HO299.out).2.1); rintro e w28 ⟨rfl, hb⟩; refine ⟨_, rfl, ?_⟩; replace HO299 := AM (Kd.R_below (by (with_reducible repeat (first | apply Kd.R_alloc | apply Kd.R_drewN | apply Kd.R_drew)); exact (Kd.R_mono (Kd.R_far (p := ⟨gb309, 2, none⟩) (Kd.R_far (p := ⟨gb309, 1, none⟩) (Kd.R_far (p := ⟨gb309, 0, none⟩) (Kd.R_types HO299.out BK309.out (by decide)) (fun _ hk => hk.2) (.bool t303)) (fun _ hk => hk.2) (.slice Ao26 t304.length co26)) (fun _ hk => hk.2) (.int .i64 t307)) (fun _ h_ => h_.1))) hb); replace HO306 := AM (Kd.R_below (by (with_reducible repeat (first | apply Kd.R_alloc | apply Kd.R_drewN | apply Kd.R_drew)); exact (Kd.R_mono (Kd.R_far (p := ⟨gb309, 2, none⟩) (Kd.R_far (p := ⟨gb309, 1, none⟩) (Kd.R_far (p := ⟨gb309, 0, none⟩) (Kd.R_types HO306.out BK309.out (by decide)) (fun _ hk => hk.2) (.bool t303)) (fun _ hk => hk.2) (.slice Ao26 t304.length co26)) (fun _ hk => hk.2) (.int .i64 t307)) (fun _ h_ => h_.1))) hb); replace BK302 := AM (blk_below (g := gb302) (o := .cells #[.bool t296, .slice Ao21 t297.length co21, .int .i64 t300] 77 (0, 0)) (by refine sB ?_; refine blk_far ?_ NB302_309.out _; refine sB ?_; refine blk_far ?_ NB302_309.out _; refine sB ?_; refine blk_far ?_ NB302_309.out _; refine sB ?_; exact BK302.out) hb); replace BK309 := AM (blk_below (g := gb309) (o := .cells #[.bool t303, .slice Ao26 t304.length co26, .int .i64 t307] 77 (0, 0)) (by refine sB ?_; refine blk_put (cs := #[.bool t303, .slice Ao26 t304.length co26, .int .i64 0]) ?_ 2 _ rfl; refine sB ?_; refine blk_put (cs := #[.bool t303, .slice none 0 0, .int .i64 0]) ?_ 1 _ rfl; refine sB ?_; refine blk_put (cs := #[.bool false, .slice none 0 0, .int .i64 0]) ?_ 0 _ rfl; refine sB ?_; exact BK309.out) hb); replace HB := AM (below_step (pH HB) hb); (try clear hb); (try clear hb2); (try clear hk); (try clear hi); have ⟨hcz29_0, hcz29_1, hcz29_2, hfz29_0, hfz29_1, hfz29_2⟩ := z3 BK309) | ((with_reducible refine gate_callee (f := 47) rfl ?_); refine goesL_ (some 32) rfl rfl Try.func47 (by kernel_rfl) rfl #[.agg #[.bool t303, .slice Ao26 t304.length co26, .int .i64 t307], .int .i64 1] rfl (by (try simp only [List.map_toArray, List.map_cons, List.map_nil]); first | done | rfl | (simp only [List.length_drop, List.length_take]; rfl)) ?_; (with_reducible refine (laws_markDyadic.calls k t303 (fun k_ => some k_ = (.slice Ao26 t304.length co26 : Value).ownBlock) (.slice Ao26 t304.length co26) t304 t307 1 t311 t312 w _ ?side1 ?side2 A7.out).mono ?_); (case side1 => exact pH HB); (case side2 => exact Kd.R_tight rfl HO306.out); rintro e w30 ⟨rfl, hy0, hb, hkp⟩; refine ⟨_, rfl, ?_⟩; replace HO299 := AM (Kd.R_mono (ok' := fun k_ => some k_ ≠ (.slice Ao26 t304.length co26 : Value).ownBlock) (Kd.R_keptB (HO299.out) hkp (fun k_ hk_ hs_ => (hk_.2) hs_)) (fun k_ hk_ => hk_.1.2)); replace BK302 := AM (blk_kept (pB BK302) hkp (fun hs_ => (fun e_ => (Kd.R_ne HO306.out BK302.out (by decide)) e_) hs_)); replace BK309 := AM (blk_kept (pB BK309) hkp (fun hs_ => (fun e_ => (Kd.R_ne HO306.out BK309.out (by decide)) e_) hs_)); replace HO306 := AM (Kd.R_reok rfl hy0 (fun k_ e_ => HO306.out.1 k_ e_)); replace HB := AM (hb); (try clear hb); (try clear hkp); (try clear hy0); have ⟨hcz31_0, hcz31_1, hcz31_2, hfz31_0, hfz31_1, hfz31_2⟩ := z3 BK309) | ((with_reducible refine gate_callee (f := 48) rfl ?_); refine goesL_ (some 35) rfl rfl Try.func48 (by kernel_rfl) rfl #[.agg #[.bool t303, .slice Ao26 t312.length co26, .int .i64 t307], .int .i64 1] rfl (by (try simp only [List.map_toArray, List.map_cons, List.map_nil]); first | done | (rw [show t312.length = t304.length from (Kd.R_reads' HO306.out).1.symm] <;> rfl) | rfl | (simp only [List.length_drop, List.length_take]; rfl)) ?_; (with_reducible refine (laws_heldDyadic.calls k t303 _ _ t312 t307 1 t313 _ ?side1 ?side2 A8.out).mono ?_); (case side1 => exact cR HO306); (case side2 => rw [show t312.length = t304.length from (Kd.R_reads' HO306.out).1.symm]; exact (Kd.R_reads' HO306.out).2.1); rintro e w32 ⟨rfl, hb⟩; refine ⟨_, rfl, ?_⟩; replace HO299 := AM (Kd.R_below (pR HO299) hb); replace HO306 := AM (Kd.R_below (pR HO306) hb); replace BK302 := bB BK302 hb; replace BK309 := bB BK309 hb; replace HB := AM (below_step (pH HB) hb); (try clear hb); (try clear hb2); (try clear hk); (try clear hi)) | ((with_reducible refine gate_callee (f := 50) rfl ?_); refine goesL_ (some 43) rfl rfl Try.func50 (by kernel_rfl) rfl #[.int .u32 a0] rfl (by (try simp only [List.map_toArray, List.map_cons, List.map_nil]); first | done | rfl | (simp only [List.length_drop, List.length_take]; rfl)) ?_; (with_reducible refine (impl_DyOf.calls k a0 t314 t315 t318 t319 _ A11.out).mono ?_); rintro e w33 ⟨v316, rfl, ho0, hb⟩; refine ⟨_, rfl, ?_⟩; have HO317 := AM (Kd.R_lower (Kd.R_new' (Kd.R_new' ho0 (Kd.R_lt (pR HO299))) (Kd.R_lt (pR HO306))) (below_size (pH HB))); replace HO299 := AM (Kd.R_elder' (pR HO299) (Kd.R_base ho0) hb); replace HO306 := AM (Kd.R_elder' (pR HO306) (Kd.R_base ho0) hb); replace BK302 := bB BK302 hb; replace BK309 := bB BK309 hb; replace HB := AM (below_step (pH HB) hb); (try clear hb); (try clear hb2); (try clear hk); (try clear hi); (try clear ho0)) | ((with_reducible refine gate_dst (N := 9) rfl ?_); refine box_event ?hg (N := 9) ?hd (cs := #[.bool false, .slice none 0 0, .int .i64 0]) (t := 77) ?hr ?_; (case hd => rfl); (case hg => rfl); (case hr => first | (go_simp; done) | (go_simp; rfl)); intro gb320 hg w34 hbox hb; replace HO299 := AM (Kd.R_below (pR HO299) hb); replace HO306 := AM (Kd.R_below (pR HO306) hb); replace HO317 := AM (Kd.R_below (pR HO317) hb); have BK320 := AM (hbox); have GW320 := gH HB hg; have GE320 := gH HB hg; replace HB := AM (below_step (pH HB) hb); have NB302_320 := nL BK302 hg; have NB320_302 := nG BK302 hg; replace BK302 := bB BK302 hb; have NB309_320 := nL BK309 hg; have NB320_309 := nG BK309 hg; replace BK309 := bB BK309 hb; clear hb hbox hg; have hnb35 := NB320_302.out; have hnc35 := NB302_320.out; have hnb36 := NB320_309.out; have hnc36 := NB309_320.out; have ⟨hcz37_0, hcz37_1, hcz37_2, hfz37_0, hfz37_1, hfz37_2⟩ := z3 BK320; obtain ⟨Ao38, co38, eo38⟩ := Kd.R_slice HO317.out; subst eo38; have ⟨hcz39_0, hcz39_1, hcz39_2, hfz39_0, hfz39_1, hfz39_2⟩ := z3 BK302) | ((with_reducible refine gate_callee (f := 46) rfl ?_); refine goesL_ (some 48) rfl rfl Try.func46 (by kernel_rfl) rfl #[.agg #[.bool t314, .slice Ao38 t315.length co38, .int .i64 t318], .agg #[.bool t296, .slice Ao21 t297.length co21, .int .i64 t300]] rfl (by (try simp only [List.map_toArray, List.map_cons, List.map_nil]); first | done | rfl | (simp only [List.length_drop, List.length_take]; rfl)) ?_; (with_reducible refine (laws_eqDyadic.calls k t314 _ _ t315 t318 t296 _ _ t297 t300 true _ ?side1 ?side2 ?side3 ?side4 A12.out).mono ?_); (case side1 => refine (Kd.R_reads' (e := 50) (base := w.heap.size) (ok := fun k_ => ((True ∧ some k_ ≠ (.slice Ao21 t297.length co21 : Value).ownBlock) ∧ some k_ ≠ (.slice Ao26 t304.length co26 : Value).ownBlock)) (n := t315.length) (c := co38) ?_).2.2; exact (by (with_reducible repeat (first | apply Kd.R_alloc | apply Kd.R_drewN | apply Kd.R_drew)); exact (Kd.R_mono (Kd.R_far (p := ⟨gb320, 2, none⟩) (Kd.R_far (p := ⟨gb320, 1, none⟩) (Kd.R_far (p := ⟨gb320, 0, none⟩) (Kd.R_types HO317.out BK320.out (by decide)) (fun _ hk => hk.2) (.bool t314)) (fun _ hk => hk.2) (.slice Ao38 t315.length co38)) (fun _ hk => hk.2) (.int .i64 t318)) (fun _ h_ => h_.1)))); (case side2 => exact (Kd.R_reads' HO317.out).2.1); (case side3 => refine (Kd.R_reads' (e := 50) (base := w.heap.size) (ok := fun k_ => (some k_ ≠ (.slice Ao26 t304.length co26 : Value).ownBlock ∧ some k_ ≠ (.slice Ao38 t315.length co38 : Value).ownBlock)) (n := t297.length) (c := co21) ?_).2.2; exact (by (with_reducible repeat (first | apply Kd.R_alloc | apply Kd.R_drewN | apply Kd.R_drew)); exact (Kd.R_mono (Kd.R_far (p := ⟨gb320, 2, none⟩) (Kd.R_far (p := ⟨gb320, 1, none⟩) (Kd.R_far (p := ⟨gb320, 0, none⟩) (Kd.R_types HO299.out BK320.out (by decide)) (fun _ hk => hk.2) (.bool t314)) (fun _ hk => hk.2) (.slice Ao38 t315.length co38)) (fun _ hk => hk.2) (.int .i64 t318)) (fun _ h_ => h_.1)))); (case side4 => exact (Kd.R_reads' HO299.out).2.1); rintro e w40 ⟨rfl, hb⟩; refine ⟨_, rfl, ?_⟩; replace HO299 := AM (Kd.R_below (by (with_reducible repeat (first | apply Kd.R_alloc | apply Kd.R_drewN | apply Kd.R_drew)); exact (Kd.R_mono (Kd.R_far (p := ⟨gb320, 2, none⟩) (Kd.R_far (p := ⟨gb320, 1, none⟩) (Kd.R_far (p := ⟨gb320, 0, none⟩) (Kd.R_types HO299.out BK320.out (by decide)) (fun _ hk => hk.2) (.bool t314)) (fun _ hk => hk.2) (.slice Ao38 t315.length co38)) (fun _ hk => hk.2) (.int .i64 t318)) (fun _ h_ => h_.1))) hb); replace HO306 := AM (Kd.R_below (by (with_reducible repeat (first | apply Kd.R_alloc | apply Kd.R_drewN | apply Kd.R_drew)); exact (Kd.R_mono (Kd.R_far (p := ⟨gb320, 2, none⟩) (Kd.R_far (p := ⟨gb320, 1, none⟩) (Kd.R_far (p := ⟨gb320, 0, none⟩) (Kd.R_types HO306.out BK320.out (by decide)) (fun _ hk => hk.2) (.bool t314)) (fun _ hk => hk.2) (.slice Ao38 t315.length co38)) (fun _ hk => hk.2) (.int .i64 t318)) (fun _ h_ => h_.1))) hb); replace HO317 := AM (Kd.R_below (by (with_reducible repeat (first | apply Kd.R_alloc | apply Kd.R_drewN | apply Kd.R_drew)); exact (Kd.R_mono (Kd.R_far (p := ⟨gb320, 2, none⟩) (Kd.R_far (p := ⟨gb320, 1, none⟩) (Kd.R_far (p := ⟨gb320, 0, none⟩) (Kd.R_types HO317.out BK320.out (by decide)) (fun _ hk => hk.2) (.bool t314)) (fun _ hk => hk.2) (.slice Ao38 t315.length co38)) (fun _ hk => hk.2) (.int .i64 t318)) (fun _ h_ => h_.1))) hb); replace BK302 := AM (blk_below (g := gb302) (o := .cells #[.bool t296, .slice Ao21 t297.length co21, .int .i64 t300] 77 (0, 0)) (by refine sB ?_; refine blk_far ?_ NB302_320.out _; refine sB ?_; refine blk_far ?_ NB302_320.out _; refine sB ?_; refine blk_far ?_ NB302_320.out _; refine sB ?_; exact BK302.out) hb); replace BK309 := AM (blk_below (g := gb309) (o := .cells #[.bool t303, .slice Ao26 t304.length co26, .int .i64 t307] 77 (0, 0)) (by refine sB ?_; refine blk_far ?_ NB309_320.out _; refine sB ?_; refine blk_far ?_ NB309_320.out _; refine sB ?_; refine blk_far ?_ NB309_320.out _; refine sB ?_; exact BK309.out) hb); replace BK320 := AM (blk_below (g := gb320) (o := .cells #[.bool t314, .slice Ao38 t315.length co38, .int .i64 t318] 77 (0, 0)) (by refine sB ?_; refine blk_put (cs := #[.bool t314, .slice Ao38 t315.length co38, .int .i64 0]) ?_ 2 _ rfl; refine sB ?_; refine blk_put (cs := #[.bool t314, .slice none 0 0, .int .i64 0]) ?_ 1 _ rfl; refine sB ?_; refine blk_put (cs := #[.bool false, .slice none 0 0, .int .i64 0]) ?_ 0 _ rfl; refine sB ?_; exact BK320.out) hb); replace HB := AM (below_step (pH HB) hb); (try clear hb); (try clear hb2); (try clear hk); (try clear hi); have ⟨hcz41_0, hcz41_1, hcz41_2, hfz41_0, hfz41_1, hfz41_2⟩ := z3 BK309) | ((with_reducible refine gate_callee (f := 48) rfl ?_); refine goesL_ (some 57) rfl rfl Try.func48 (by kernel_rfl) rfl #[.agg #[.bool t303, .slice Ao26 t312.length co26, .int .i64 t307], .int .i64 1] rfl (by (try simp only [List.map_toArray, List.map_cons, List.map_nil]); first | done | (rw [show t312.length = t304.length from (Kd.R_reads' HO306.out).1.symm] <;> rfl) | rfl | (simp only [List.length_drop, List.length_take]; rfl)) ?_; (with_reducible refine (laws_heldDyadic.calls k t303 _ _ t312 t307 1 t322 _ ?side1 ?side2 A15.out).mono ?_); (case side1 => exact cR HO306); (case side2 => rw [show t312.length = t304.length from (Kd.R_reads' HO306.out).1.symm]; exact (Kd.R_reads' HO306.out).2.1); rintro e w42 ⟨rfl, hb⟩; refine ⟨_, rfl, ?_⟩; replace HO299 := AM (Kd.R_below (pR HO299) hb); replace HO306 := AM (Kd.R_below (pR HO306) hb); replace HO317 := AM (Kd.R_below (pR HO317) hb); replace BK302 := bB BK302 hb; replace BK309 := bB BK309 hb; replace BK320 := bB BK320 hb; replace HB := AM (below_step (pH HB) hb); (try clear hb); (try clear hb2); (try clear hk); (try clear hi)))
 go_ret
 exact ⟨by first | rfl | (simp [errW_none, errW_some] <;> rfl) | (simp [*, errW_none, errW_some] <;> rfl), pH HB⟩
/-- THE ONE PURE STATEMENT of laws_FnExactDyOf: yours. -/
def laws_FnExactDyOf.Pure : Prop := ∀ (a0 : Int), (Lit.int .u32 a0).wf = true → ∃ k, laws_FnExactDyOf.f k a0 = some true
theorem laws_FnExactDyOf.walk (P : laws_FnExactDyOf.Pure) (a0 : Int) (w : World) (w0 : (Lit.int .u32 a0).wf = true) :
 Calls Try.prog 11 #[.int .u32 a0] w fun e w' => e = .returned (.bool true) ∧ Below w.heap.size w w' := by
 obtain ⟨k, h⟩ := P a0 w0
 refine (laws_FnExactDyOf.calls k a0 true w h).mono ?_
 rintro e w' ⟨rfl, hd⟩
 exact ⟨rfl, hd⟩

end Go.Proofs.Ytcpdeenhjodmfaa.QDyOf
