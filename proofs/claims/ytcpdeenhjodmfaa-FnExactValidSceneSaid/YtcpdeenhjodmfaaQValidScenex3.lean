-- Written by wip/tools/mkprint.py (my program) out of the translation, for this claim. Not trusted: Lean checks it.
import Derived.Test.YtcpdeenhjodmfaaQValidScenex0
namespace Go.Proofs.Ytcpdeenhjodmfaa.QValidScene
open Go.RowKit Go.Proofs.YtcpdeenhjodmfaaW.PrintWords Go.Proofs.YtcpdeenhjodmfaaW.PrintLast Go.Proofs.YtcpdeenhjodmfaaW.PrintMore
attribute [local go_sem] max2_int min2_int max_two min_two max_three min_three max_four min_four   -- for this text's walks alone
set_option linter.unusedVariables false
set_option linter.unusedSimpArgs false

/-! ### impl_finite: function 79 -/
set_option maxRecDepth 100000 in
theorem run_f32 (x : Int) (w : World) : (callFunc 124 #[.int .u32 x]).run Try.prog w = .ok (.value (.float .f32 x.toNat)) w := by
  rw [run_callFunc_extern (e := Extern.MathFloatBits.float32frombits) Try.func124 (by kernel_rfl) (by kernel_rfl) (by kernel_rfl) (by kernel_rfl)]
  rfl
set_option maxRecDepth 100000 in
theorem run_b64 (b : Nat) (w : World) : (callFunc 166 #[.float .f64 b]).run Try.prog w = .ok (.value (.int .u64 b)) w := by
  rw [run_callFunc_extern (e := Extern.MathFloatBits.float64bits) Try.func166 (by kernel_rfl) (by kernel_rfl) (by kernel_rfl) (by kernel_rfl)]
  rfl
set_option maxRecDepth 100000 in
theorem run_f64 (x : Int) (w : World) : (callFunc 165 #[.int .u64 x]).run Try.prog w = .ok (.value (.float .f64 x.toNat)) w := by
  rw [run_callFunc_extern (e := Extern.MathFloatBits.float64frombits) Try.func165 (by kernel_rfl) (by kernel_rfl) (by kernel_rfl) (by kernel_rfl)]
  rfl
set_option maxRecDepth 100000 in
theorem finite_calls (x : Int) (b : Nat) (r : Bool) (w w1 : World) (hc : (convert 166 165 (.float .f32 x.toNat)).run Try.prog w = .ok (.float .f64 b) w1) (hw : Drawn0 w w1)
    (hr : r = ((!(FloatKind.f64.format.order (bits .andNot .u64 b 9223372036854775808).toNat 9218868437227405311 == some .gt)) && (!(FloatKind.f64.format.order b b != some .eq)))) :
    Calls Try.prog 79 #[.int .u32 x] w fun e w' => e = .returned (.bool r) ∧ Drawn0 w w' := by
  obtain ⟨n1, rfl⟩ := hw
  have h1 := run_f32 x
  have h2 := run_b64 b
  have h3 := run_f64 (bits .andNot .u64 b 9223372036854775808)
  cases h4 : (FloatKind.f64.format.order (bits .andNot .u64 b 9223372036854775808).toNat 9218868437227405311 == some .gt) with
  | true =>
    rw [h4] at hr
    subst hr
    go_enter Try.func79, Try.ntmps79
    go_wp2
    go_ret
    exact ⟨rfl, by repeat (first | exact Drawn0.refl _ | apply Drawn0.step)⟩
  | false =>
    rw [h4] at hr
    subst hr
    go_enter Try.func79, Try.ntmps79
    go_wp2
    go_ret
    exact ⟨rfl, by repeat (first | exact Drawn0.refl _ | apply Drawn0.step)⟩
theorem fl_and (b : Nat) (hb : b < 18446744073709551616) : (bits .andNot .u64 (b : Int) 9223372036854775808).toNat = b % 9223372036854775808 := by
  show (IntKind.u64.wrap (((BitVec.ofInt 64 ((b : Nat) : Int) &&& ~~~ (BitVec.ofInt 64 ((9223372036854775808 : Nat) : Int))).toNat : Nat) : Int)).toNat = _
  have e : (~~~ (BitVec.ofInt 64 ((9223372036854775808 : Nat) : Int))).toNat = 2 ^ 63 - 1 := by decide
  rw [BitVec.toNat_and, e, Nat.and_two_pow_sub_one_eq_mod, BitVec.ofInt_natCast, BitVec.toNat_ofNat, Nat.mod_eq_of_lt (a := b) (by omega)]
  have h : ∀ z : Int, IntKind.u64.wrap z = z % 18446744073709551616 := fun z => by simp [IntKind.wrap, IntKind.bits, IntKind.signed]
  rw [h]
  omega
theorem fl_nearest (neg : Bool) (mag : Nat) (place : Int) (hm : mag < 16777216) (h0 : -149 ≤ place) (h1 : place ≤ 104) : ∃ rung, rung ≤ 9218868437227405311 ∧ Ieee.double.nearest neg mag place = Ieee.double.word neg rung := by
  unfold Ieee.Format.nearest
  by_cases hz : mag = 0
  · rw [if_pos hz]
    exact ⟨0, by omega, rfl⟩
  · rw [if_neg hz]
    have hlog : mag.log2 < 24 := (Nat.log2_lt hz).2 (by omega)
    have hup : mag < 2 ^ (mag.log2 + 1) := Nat.lt_log2_self
    have e1 : Ieee.double.leastPlace = -1074 := by decide
    have e2 : (Ieee.double.fractionBits : Int) = 52 := by decide
    have e3 : Ieee.double.binade = 4503599627370496 := by decide
    have e4 : Ieee.double.infRung = 9218868437227405312 := by decide
    dsimp only
    rw [e1, e2, e3, e4, Int.max_eq_left (by omega)]
    have e5 : (place - (place + (mag.log2 : Int) - 52)).toNat = 52 - mag.log2 := by omega
    have e6 : (place + (mag.log2 : Int) - 52 - place).toNat = 0 := by omega
    rw [e5, e6]
    have hk : mag <<< (52 - mag.log2) < 2 ^ 53 := by
      rw [Nat.shiftLeft_eq]
      have : 2 ^ (mag.log2 + 1) * 2 ^ (52 - mag.log2) = 2 ^ 53 := by rw [← Nat.pow_add]; congr 1; omega
      rw [← this]
      exact Nat.mul_lt_mul_of_pos_right hup (Nat.two_pow_pos _)
    have hc : Ieee.Toward.even.cut neg (mag <<< (52 - mag.log2)) 0 = mag <<< (52 - mag.log2) := by
      generalize mag <<< (52 - mag.log2) = n
      simp [Ieee.Toward.cut, Nat.mod_one]
    rw [hc]
    have hk2 : mag <<< (52 - mag.log2) ≤ 9007199254740991 := by
      rw [show (2 : Nat) ^ 53 = 9007199254740992 from by kernel_rfl] at hk
      generalize mag <<< (52 - mag.log2) = n at hk ⊢
      clear hup hlog hz e1 e2 e3 e4 e5 e6 hc
      omega
    clear hk hc
    generalize mag <<< (52 - mag.log2) = n at hk2 ⊢
    have hq : (place + (mag.log2 : Int) - 52 - -1074).toNat ≤ 1149 := by omega
    generalize (place + (mag.log2 : Int) - 52 - -1074).toNat = q at hq ⊢
    clear hup hlog hz e1 e2 e3 e4 e5 e6
    refine ⟨_, Nat.le_trans (Nat.min_le_left _ _) ?_, rfl⟩
    omega
theorem fl_word (neg : Bool) (rung : Nat) : Ieee.double.word neg rung = if neg then 9223372036854775808 + rung else rung := by
  have : Ieee.double.signWeight = 9223372036854775808 := by decide
  unfold Ieee.Format.word
  rw [this]
theorem fl_read (w : Nat) : Ieee.double.read w = (if w % 9223372036854775808 < 4503599627370496 then .number (w / 9223372036854775808 % 2 == 1) (w % 9223372036854775808) (-1074)
    else if w % 9223372036854775808 < 9218868437227405312 then .number (w / 9223372036854775808 % 2 == 1) (4503599627370496 + w % 9223372036854775808 % 4503599627370496) (-1074 + ((w % 9223372036854775808 / 4503599627370496 - 1 : Nat) : Int))
    else if w % 9223372036854775808 = 9218868437227405312 then .infinity (w / 9223372036854775808 % 2 == 1) else .nan (w / 9223372036854775808 % 2 == 1) (w % 9223372036854775808 - 9218868437227405312)) := by
  have e0 : Ieee.double.signWeight = 9223372036854775808 := by decide
  have e1 : Ieee.double.leastPlace = -1074 := by decide
  have e3 : Ieee.double.binade = 4503599627370496 := by decide
  have e4 : Ieee.double.infRung = 9218868437227405312 := by decide
  unfold Ieee.Format.read
  rw [e0, e1, e3, e4]
theorem fl_max : Ieee.double.read 9218868437227405311 = .number false 9007199254740991 971 := by rw [fl_read]; decide
theorem fl_small (rung : Nat) (h : rung ≤ 9218868437227405311) : ∃ m i, Ieee.double.read rung = .number false m i ∧ m ≤ 9007199254740991 ∧ i ≤ 971 := by
  rw [fl_read, Nat.mod_eq_of_lt (by omega), Nat.div_eq_of_lt (by omega)]
  split
  · exact ⟨_, _, rfl, by omega, by omega⟩
  · rw [if_pos (by omega)]
    exact ⟨_, _, rfl, by omega, by omega⟩
theorem fl_gt (rung : Nat) (h : rung ≤ 9218868437227405311) : (Ieee.double.order rung 9218868437227405311 == some .gt) = false := by
  obtain ⟨m, i, h1, h2, h3⟩ := fl_small rung h
  unfold Ieee.Format.order
  rw [h1, fl_max]
  simp only [Ieee.Datum.order]
  rw [Int.min_eq_left h3]
  have : Ieee.signed false m (i - i).toNat ≤ Ieee.signed false 9007199254740991 (971 - i).toNat := by
    simp only [Ieee.signed, Int.sub_self, Int.toNat_zero, Nat.shiftLeft_zero, Bool.false_eq_true, if_false]
    rw [Nat.shiftLeft_eq]
    have := Nat.two_pow_pos (971 - i).toNat
    have : 9007199254740991 * 1 ≤ 9007199254740991 * 2 ^ (971 - i).toNat := Nat.mul_le_mul_left _ this
    omega
  generalize Ieee.signed false m (i - i).toNat = a at this
  generalize Ieee.signed false 9007199254740991 (971 - i).toNat = c at this
  have : compare a c ≠ .gt := by
    rw [Ne, Int.compare_eq_gt]
    omega
  generalize compare a c = o at this ⊢
  cases o <;> simp_all
theorem fl_fin (b : Nat) (neg : Bool) (rung : Nat) (h : rung ≤ 9218868437227405311) (hb : b = Ieee.double.word neg rung) :
    b < 18446744073709551616 ∧ b % 9223372036854775808 = rung ∧ (∃ s m i, Ieee.double.read b = .number s m i) := by
  rw [fl_word] at hb
  have h1 : b < 18446744073709551616 ∧ b % 9223372036854775808 = rung := by
    cases neg <;> simp at hb <;> omega
  refine ⟨h1.1, h1.2, ?_⟩
  rw [fl_read, h1.2]
  split
  · exact ⟨_, _, _, rfl⟩
  · rw [if_pos (by omega)]
    exact ⟨_, _, _, rfl⟩
theorem fl_self (b : Nat) (s : Bool) (m : Nat) (i : Int) (h : Ieee.double.read b = .number s m i) : (Ieee.double.order b b != some .eq) = false := by
  unfold Ieee.Format.order
  rw [h]
  simp only [Ieee.Datum.order]
  rw [show compare (Ieee.signed s m (i - min i i).toNat) (Ieee.signed s m (i - min i i).toNat) = .eq from by rw [Int.compare_eq_eq]]
  rfl
theorem fl_single (x : Nat) (hx : x < 4294967296) : Ieee.single.read x = (if x % 2147483648 < 8388608 then .number (x / 2147483648 % 2 == 1) (x % 2147483648) (-149)
    else if x % 2147483648 < 2139095040 then .number (x / 2147483648 % 2 == 1) (8388608 + x % 2147483648 % 8388608) (-149 + ((x % 2147483648 / 8388608 - 1 : Nat) : Int))
    else if x % 2147483648 = 2139095040 then .infinity (x / 2147483648 % 2 == 1) else .nan (x / 2147483648 % 2 == 1) (x % 2147483648 - 2139095040)) := by
  have e0 : Ieee.single.signWeight = 2147483648 := by decide
  have e1 : Ieee.single.leastPlace = -149 := by decide
  have e3 : Ieee.single.binade = 8388608 := by decide
  have e4 : Ieee.single.infRung = 2139095040 := by decide
  unfold Ieee.Format.read
  rw [e0, e1, e3, e4]
theorem fl_single_num (x : Nat) (hx : x < 4294967296) (h : x / 8388608 % 256 ≠ 255) : ∃ s m i, Ieee.single.read x = .number s m i ∧ m < 16777216 ∧ -149 ≤ i ∧ i ≤ 104 := by
  rw [fl_single x hx]
  split
  · exact ⟨_, _, _, rfl, by omega, by omega, by omega⟩
  · rw [if_pos (by omega)]
    exact ⟨_, _, _, rfl, by omega, by omega, by omega⟩
theorem fl_inf_gt : (Ieee.double.order 9218868437227405312 9218868437227405311 == some .gt) = true := by
  unfold Ieee.Format.order
  rw [fl_max, fl_read]
  decide
theorem fl_convert (x : Nat) (hx : x < 4294967296) (w : World) : ∃ (b : Nat) (w1 : World), (convert 166 165 (.float .f32 x)).run Try.prog w = .ok (.float .f64 b) w1 ∧ Drawn0 w w1 ∧
    ((!(FloatKind.f64.format.order (bits .andNot .u64 b 9223372036854775808).toNat 9218868437227405311 == some .gt)) && (!(FloatKind.f64.format.order b b != some .eq))) = (x / 8388608 % 256 != 255) := by
  have ha : (Try.prog.underlying 166).isSome = true := by kernel_rfl
  have hb : Try.prog.underlying 165 = some (.float .f64) := by kernel_rfl
  show ∃ (b : Nat) (w1 : World), _ ∧ _ ∧ ((!(Ieee.double.order (bits .andNot .u64 b 9223372036854775808).toNat 9218868437227405311 == some .gt)) && (!(Ieee.double.order b b != some .eq))) = _
  by_cases h : x / 8388608 % 256 = 255
  · have hr : (x / 8388608 % 256 != 255) = false := by simp [h]
    rw [hr]
    by_cases h1 : x % 2147483648 = 2139095040
    · have hd : FloatKind.f32.decode x = .infinity (x / 2147483648 % 2 == 1) := by
        show Ieee.single.read x = _
        rw [fl_single x hx, if_neg (by omega), if_neg (by omega), if_pos h1]
      refine ⟨_, w, run_convert_float_float w 166 165 .f32 .f64 x (FloatKind.f64.encode (.infinity (x / 2147483648 % 2 == 1))) ha hb (by unfold floatToFloatBits; rw [if_neg (by decide), hd]), Drawn0.refl w, ?_⟩
      have e : FloatKind.f64.encode (.infinity (x / 2147483648 % 2 == 1)) = Ieee.double.word (x / 2147483648 % 2 == 1) 9218868437227405312 := by
        show Ieee.double.word _ Ieee.double.infRung = _
        rw [show Ieee.double.infRung = 9218868437227405312 from by decide]
      rw [e, fl_word]
      have h2 : ∀ s : Bool, (bits .andNot .u64 (((if s then 9223372036854775808 + 9218868437227405312 else 9218868437227405312 : Nat)) : Int) 9223372036854775808).toNat = 9218868437227405312 := by decide
      rw [h2, fl_inf_gt]
      rfl
    · have hd : ∃ s f, FloatKind.f32.decode x = .nan s f := by
        refine ⟨x / 2147483648 % 2 == 1, x % 2147483648 - 2139095040, ?_⟩
        show Ieee.single.read x = _
        rw [fl_single x hx, if_neg (by omega), if_neg (by omega), if_neg h1]
      obtain ⟨s, f, hd⟩ := hd
      obtain ⟨u, hs'⟩ := Option.isSome_iff_exists.1 ha
      refine ⟨(Question.nanConv .f64 x).cut (w.tape w.drawn (.nanConv .f64 x)), w.drew, ?_, ⟨1, rfl⟩, ?_⟩
      · cases u <;> simp [convert, run_underlying hs', run_underlying hb, Conv.floatToFloat, hd, Question.forced]
      · generalize w.tape w.drawn (.nanConv .f64 x) = t
        have hb2 : (Question.nanConv .f64 x).cut t = t % 2 * 9223372036854775808 + 9218868437227405312 + 1 + t / 2 % 4503599627370495 := rfl
        rw [hb2]
        have hz : t / 2 % 4503599627370495 < 4503599627370495 := Nat.mod_lt _ (by omega)
        have ht : t % 2 < 2 := Nat.mod_lt _ (by omega)
        generalize t / 2 % 4503599627370495 = z at hz ⊢
        generalize t % 2 = s2 at ht ⊢
        have hr1 : ∀ q : Nat, q % 9223372036854775808 = 9218868437227405313 + z → ∃ s f, Ieee.double.read q = .nan s f := by
          intro q hq
          rw [fl_read, hq, if_neg (by omega), if_neg (by omega), if_neg (by omega)]
          exact ⟨_, _, rfl⟩
        obtain ⟨s3, f3, h3⟩ := hr1 (s2 * 9223372036854775808 + 9218868437227405312 + 1 + z) (by omega)
        rw [fl_and _ (by omega)]
        obtain ⟨s4, f4, h4⟩ := hr1 ((s2 * 9223372036854775808 + 9218868437227405312 + 1 + z) % 9223372036854775808) (by omega)
        unfold Ieee.Format.order
        rw [h3, h4]
        rfl
  · have hr : (x / 8388608 % 256 != 255) = true := by simp [h]
    rw [hr]
    obtain ⟨s, m, i, hd, hm, hi0, hi1⟩ := fl_single_num x hx h
    obtain ⟨rung, hrg, hw⟩ := fl_nearest s m i hm hi0 hi1
    obtain ⟨f1, f2, s5, m5, i5, f3⟩ := fl_fin (Ieee.double.nearest s m i) s rung hrg hw
    refine ⟨Ieee.double.nearest s m i, w, run_convert_float_float w 166 165 .f32 .f64 x _ ha hb ?_, Drawn0.refl w, ?_⟩
    · have hd' : FloatKind.f32.decode x = .number s m i := hd
      unfold floatToFloatBits
      rw [if_neg (by decide), hd']
      have he : FloatKind.f64.encode (.number s m i) = Ieee.double.nearest s m i := rfl
      have hf : (FloatKind.f64.decode (Ieee.double.nearest s m i)).isInfinity = false := by
        have : FloatKind.f64.decode (Ieee.double.nearest s m i) = .number s5 m5 i5 := f3
        rw [this]
        rfl
      dsimp only
      rw [he, hf]
      rfl
    · rw [fl_and _ f1, f2, fl_gt rung hrg, fl_self _ _ _ _ f3]
      rfl
def impl_finite.f (a0 : Int) : Option Bool := if 0 ≤ a0 ∧ a0 < 4294967296 then some (a0 / 8388608 % 256 != 255) else none
theorem impl_finite.calls (a0 : Int) (r : Bool) (w : World) (h : impl_finite.f a0 = some r) :
    Calls Try.prog 79 #[.int .u32 a0] w fun e w' => e = .returned (.bool r) ∧ Drawn0 w w' := by
  unfold impl_finite.f at h
  by_cases hr : 0 ≤ a0 ∧ a0 < 4294967296
  · rw [if_pos hr] at h
    obtain rfl := Option.some.inj h
    obtain ⟨n, rfl⟩ := Int.eq_ofNat_of_zero_le hr.1
    obtain ⟨b, w1, h1, h2, h3⟩ := fl_convert n (by omega) w
    refine finite_calls (n : Int) b _ w w1 (by simpa using h1) h2 ?_
    rw [h3]
    have e : (((n : Nat) : Int) / 8388608 % 256 != 255) = (n / 8388608 % 256 != 255) := by
      by_cases hn : n / 8388608 % 256 = 255
      · rw [bne_eq_false_iff_eq.2 hn, bne_eq_false_iff_eq.2 (by omega)]
      · rw [bne_iff_ne.2 hn, bne_iff_ne.2 (by omega)]
    exact e
  · rw [if_neg hr] at h
    cases h

/-! ### impl_finitePoint: function 135 -/
def impl_finitePoint.f (a0_0 : Int) (a0_1 : Int) (a0_2 : Int) : Option (Bool) := (impl_finite.f a0_0).bind fun t199 => (if t199 = true then ((impl_finite.f a0_1).bind fun t200 => (if t200 = true then ((impl_finite.f a0_2).bind fun t201 => (some t201)) else (some false))) else (some false))
set_option maxHeartbeats 8000000 in
set_option maxRecDepth 100000 in
theorem impl_finitePoint.calls (a0_0 : Int) (a0_1 : Int) (a0_2 : Int) (r : Bool) (w : World) (h : impl_finitePoint.f a0_0 a0_1 a0_2 = some r) :
 Calls Try.prog 135 #[.agg #[.int .u32 a0_0, .int .u32 a0_1, .int .u32 a0_2]] w fun e w' => e = .returned (.bool r) ∧ Below w.heap.size w w' := by
 have hu125 := Try.underlying125; have HB := AM (Below.refl w.heap.size w)
 have H : ((impl_finite.f a0_0).bind fun t199 => (if t199 = true then ((impl_finite.f a0_1).bind fun t200 => (if t200 = true then ((impl_finite.f a0_2).bind fun t201 => (some t201)) else (some false))) else (some false))) = some r := h
 clear h
 replace H := Option.bind_eq_some_iff.mp H
 obtain ⟨t199, A20, H⟩ := H
 (try dsimp only at H)
 have A2 := AM A20; clear A20
 by_cases c3 : t199 = true
 rotate_left
 · replace c3 := Bool.eq_false_iff.mpr c3
   subst c3
   have H1 : (some false) = some r := by rw [if_neg (show ¬ (false = true) by decide)] at H; exact H
   clear H; have H := H1; clear H1
   obtain rfl := Option.some.inj H
   go_enter Try.func135, Try.ntmps135
   go_wp2_with (first | ((with_reducible refine gate_dst (N := 1) rfl ?_); refine box_event ?hg (N := 1) ?hd (cs := #[.int .u32 a0_0, .int .u32 a0_1, .int .u32 a0_2]) (t := 125) ?hr ?_; (case hd => rfl); (case hg => rfl); (case hr => first | (go_simp; done) | (go_simp; rfl)); intro gb198 hg w11 hbox hb; have BK198 := AM (hbox); have GW198 := gH HB hg; have GE198 := gH HB hg; replace HB := AM (below_step (pH HB) hb); clear hb hbox hg; have ⟨hcz12_0, hcz12_1, hcz12_2, hfz12_0, hfz12_1, hfz12_2⟩ := z3 BK198) | ((with_reducible refine gate_callee (f := 79) rfl ?_); refine goesL_ (some 5) rfl rfl Try.func79 (by kernel_rfl) rfl #[.int .u32 a0_0] rfl (by (try simp only [List.map_toArray, List.map_cons, List.map_nil]); first | done | rfl | (simp only [List.length_drop, List.length_take]; rfl)) ?_; (with_reducible refine (impl_finite.calls a0_0 false _ A2.out).mono ?_); rintro e w' ⟨rfl, ⟨nd, rfl⟩⟩; refine ⟨_, rfl, ?_⟩))
   go_ret
   exact ⟨by first | rfl | (simp [errW_none, errW_some] <;> rfl) | (simp [*, errW_none, errW_some] <;> rfl), pH HB⟩

 subst c3
 have H1 : ((impl_finite.f a0_1).bind fun t200 => (if t200 = true then ((impl_finite.f a0_2).bind fun t201 => (some t201)) else (some false))) = some r := by rw [if_pos rfl] at H; exact H
 clear H; have H := H1; clear H1
 replace H := Option.bind_eq_some_iff.mp H
 obtain ⟨t200, A40, H⟩ := H
 (try dsimp only at H)
 have A4 := AM A40; clear A40
 by_cases c5 : t200 = true
 rotate_left
 · replace c5 := Bool.eq_false_iff.mpr c5
   subst c5
   have H1 : (some false) = some r := by rw [if_neg (show ¬ (false = true) by decide)] at H; exact H
   clear H; have H := H1; clear H1
   obtain rfl := Option.some.inj H
   go_enter Try.func135, Try.ntmps135
   go_wp2_with (first | ((with_reducible refine gate_dst (N := 1) rfl ?_); refine box_event ?hg (N := 1) ?hd (cs := #[.int .u32 a0_0, .int .u32 a0_1, .int .u32 a0_2]) (t := 125) ?hr ?_; (case hd => rfl); (case hg => rfl); (case hr => first | (go_simp; done) | (go_simp; rfl)); intro gb198 hg w9 hbox hb; have BK198 := AM (hbox); have GW198 := gH HB hg; have GE198 := gH HB hg; replace HB := AM (below_step (pH HB) hb); clear hb hbox hg; have ⟨hcz10_0, hcz10_1, hcz10_2, hfz10_0, hfz10_1, hfz10_2⟩ := z3 BK198) | ((with_reducible refine gate_callee (f := 79) rfl ?_); refine goesL_ (some 5) rfl rfl Try.func79 (by kernel_rfl) rfl #[.int .u32 a0_0] rfl (by (try simp only [List.map_toArray, List.map_cons, List.map_nil]); first | done | rfl | (simp only [List.length_drop, List.length_take]; rfl)) ?_; (with_reducible refine (impl_finite.calls a0_0 true _ A2.out).mono ?_); rintro e w' ⟨rfl, ⟨nd, rfl⟩⟩; refine ⟨_, rfl, ?_⟩) | (go_at_call 79; (with_reducible refine (impl_finite.calls a0_1 false _ A4.out).mono ?_); rintro e w' ⟨rfl, ⟨nd, rfl⟩⟩))
   go_ret
   exact ⟨by first | rfl | (simp [errW_none, errW_some] <;> rfl) | (simp [*, errW_none, errW_some] <;> rfl), pH HB⟩
 subst c5
 have H1 : ((impl_finite.f a0_2).bind fun t201 => (some t201)) = some r := by rw [if_pos rfl] at H; exact H
 clear H; have H := H1; clear H1
 replace H := Option.bind_eq_some_iff.mp H
 obtain ⟨t201, A60, H⟩ := H
 (try dsimp only at H)
 have A6 := AM A60; clear A60
 obtain rfl := Option.some.inj H
 go_enter Try.func135, Try.ntmps135
 go_wp2_with (first | ((with_reducible refine gate_dst (N := 1) rfl ?_); refine box_event ?hg (N := 1) ?hd (cs := #[.int .u32 a0_0, .int .u32 a0_1, .int .u32 a0_2]) (t := 125) ?hr ?_; (case hd => rfl); (case hg => rfl); (case hr => first | (go_simp; done) | (go_simp; rfl)); intro gb198 hg w7 hbox hb; have BK198 := AM (hbox); have GW198 := gH HB hg; have GE198 := gH HB hg; replace HB := AM (below_step (pH HB) hb); clear hb hbox hg; have ⟨hcz8_0, hcz8_1, hcz8_2, hfz8_0, hfz8_1, hfz8_2⟩ := z3 BK198) | ((with_reducible refine gate_callee (f := 79) rfl ?_); refine goesL_ (some 5) rfl rfl Try.func79 (by kernel_rfl) rfl #[.int .u32 a0_0] rfl (by (try simp only [List.map_toArray, List.map_cons, List.map_nil]); first | done | rfl | (simp only [List.length_drop, List.length_take]; rfl)) ?_; (with_reducible refine (impl_finite.calls a0_0 true _ A2.out).mono ?_); rintro e w' ⟨rfl, ⟨nd, rfl⟩⟩; refine ⟨_, rfl, ?_⟩) | (go_at_call 79; (with_reducible refine (impl_finite.calls a0_1 true _ A4.out).mono ?_); rintro e w' ⟨rfl, ⟨nd, rfl⟩⟩) | (go_at_call 79; (with_reducible refine (impl_finite.calls a0_2 t201 _ A6.out).mono ?_); rintro e w' ⟨rfl, ⟨nd, rfl⟩⟩))
 go_ret
 exact ⟨by first | rfl | (simp [errW_none, errW_some] <;> rfl) | (simp [*, errW_none, errW_some] <;> rfl), pH HB⟩
/-! ### impl_finitePoints: function 96 -/
def impl_finitePoints.l0 : Nat → List (S125) → Int → Int → Option (Bool)
 | 0, _, _, _ => none
 | k + 1, x5, x6, x7 => if x7 < x6 then (if 0 ≤ x7 then (if x7 < (x5.length : Int) then ((impl_finitePoint.f ((rd_T125 x5 x7).f0) ((rd_T125 x5 x7).f1) ((rd_T125 x5 x7).f2)).bind fun t204 => (if t204 = true then (impl_finitePoints.l0 k x5 x6 (wrap64 (x7 + 1))) else (some false))) else (none)) else (none)) else (some true)
def impl_finitePoints.f (k : Nat) (l0 : List (S125)) : Option (Bool) := impl_finitePoints.l0 k l0 (l0.length : Int) 0
theorem impl_finitePoints.mono_l : ∀ k, (∀ y0 y1 y2, LeO (impl_finitePoints.l0 k y0 y1 y2) (impl_finitePoints.l0 (k + 1) y0 y1 y2))
 | 0 => fun _ _ _ r h => by simp [impl_finitePoints.l0] at h
 | k + 1 => by
  have ih0 := impl_finitePoints.mono_l k
  · intro y0 y1 y2
    unfold impl_finitePoints.l0
    repeat' with_reducible first | exact ih0 _ _ _ | exact LeO.refl _ | exact LeO.none _ | refine LeO.ite ?_ ?_ | refine LeO.bind ?_ (fun _ => ?_)
theorem impl_finitePoints.mono : ∀ a0 k, LeO (impl_finitePoints.f k a0) (impl_finitePoints.f (k + 1) a0) := by
 intro a0 k
 have ih0 := impl_finitePoints.mono_l k
 unfold impl_finitePoints.f
 repeat' with_reducible first | exact ih0 _ _ _ | exact LeO.refl _ | exact LeO.none _ | refine LeO.ite ?_ ?_ | refine LeO.bind ?_ (fun _ => ?_)
set_option maxHeartbeats 8000000 in
set_option maxRecDepth 100000 in
theorem impl_finitePoints.calls (k : Nat) (A0 : Option Addr) (c0 : Nat) (l0 : List (S125)) (r : Bool) (w : World) (hr0 : Kd.C k125 w A0 l0.length l0) (hc0 : l0.length ≤ c0) (h : impl_finitePoints.f k l0 = some r) :
 Calls Try.prog 96 #[.slice A0 l0.length c0] w fun e w' => e = .returned (.bool r) ∧ Below w.heap.size w w' := by
 have hu125 := Try.underlying125; have HR0 := AM hr0; have HC0 := AM hc0; clear hr0 hc0; have HB := AM (Below.refl w.heap.size w)
 have H : (impl_finitePoints.l0 k l0 (l0.length : Int) 0) = some r := h
 clear h
 have H' := AM H
 clear H
 go_enter Try.func96, Try.ntmps96
 go_wp2
 go_loopg [7] k (fun kq v7 w' => ∃ (x7_1 : Int), v7 = .int .i64 x7_1 ∧ Aside0 (impl_finitePoints.l0 kq l0 (l0.length : Int) x7_1 = some r) ∧ Aside0 (kq ≤ k) ∧ Aside0 (Below w.heap.size w w'))
 case atStart => exact ⟨(0), (by first | rfl | (simp; done) | (simp [*]; done)), H', ⟨Nat.le_refl _⟩, ⟨pH HB⟩⟩
 case round =>
  clear H'
  obtain ⟨x7_1, rfl, HA, HK1, HB⟩ := hrel
  cases gk with
  | zero => exact absurd HA.out (by simp [impl_finitePoints.l0])
  | succ k1 =>
   have H := HA.out; clear HA
   simp only [impl_finitePoints.l0] at H
   by_cases c2 : x7_1 < (l0.length : Int)
   rotate_left
   · rw [if_neg c2] at H
     have c2b0 : decide (x7_1 < (l0.length : Int)) = false := decide_eq_false c2
     clear c2
     obtain rfl := Option.some.inj H
     go_wp2
     go_ret
     exact ⟨by first | rfl | (simp [errW_none, errW_some] <;> rfl) | (simp [*, errW_none, errW_some] <;> rfl), pH HB⟩

   rw [if_pos c2] at H
   have c2b0 : decide (x7_1 < (l0.length : Int)) = true := decide_eq_true c2
   clear c2
   by_cases c3 : 0 ≤ x7_1
   rotate_left
   · rw [if_neg c3] at H
     exact absurd H (by simp)
   rw [if_pos c3] at H
   have c3b0 : decide (0 ≤ x7_1) = true := decide_eq_true c3
   clear c3
   by_cases c4 : x7_1 < (l0.length : Int)
   rotate_left
   · rw [if_neg c4] at H
     exact absurd H (by simp)
   rw [if_pos c4] at H
   have c4b0 : decide (x7_1 < (l0.length : Int)) = true := decide_eq_true c4
   clear c4
   replace H := Option.bind_eq_some_iff.mp H
   obtain ⟨t204, A50, H⟩ := H
   (try dsimp only at H)
   have A5 := AM A50; clear A50
   by_cases c6 : t204 = true
   rotate_left
   · replace c6 := Bool.eq_false_iff.mpr c6
     subst c6
     have H1 : (some false) = some r := by rw [if_neg (show ¬ (false = true) by decide)] at H; exact H
     clear H; have H := H1; clear H1
     obtain rfl := Option.some.inj H
     have p202 : 0 ≤ (x7_1 : Int) := of_decide_eq_true (by first | (with_reducible assumption) | assumption)
     have q202 : x7_1 < (l0.length : Int) := of_decide_eq_true (by first | (with_reducible assumption) | assumption)
     obtain ⟨ad202, e202, hx202_0, hx202_1, hx202_2⟩ := at_T125 HR0.out x7_1 p202 q202
     cases e202
     replace hx202_0 := (HB.out.cell (World.block_lt_of_cell? w _ hx202_0)).trans hx202_0; replace hx202_1 := (HB.out.cell (World.block_lt_of_cell? w _ hx202_1)).trans hx202_1; replace hx202_2 := (HB.out.cell (World.block_lt_of_cell? w _ hx202_2)).trans hx202_2; replace p202 := eq_true p202; replace q202 := eq_true q202
     go_wp2_with (first | ((with_reducible refine gate_dst (N := 4) rfl ?_); refine box_event ?hg (N := 4) ?hd (cs := #[.int .u32 0, .int .u32 0, .int .u32 0]) (t := 125) ?hr ?_; (case hd => rfl); (case hg => rfl); (case hr => first | (go_simp; done) | (go_simp; rfl)); intro gb203 hg w10 hbox hb; have BK203 := AM (hbox); have GW203 := gH HB hg; have GE203 := gH HB hg; replace HB := AM (below_step (pH HB) hb); clear hb hbox hg; have ⟨hcz11_0, hcz11_1, hcz11_2, hfz11_0, hfz11_1, hfz11_2⟩ := z3 BK203) | ((with_reducible refine gate_callee (f := 135) rfl ?_); refine goesL_ (some 12) rfl rfl Try.func135 (by kernel_rfl) rfl #[.agg #[.int .u32 ((rd_T125 l0 x7_1).f0), .int .u32 ((rd_T125 l0 x7_1).f1), .int .u32 ((rd_T125 l0 x7_1).f2)]] rfl (by (try simp only [List.map_toArray, List.map_cons, List.map_nil]); first | done | rfl | (simp only [List.length_drop, List.length_take]; rfl)) ?_; (with_reducible refine (impl_finitePoint.calls ((rd_T125 l0 x7_1).f0) ((rd_T125 l0 x7_1).f1) ((rd_T125 l0 x7_1).f2) false _ A5.out).mono ?_); rintro e w12 ⟨rfl, hb⟩; refine ⟨_, rfl, ?_⟩; replace BK203 := AM (blk_below (g := gb203) (o := .cells #[.int .u32 ((rd_T125 l0 x7_1).f0), .int .u32 ((rd_T125 l0 x7_1).f1), .int .u32 ((rd_T125 l0 x7_1).f2)] 125 (0, 0)) (by refine sB ?_; refine blk_put (cs := #[.int .u32 ((rd_T125 l0 x7_1).f0), .int .u32 ((rd_T125 l0 x7_1).f1), .int .u32 0]) ?_ 2 _ rfl; refine sB ?_; refine blk_put (cs := #[.int .u32 ((rd_T125 l0 x7_1).f0), .int .u32 0, .int .u32 0]) ?_ 1 _ rfl; refine sB ?_; refine blk_put (cs := #[.int .u32 0, .int .u32 0, .int .u32 0]) ?_ 0 _ rfl; refine sB ?_; exact BK203.out) hb); replace HB := AM (below_step (pH HB) hb); (try clear hb); (try clear hb2); (try clear hk); (try clear hi)))
     go_ret
     exact ⟨by first | rfl | (simp [errW_none, errW_some] <;> rfl) | (simp [*, errW_none, errW_some] <;> rfl), pH HB⟩
   subst c6
   have H1 : (impl_finitePoints.l0 k1 l0 (l0.length : Int) (wrap64 (x7_1 + 1))) = some r := by rw [if_pos rfl] at H; exact H
   clear H; have H := H1; clear H1
   have H' := AM H
   clear H
   have p202 : 0 ≤ (x7_1 : Int) := of_decide_eq_true (by first | (with_reducible assumption) | assumption)
   have q202 : x7_1 < (l0.length : Int) := of_decide_eq_true (by first | (with_reducible assumption) | assumption)
   obtain ⟨ad202, e202, hx202_0, hx202_1, hx202_2⟩ := at_T125 HR0.out x7_1 p202 q202
   cases e202
   replace hx202_0 := (HB.out.cell (World.block_lt_of_cell? w _ hx202_0)).trans hx202_0; replace hx202_1 := (HB.out.cell (World.block_lt_of_cell? w _ hx202_1)).trans hx202_1; replace hx202_2 := (HB.out.cell (World.block_lt_of_cell? w _ hx202_2)).trans hx202_2; replace p202 := eq_true p202; replace q202 := eq_true q202
   go_wp2_with (first | ((with_reducible refine gate_dst (N := 4) rfl ?_); refine box_event ?hg (N := 4) ?hd (cs := #[.int .u32 0, .int .u32 0, .int .u32 0]) (t := 125) ?hr ?_; (case hd => rfl); (case hg => rfl); (case hr => first | (go_simp; done) | (go_simp; rfl)); intro gb203 hg w7 hbox hb; have BK203 := AM (hbox); have GW203 := gH HB hg; have GE203 := gH HB hg; replace HB := AM (below_step (pH HB) hb); clear hb hbox hg; have ⟨hcz8_0, hcz8_1, hcz8_2, hfz8_0, hfz8_1, hfz8_2⟩ := z3 BK203) | ((with_reducible refine gate_callee (f := 135) rfl ?_); refine goesL_ (some 12) rfl rfl Try.func135 (by kernel_rfl) rfl #[.agg #[.int .u32 ((rd_T125 l0 x7_1).f0), .int .u32 ((rd_T125 l0 x7_1).f1), .int .u32 ((rd_T125 l0 x7_1).f2)]] rfl (by (try simp only [List.map_toArray, List.map_cons, List.map_nil]); first | done | rfl | (simp only [List.length_drop, List.length_take]; rfl)) ?_; (with_reducible refine (impl_finitePoint.calls ((rd_T125 l0 x7_1).f0) ((rd_T125 l0 x7_1).f1) ((rd_T125 l0 x7_1).f2) true _ A5.out).mono ?_); rintro e w9 ⟨rfl, hb⟩; refine ⟨_, rfl, ?_⟩; replace BK203 := AM (blk_below (g := gb203) (o := .cells #[.int .u32 ((rd_T125 l0 x7_1).f0), .int .u32 ((rd_T125 l0 x7_1).f1), .int .u32 ((rd_T125 l0 x7_1).f2)] 125 (0, 0)) (by refine sB ?_; refine blk_put (cs := #[.int .u32 ((rd_T125 l0 x7_1).f0), .int .u32 ((rd_T125 l0 x7_1).f1), .int .u32 0]) ?_ 2 _ rfl; refine sB ?_; refine blk_put (cs := #[.int .u32 ((rd_T125 l0 x7_1).f0), .int .u32 0, .int .u32 0]) ?_ 1 _ rfl; refine sB ?_; refine blk_put (cs := #[.int .u32 0, .int .u32 0, .int .u32 0]) ?_ 0 _ rfl; refine sB ?_; exact BK203.out) hb); replace HB := AM (below_step (pH HB) hb); (try clear hb); (try clear hb2); (try clear hk); (try clear hi)))
   go_roundg k1
   case measure => have := HK1.out; omega
   case rel => exact ⟨(wrap64 (x7_1 + 1)), (by first | rfl | (simp; done) | (simp [*]; done)), H', ⟨by have := HK1.out; omega⟩, ⟨pH HB⟩⟩
/-! ### impl_Tri_finite: function 133 -/
def impl_Tri_finite.f (k : Nat) (a0_0 : Int) (a0_1 : Int) (a0_2 : Int) (a0_3 : Int) (a0_4 : Int) (a0_5 : Int) (a0_6 : Int) (a0_7 : Int) (a0_8 : Int) : Option (Bool) := (impl_finitePoints.f k (([(⟨a0_0, a0_1, a0_2⟩ : S125), (⟨a0_3, a0_4, a0_5⟩ : S125), (⟨a0_6, a0_7, a0_8⟩ : S125)] : List (S125)))).bind fun t209 => (some t209)
theorem impl_Tri_finite.mono : ∀ a0 a1 a2 a3 a4 a5 a6 a7 a8 k, LeO (impl_Tri_finite.f k a0 a1 a2 a3 a4 a5 a6 a7 a8) (impl_Tri_finite.f (k + 1) a0 a1 a2 a3 a4 a5 a6 a7 a8) := by
 intro a0 a1 a2 a3 a4 a5 a6 a7 a8 k
 unfold impl_Tri_finite.f
 repeat' with_reducible first | exact impl_finitePoints.mono _ _ | exact LeO.refl _ | exact LeO.none _ | refine LeO.ite ?_ ?_ | refine LeO.bind ?_ (fun _ => ?_)
set_option maxHeartbeats 8000000 in
set_option maxRecDepth 100000 in
theorem impl_Tri_finite.calls (k : Nat) (a0_0 : Int) (a0_1 : Int) (a0_2 : Int) (a0_3 : Int) (a0_4 : Int) (a0_5 : Int) (a0_6 : Int) (a0_7 : Int) (a0_8 : Int) (r : Bool) (w : World) (h : impl_Tri_finite.f k a0_0 a0_1 a0_2 a0_3 a0_4 a0_5 a0_6 a0_7 a0_8 = some r) :
 Calls Try.prog 133 #[.agg #[.int .u32 a0_0, .int .u32 a0_1, .int .u32 a0_2, .int .u32 a0_3, .int .u32 a0_4, .int .u32 a0_5, .int .u32 a0_6, .int .u32 a0_7, .int .u32 a0_8]] w fun e w' => e = .returned (.bool r) ∧ Below w.heap.size w w' := by
 have hu151 := Try.underlying151; have hu125 := Try.underlying125; have HB := AM (Below.refl w.heap.size w)
 have H : ((impl_finitePoints.f k (([(⟨a0_0, a0_1, a0_2⟩ : S125), (⟨a0_3, a0_4, a0_5⟩ : S125), (⟨a0_6, a0_7, a0_8⟩ : S125)] : List (S125)))).bind fun t209 => (some t209)) = some r := h
 clear h
 obtain ⟨y206, hy206⟩ : ∃ y_ : List (S125), y_ = (([(⟨a0_0, a0_1, a0_2⟩ : S125), (⟨a0_3, a0_4, a0_5⟩ : S125), (⟨a0_6, a0_7, a0_8⟩ : S125)] : List (S125))) := ⟨_, rfl⟩
 replace H : ((impl_finitePoints.f k y206).bind fun t209 => (some t209)) = some r := by first | (rw [hy206]; with_reducible exact H) | (have H2_ := (Option.bind_some _ _).symm.trans H; rw [hy206]; with_reducible exact H2_) | (have H2_ := (Option.bind_some _ _).symm.trans H; with_reducible exact H2_) | with_reducible exact H | (rw [hy206]; exact H) | exact H
 have Ny206 := AM hy206; clear hy206
 replace H := Option.bind_eq_some_iff.mp H
 obtain ⟨t209, A20, H⟩ := H
 (try dsimp only at H)
 have A2 := AM A20; clear A20
 obtain rfl := Option.some.inj H
 go_enter Try.func133, Try.ntmps133
 go_wp2_with (first | ((with_reducible refine gate_dst (N := 1) rfl ?_); refine box_event ?hg (N := 1) ?hd (cs := #[.int .u32 a0_0, .int .u32 a0_1, .int .u32 a0_2, .int .u32 a0_3, .int .u32 a0_4, .int .u32 a0_5, .int .u32 a0_6, .int .u32 a0_7, .int .u32 a0_8]) (t := 151) ?hr ?_; (case hd => rfl); (case hg => rfl); (case hr => first | (go_simp; done) | (go_simp; rfl)); intro gb205 hg w3 hbox hb; have BK205 := AM (hbox); have GW205 := gH HB hg; have GE205 := gH HB hg; replace HB := AM (below_step (pH HB) hb); clear hb hbox hg; have hcz4_0 : w3.cell? ⟨gb205, 0, none⟩ = some (.int .u32 a0_0) := (blk_cell BK205.out 0).trans rfl; have hcz4_1 : w3.cell? ⟨gb205, 1, none⟩ = some (.int .u32 a0_1) := (blk_cell BK205.out 1).trans rfl; have hcz4_2 : w3.cell? ⟨gb205, 2, none⟩ = some (.int .u32 a0_2) := (blk_cell BK205.out 2).trans rfl; have hcz4_3 : w3.cell? ⟨gb205, 3, none⟩ = some (.int .u32 a0_3) := (blk_cell BK205.out 3).trans rfl; have hcz4_4 : w3.cell? ⟨gb205, 4, none⟩ = some (.int .u32 a0_4) := (blk_cell BK205.out 4).trans rfl; have hcz4_5 : w3.cell? ⟨gb205, 5, none⟩ = some (.int .u32 a0_5) := (blk_cell BK205.out 5).trans rfl; have hcz4_6 : w3.cell? ⟨gb205, 6, none⟩ = some (.int .u32 a0_6) := (blk_cell BK205.out 6).trans rfl; have hcz4_7 : w3.cell? ⟨gb205, 7, none⟩ = some (.int .u32 a0_7) := (blk_cell BK205.out 7).trans rfl; have hcz4_8 : w3.cell? ⟨gb205, 8, none⟩ = some (.int .u32 a0_8) := (blk_cell BK205.out 8).trans rfl; have hfz4_0 := blk_frozen BK205.out 0; have hfz4_1 := blk_frozen BK205.out 1; have hfz4_2 := blk_frozen BK205.out 2; have hfz4_3 := blk_frozen BK205.out 3; have hfz4_4 := blk_frozen BK205.out 4; have hfz4_5 := blk_frozen BK205.out 5; have hfz4_6 := blk_frozen BK205.out 6; have hfz4_7 := blk_frozen BK205.out 7; have hfz4_8 := blk_frozen BK205.out 8) | ((with_reducible refine gate_dst (N := 9) rfl ?_); refine Kd.R_lit k125 _ 125 ?hg (N := 9) ?hd (xs := ([(⟨a0_0, a0_1, a0_2⟩ : S125), (⟨a0_3, a0_4, a0_5⟩ : S125), (⟨a0_6, a0_7, a0_8⟩ : S125)] : List (S125))) (inner := [.int .u32 a0_0, .int .u32 a0_1, .int .u32 a0_2, .int .u32 a0_3, .int .u32 a0_4, .int .u32 a0_5, .int .u32 a0_6, .int .u32 a0_7, .int .u32 a0_8]) (ok := fun _ => True) (okp := fun _ => True) ?hr ?hp (fun _ hk => hk) trivial (Below.refl _ _) (Nat.le_refl _) (by simp) ?_; (case hd => rfl); (case hg => rfl); (case hr => first | (go_simp; done) | (go_simp; rfl)); (case hp => exact (Reps.c3 (show Kd.M k125 _ _ _ (⟨a0_0, a0_1, a0_2⟩ : S125) [.int .u32 a0_0, .int .u32 a0_1, .int .u32 a0_2] from (k125_mkM _ _ _ (⟨a0_0, a0_1, a0_2⟩ : S125) )) (Reps.c3 (show Kd.M k125 _ _ _ (⟨a0_3, a0_4, a0_5⟩ : S125) [.int .u32 a0_3, .int .u32 a0_4, .int .u32 a0_5] from (k125_mkM _ _ _ (⟨a0_3, a0_4, a0_5⟩ : S125) )) (Reps.c3 (show Kd.M k125 _ _ _ (⟨a0_6, a0_7, a0_8⟩ : S125) [.int .u32 a0_6, .int .u32 a0_7, .int .u32 a0_8] from (k125_mkM _ _ _ (⟨a0_6, a0_7, a0_8⟩ : S125) )) (Reps.none _ _))))); intro v207 w5 ho6 hb hg_ hnew_; clear hg_ hnew_; (first | rw [← Ny206.out] at ho6 | (simp only [Int.reduceToNat] at ho6; rw [← Ny206.out] at ho6)); have HO208 := AM (Kd.R_lower ho6 (below_size (pH HB))); replace BK205 := bB BK205 hb; replace HB := AM (below_step (pH HB) hb); clear hb ho6; obtain ⟨Ao7, co7, eo7⟩ := Kd.R_slice HO208.out; subst eo7) | ((with_reducible refine gate_callee (f := 96) rfl ?_); refine goesL_ (some 10) rfl rfl Try.func96 (by kernel_rfl) rfl #[.slice Ao7 y206.length co7] rfl (by (try simp only [List.map_toArray, List.map_cons, List.map_nil]); first | done | rfl | (simp only [List.length_drop, List.length_take]; rfl)) ?_; (with_reducible refine (impl_finitePoints.calls k _ _ y206 t209 _ ?side1 ?side2 A2.out).mono ?_); (case side1 => exact cR HO208); (case side2 => exact (Kd.R_reads' HO208.out).2.1); rintro e w8 ⟨rfl, hb⟩; refine ⟨_, rfl, ?_⟩; replace HO208 := AM (Kd.R_below (pR HO208) hb); replace BK205 := bB BK205 hb; replace HB := AM (below_step (pH HB) hb); (try clear hb); (try clear hb2); (try clear hk); (try clear hi)))
 go_ret
 exact ⟨by first | rfl | (simp [errW_none, errW_some] <;> rfl) | (simp [*, errW_none, errW_some] <;> rfl), pH HB⟩

/-! ### impl_goodTris: function 94 -/
def impl_goodTris.l0 : Nat → List (S151) → Int → Int → Option (Bool)
 | 0, _, _, _ => none
 | k + 1, x8, x9, x10 => if x10 < x9 then (if 0 ≤ x10 then (if x10 < (x8.length : Int) then ((impl_Tri_finite.f k ((rd_T151 x8 x10).f0.f0) ((rd_T151 x8 x10).f0.f1) ((rd_T151 x8 x10).f0.f2) ((rd_T151 x8 x10).f1.f0) ((rd_T151 x8 x10).f1.f1) ((rd_T151 x8 x10).f1.f2) ((rd_T151 x8 x10).f2.f0) ((rd_T151 x8 x10).f2.f1) ((rd_T151 x8 x10).f2.f2)).bind fun t212 => (if t212 = true then (impl_goodTris.l0 k x8 x9 (wrap64 (x10 + 1))) else (some false))) else (none)) else (none)) else (some true)
def impl_goodTris.f (k : Nat) (l0 : List (S151)) : Option (Bool) := if (l0.length : Int) > 40 then (some false) else (impl_goodTris.l0 k l0 (l0.length : Int) 0)
theorem impl_goodTris.mono_l : ∀ k, (∀ y0 y1 y2, LeO (impl_goodTris.l0 k y0 y1 y2) (impl_goodTris.l0 (k + 1) y0 y1 y2))
 | 0 => fun _ _ _ r h => by simp [impl_goodTris.l0] at h
 | k + 1 => by
  have ih0 := impl_goodTris.mono_l k
  · intro y0 y1 y2
    unfold impl_goodTris.l0
    repeat' with_reducible first | exact ih0 _ _ _ | exact impl_Tri_finite.mono _ _ _ _ _ _ _ _ _ _ | exact LeO.refl _ | exact LeO.none _ | refine LeO.ite ?_ ?_ | refine LeO.bind ?_ (fun _ => ?_)
theorem impl_goodTris.mono : ∀ a0 k, LeO (impl_goodTris.f k a0) (impl_goodTris.f (k + 1) a0) := by
 intro a0 k
 have ih0 := impl_goodTris.mono_l k
 unfold impl_goodTris.f
 repeat' with_reducible first | exact ih0 _ _ _ | exact impl_Tri_finite.mono _ _ _ _ _ _ _ _ _ _ | exact LeO.refl _ | exact LeO.none _ | refine LeO.ite ?_ ?_ | refine LeO.bind ?_ (fun _ => ?_)
set_option maxHeartbeats 8000000 in
set_option maxRecDepth 100000 in
theorem impl_goodTris.calls (k : Nat) (A0 : Option Addr) (c0 : Nat) (l0 : List (S151)) (r : Bool) (w : World) (hr0 : Kd.C k151 w A0 l0.length l0) (hc0 : l0.length ≤ c0) (h : impl_goodTris.f k l0 = some r) :
 Calls Try.prog 94 #[.slice A0 l0.length c0] w fun e w' => e = .returned (.bool r) ∧ Below w.heap.size w w' := by
 have hu151 := Try.underlying151; have HR0 := AM hr0; have HC0 := AM hc0; clear hr0 hc0; have HB := AM (Below.refl w.heap.size w)
 have H : (if (l0.length : Int) > 40 then (some false) else (impl_goodTris.l0 k l0 (l0.length : Int) 0)) = some r := h
 clear h
 by_cases c2 : (l0.length : Int) > 40
 · rw [if_pos c2] at H
   have c2b0 : decide (40 < (l0.length : Int)) = true := decide_eq_true c2
   have c2b1 : decide (40 < l0.length) = true := decide_eq_true (by omega)
   clear c2
   obtain rfl := Option.some.inj H
   go_enter Try.func94, Try.ntmps94
   go_wp2
   go_ret
   exact ⟨by first | rfl | (simp [errW_none, errW_some] <;> rfl) | (simp [*, errW_none, errW_some] <;> rfl), pH HB⟩
 rw [if_neg c2] at H
 have c2b0 : decide (40 < (l0.length : Int)) = false := decide_eq_false c2
 have c2b1 : decide (40 < l0.length) = false := decide_eq_false (by omega)
 clear c2
 have H' := AM H
 clear H
 go_enter Try.func94, Try.ntmps94
 go_wp2
 go_loopg [10] k (fun kq v10 w' => ∃ (x10_1 : Int), v10 = .int .i64 x10_1 ∧ Aside0 (impl_goodTris.l0 kq l0 (l0.length : Int) x10_1 = some r) ∧ Aside0 (kq ≤ k) ∧ Aside0 (Below w.heap.size w w'))
 case atStart => exact ⟨(0), (by first | rfl | (simp; done) | (simp [*]; done)), H', ⟨Nat.le_refl _⟩, ⟨pH HB⟩⟩
 case round =>
  clear H'
  try clear c2
  try clear c2b0
  try clear c2b1
  try clear p2
  obtain ⟨x10_1, rfl, HA, HK1, HB⟩ := hrel
  cases gk with
  | zero => exact absurd HA.out (by simp [impl_goodTris.l0])
  | succ k1 =>
   have H := HA.out; clear HA
   simp only [impl_goodTris.l0] at H
   by_cases c3 : x10_1 < (l0.length : Int)
   rotate_left
   · rw [if_neg c3] at H
     have c3b0 : decide (x10_1 < (l0.length : Int)) = false := decide_eq_false c3
     clear c3
     obtain rfl := Option.some.inj H
     go_wp2
     go_ret
     exact ⟨by first | rfl | (simp [errW_none, errW_some] <;> rfl) | (simp [*, errW_none, errW_some] <;> rfl), pH HB⟩

   rw [if_pos c3] at H
   have c3b0 : decide (x10_1 < (l0.length : Int)) = true := decide_eq_true c3
   clear c3
   by_cases c4 : 0 ≤ x10_1
   rotate_left
   · rw [if_neg c4] at H
     exact absurd H (by simp)
   rw [if_pos c4] at H
   have c4b0 : decide (0 ≤ x10_1) = true := decide_eq_true c4
   clear c4
   by_cases c5 : x10_1 < (l0.length : Int)
   rotate_left
   · rw [if_neg c5] at H
     exact absurd H (by simp)
   rw [if_pos c5] at H
   have c5b0 : decide (x10_1 < (l0.length : Int)) = true := decide_eq_true c5
   clear c5
   replace H := Option.bind_eq_some_iff.mp H
   obtain ⟨t212, A60, H⟩ := H
   (try dsimp only at H)
   have A6 := AM A60; clear A60
   by_cases c7 : t212 = true
   rotate_left
   · replace c7 := Bool.eq_false_iff.mpr c7
     subst c7
     have H1 : (some false) = some r := by rw [if_neg (show ¬ (false = true) by decide)] at H; exact H
     clear H; have H := H1; clear H1
     obtain rfl := Option.some.inj H
     have p210 : 0 ≤ (x10_1 : Int) := of_decide_eq_true (by first | (with_reducible assumption) | assumption)
     have q210 : x10_1 < (l0.length : Int) := of_decide_eq_true (by first | (with_reducible assumption) | assumption)
     obtain ⟨ad210, e210, hx210_0, hx210_1, hx210_2, hx210_3, hx210_4, hx210_5, hx210_6, hx210_7, hx210_8⟩ := at_T151 HR0.out x10_1 p210 q210
     cases e210
     replace hx210_0 := (HB.out.cell (World.block_lt_of_cell? w _ hx210_0)).trans hx210_0; replace hx210_1 := (HB.out.cell (World.block_lt_of_cell? w _ hx210_1)).trans hx210_1; replace hx210_2 := (HB.out.cell (World.block_lt_of_cell? w _ hx210_2)).trans hx210_2; replace hx210_3 := (HB.out.cell (World.block_lt_of_cell? w _ hx210_3)).trans hx210_3; replace hx210_4 := (HB.out.cell (World.block_lt_of_cell? w _ hx210_4)).trans hx210_4; replace hx210_5 := (HB.out.cell (World.block_lt_of_cell? w _ hx210_5)).trans hx210_5; replace hx210_6 := (HB.out.cell (World.block_lt_of_cell? w _ hx210_6)).trans hx210_6; replace hx210_7 := (HB.out.cell (World.block_lt_of_cell? w _ hx210_7)).trans hx210_7; replace hx210_8 := (HB.out.cell (World.block_lt_of_cell? w _ hx210_8)).trans hx210_8; replace p210 := eq_true p210; replace q210 := eq_true q210
     go_wp2_with (first | ((with_reducible refine gate_dst (N := 4) rfl ?_); refine box_event ?hg (N := 4) ?hd (cs := #[.int .u32 0, .int .u32 0, .int .u32 0, .int .u32 0, .int .u32 0, .int .u32 0, .int .u32 0, .int .u32 0, .int .u32 0]) (t := 151) ?hr ?_; (case hd => rfl); (case hg => rfl); (case hr => first | (go_simp; done) | (go_simp; rfl)); intro gb211 hg w11 hbox hb; have BK211 := AM (hbox); have GW211 := gH HB hg; have GE211 := gH HB hg; replace HB := AM (below_step (pH HB) hb); clear hb hbox hg; have hcz12_0 : w11.cell? ⟨gb211, 0, none⟩ = some (.int .u32 0) := (blk_cell BK211.out 0).trans rfl; have hcz12_1 : w11.cell? ⟨gb211, 1, none⟩ = some (.int .u32 0) := (blk_cell BK211.out 1).trans rfl; have hcz12_2 : w11.cell? ⟨gb211, 2, none⟩ = some (.int .u32 0) := (blk_cell BK211.out 2).trans rfl; have hcz12_3 : w11.cell? ⟨gb211, 3, none⟩ = some (.int .u32 0) := (blk_cell BK211.out 3).trans rfl; have hcz12_4 : w11.cell? ⟨gb211, 4, none⟩ = some (.int .u32 0) := (blk_cell BK211.out 4).trans rfl; have hcz12_5 : w11.cell? ⟨gb211, 5, none⟩ = some (.int .u32 0) := (blk_cell BK211.out 5).trans rfl; have hcz12_6 : w11.cell? ⟨gb211, 6, none⟩ = some (.int .u32 0) := (blk_cell BK211.out 6).trans rfl; have hcz12_7 : w11.cell? ⟨gb211, 7, none⟩ = some (.int .u32 0) := (blk_cell BK211.out 7).trans rfl; have hcz12_8 : w11.cell? ⟨gb211, 8, none⟩ = some (.int .u32 0) := (blk_cell BK211.out 8).trans rfl; have hfz12_0 := blk_frozen BK211.out 0; have hfz12_1 := blk_frozen BK211.out 1; have hfz12_2 := blk_frozen BK211.out 2; have hfz12_3 := blk_frozen BK211.out 3; have hfz12_4 := blk_frozen BK211.out 4; have hfz12_5 := blk_frozen BK211.out 5; have hfz12_6 := blk_frozen BK211.out 6; have hfz12_7 := blk_frozen BK211.out 7; have hfz12_8 := blk_frozen BK211.out 8) | ((with_reducible refine gate_callee (f := 133) rfl ?_); refine goesL_ (some 15) rfl rfl Try.func133 (by kernel_rfl) rfl #[.agg #[.int .u32 ((rd_T151 l0 x10_1).f0.f0), .int .u32 ((rd_T151 l0 x10_1).f0.f1), .int .u32 ((rd_T151 l0 x10_1).f0.f2), .int .u32 ((rd_T151 l0 x10_1).f1.f0), .int .u32 ((rd_T151 l0 x10_1).f1.f1), .int .u32 ((rd_T151 l0 x10_1).f1.f2), .int .u32 ((rd_T151 l0 x10_1).f2.f0), .int .u32 ((rd_T151 l0 x10_1).f2.f1), .int .u32 ((rd_T151 l0 x10_1).f2.f2)]] rfl (by (try simp only [List.map_toArray, List.map_cons, List.map_nil]); first | done | rfl | (simp only [List.length_drop, List.length_take]; rfl)) ?_; (with_reducible refine (impl_Tri_finite.calls k1 ((rd_T151 l0 x10_1).f0.f0) ((rd_T151 l0 x10_1).f0.f1) ((rd_T151 l0 x10_1).f0.f2) ((rd_T151 l0 x10_1).f1.f0) ((rd_T151 l0 x10_1).f1.f1) ((rd_T151 l0 x10_1).f1.f2) ((rd_T151 l0 x10_1).f2.f0) ((rd_T151 l0 x10_1).f2.f1) ((rd_T151 l0 x10_1).f2.f2) false _ A6.out).mono ?_); rintro e w13 ⟨rfl, hb⟩; refine ⟨_, rfl, ?_⟩; replace BK211 := AM (blk_below (g := gb211) (o := .cells #[.int .u32 ((rd_T151 l0 x10_1).f0.f0), .int .u32 ((rd_T151 l0 x10_1).f0.f1), .int .u32 ((rd_T151 l0 x10_1).f0.f2), .int .u32 ((rd_T151 l0 x10_1).f1.f0), .int .u32 ((rd_T151 l0 x10_1).f1.f1), .int .u32 ((rd_T151 l0 x10_1).f1.f2), .int .u32 ((rd_T151 l0 x10_1).f2.f0), .int .u32 ((rd_T151 l0 x10_1).f2.f1), .int .u32 ((rd_T151 l0 x10_1).f2.f2)] 151 (0, 0)) (by refine sB ?_; refine blk_put (cs := #[.int .u32 ((rd_T151 l0 x10_1).f0.f0), .int .u32 ((rd_T151 l0 x10_1).f0.f1), .int .u32 ((rd_T151 l0 x10_1).f0.f2), .int .u32 ((rd_T151 l0 x10_1).f1.f0), .int .u32 ((rd_T151 l0 x10_1).f1.f1), .int .u32 ((rd_T151 l0 x10_1).f1.f2), .int .u32 ((rd_T151 l0 x10_1).f2.f0), .int .u32 ((rd_T151 l0 x10_1).f2.f1), .int .u32 0]) ?_ 8 _ rfl; refine sB ?_; refine blk_put (cs := #[.int .u32 ((rd_T151 l0 x10_1).f0.f0), .int .u32 ((rd_T151 l0 x10_1).f0.f1), .int .u32 ((rd_T151 l0 x10_1).f0.f2), .int .u32 ((rd_T151 l0 x10_1).f1.f0), .int .u32 ((rd_T151 l0 x10_1).f1.f1), .int .u32 ((rd_T151 l0 x10_1).f1.f2), .int .u32 ((rd_T151 l0 x10_1).f2.f0), .int .u32 0, .int .u32 0]) ?_ 7 _ rfl; refine sB ?_; refine blk_put (cs := #[.int .u32 ((rd_T151 l0 x10_1).f0.f0), .int .u32 ((rd_T151 l0 x10_1).f0.f1), .int .u32 ((rd_T151 l0 x10_1).f0.f2), .int .u32 ((rd_T151 l0 x10_1).f1.f0), .int .u32 ((rd_T151 l0 x10_1).f1.f1), .int .u32 ((rd_T151 l0 x10_1).f1.f2), .int .u32 0, .int .u32 0, .int .u32 0]) ?_ 6 _ rfl; refine sB ?_; refine blk_put (cs := #[.int .u32 ((rd_T151 l0 x10_1).f0.f0), .int .u32 ((rd_T151 l0 x10_1).f0.f1), .int .u32 ((rd_T151 l0 x10_1).f0.f2), .int .u32 ((rd_T151 l0 x10_1).f1.f0), .int .u32 ((rd_T151 l0 x10_1).f1.f1), .int .u32 0, .int .u32 0, .int .u32 0, .int .u32 0]) ?_ 5 _ rfl; refine sB ?_; refine blk_put (cs := #[.int .u32 ((rd_T151 l0 x10_1).f0.f0), .int .u32 ((rd_T151 l0 x10_1).f0.f1), .int .u32 ((rd_T151 l0 x10_1).f0.f2), .int .u32 ((rd_T151 l0 x10_1).f1.f0), .int .u32 0, .int .u32 0, .int .u32 0, .int .u32 0, .int .u32 0]) ?_ 4 _ rfl; refine sB ?_; refine blk_put (cs := #[.int .u32 ((rd_T151 l0 x10_1).f0.f0), .int .u32 ((rd_T151 l0 x10_1).f0.f1), .int .u32 ((rd_T151 l0 x10_1).f0.f2), .int .u32 0, .int .u32 0, .int .u32 0, .int .u32 0, .int .u32 0, .int .u32 0]) ?_ 3 _ rfl; refine sB ?_; refine blk_put (cs := #[.int .u32 ((rd_T151 l0 x10_1).f0.f0), .int .u32 ((rd_T151 l0 x10_1).f0.f1), .int .u32 0, .int .u32 0, .int .u32 0, .int .u32 0, .int .u32 0, .int .u32 0, .int .u32 0]) ?_ 2 _ rfl; refine sB ?_; refine blk_put (cs := #[.int .u32 ((rd_T151 l0 x10_1).f0.f0), .int .u32 0, .int .u32 0, .int .u32 0, .int .u32 0, .int .u32 0, .int .u32 0, .int .u32 0, .int .u32 0]) ?_ 1 _ rfl; refine sB ?_; refine blk_put (cs := #[.int .u32 0, .int .u32 0, .int .u32 0, .int .u32 0, .int .u32 0, .int .u32 0, .int .u32 0, .int .u32 0, .int .u32 0]) ?_ 0 _ rfl; refine sB ?_; exact BK211.out) hb); replace HB := AM (below_step (pH HB) hb); (try clear hb); (try clear hb2); (try clear hk); (try clear hi)))
     go_ret
     exact ⟨by first | rfl | (simp [errW_none, errW_some] <;> rfl) | (simp [*, errW_none, errW_some] <;> rfl), pH HB⟩
   subst c7
   have H1 : (impl_goodTris.l0 k1 l0 (l0.length : Int) (wrap64 (x10_1 + 1))) = some r := by rw [if_pos rfl] at H; exact H
   clear H; have H := H1; clear H1
   have H' := AM H
   clear H
   have p210 : 0 ≤ (x10_1 : Int) := of_decide_eq_true (by first | (with_reducible assumption) | assumption)
   have q210 : x10_1 < (l0.length : Int) := of_decide_eq_true (by first | (with_reducible assumption) | assumption)
   obtain ⟨ad210, e210, hx210_0, hx210_1, hx210_2, hx210_3, hx210_4, hx210_5, hx210_6, hx210_7, hx210_8⟩ := at_T151 HR0.out x10_1 p210 q210
   cases e210
   replace hx210_0 := (HB.out.cell (World.block_lt_of_cell? w _ hx210_0)).trans hx210_0; replace hx210_1 := (HB.out.cell (World.block_lt_of_cell? w _ hx210_1)).trans hx210_1; replace hx210_2 := (HB.out.cell (World.block_lt_of_cell? w _ hx210_2)).trans hx210_2; replace hx210_3 := (HB.out.cell (World.block_lt_of_cell? w _ hx210_3)).trans hx210_3; replace hx210_4 := (HB.out.cell (World.block_lt_of_cell? w _ hx210_4)).trans hx210_4; replace hx210_5 := (HB.out.cell (World.block_lt_of_cell? w _ hx210_5)).trans hx210_5; replace hx210_6 := (HB.out.cell (World.block_lt_of_cell? w _ hx210_6)).trans hx210_6; replace hx210_7 := (HB.out.cell (World.block_lt_of_cell? w _ hx210_7)).trans hx210_7; replace hx210_8 := (HB.out.cell (World.block_lt_of_cell? w _ hx210_8)).trans hx210_8; replace p210 := eq_true p210; replace q210 := eq_true q210
   go_wp2_with (first | ((with_reducible refine gate_dst (N := 4) rfl ?_); refine box_event ?hg (N := 4) ?hd (cs := #[.int .u32 0, .int .u32 0, .int .u32 0, .int .u32 0, .int .u32 0, .int .u32 0, .int .u32 0, .int .u32 0, .int .u32 0]) (t := 151) ?hr ?_; (case hd => rfl); (case hg => rfl); (case hr => first | (go_simp; done) | (go_simp; rfl)); intro gb211 hg w8 hbox hb; have BK211 := AM (hbox); have GW211 := gH HB hg; have GE211 := gH HB hg; replace HB := AM (below_step (pH HB) hb); clear hb hbox hg; have hcz9_0 : w8.cell? ⟨gb211, 0, none⟩ = some (.int .u32 0) := (blk_cell BK211.out 0).trans rfl; have hcz9_1 : w8.cell? ⟨gb211, 1, none⟩ = some (.int .u32 0) := (blk_cell BK211.out 1).trans rfl; have hcz9_2 : w8.cell? ⟨gb211, 2, none⟩ = some (.int .u32 0) := (blk_cell BK211.out 2).trans rfl; have hcz9_3 : w8.cell? ⟨gb211, 3, none⟩ = some (.int .u32 0) := (blk_cell BK211.out 3).trans rfl; have hcz9_4 : w8.cell? ⟨gb211, 4, none⟩ = some (.int .u32 0) := (blk_cell BK211.out 4).trans rfl; have hcz9_5 : w8.cell? ⟨gb211, 5, none⟩ = some (.int .u32 0) := (blk_cell BK211.out 5).trans rfl; have hcz9_6 : w8.cell? ⟨gb211, 6, none⟩ = some (.int .u32 0) := (blk_cell BK211.out 6).trans rfl; have hcz9_7 : w8.cell? ⟨gb211, 7, none⟩ = some (.int .u32 0) := (blk_cell BK211.out 7).trans rfl; have hcz9_8 : w8.cell? ⟨gb211, 8, none⟩ = some (.int .u32 0) := (blk_cell BK211.out 8).trans rfl; have hfz9_0 := blk_frozen BK211.out 0; have hfz9_1 := blk_frozen BK211.out 1; have hfz9_2 := blk_frozen BK211.out 2; have hfz9_3 := blk_frozen BK211.out 3; have hfz9_4 := blk_frozen BK211.out 4; have hfz9_5 := blk_frozen BK211.out 5; have hfz9_6 := blk_frozen BK211.out 6; have hfz9_7 := blk_frozen BK211.out 7; have hfz9_8 := blk_frozen BK211.out 8) | ((with_reducible refine gate_callee (f := 133) rfl ?_); refine goesL_ (some 15) rfl rfl Try.func133 (by kernel_rfl) rfl #[.agg #[.int .u32 ((rd_T151 l0 x10_1).f0.f0), .int .u32 ((rd_T151 l0 x10_1).f0.f1), .int .u32 ((rd_T151 l0 x10_1).f0.f2), .int .u32 ((rd_T151 l0 x10_1).f1.f0), .int .u32 ((rd_T151 l0 x10_1).f1.f1), .int .u32 ((rd_T151 l0 x10_1).f1.f2), .int .u32 ((rd_T151 l0 x10_1).f2.f0), .int .u32 ((rd_T151 l0 x10_1).f2.f1), .int .u32 ((rd_T151 l0 x10_1).f2.f2)]] rfl (by (try simp only [List.map_toArray, List.map_cons, List.map_nil]); first | done | rfl | (simp only [List.length_drop, List.length_take]; rfl)) ?_; (with_reducible refine (impl_Tri_finite.calls k1 ((rd_T151 l0 x10_1).f0.f0) ((rd_T151 l0 x10_1).f0.f1) ((rd_T151 l0 x10_1).f0.f2) ((rd_T151 l0 x10_1).f1.f0) ((rd_T151 l0 x10_1).f1.f1) ((rd_T151 l0 x10_1).f1.f2) ((rd_T151 l0 x10_1).f2.f0) ((rd_T151 l0 x10_1).f2.f1) ((rd_T151 l0 x10_1).f2.f2) true _ A6.out).mono ?_); rintro e w10 ⟨rfl, hb⟩; refine ⟨_, rfl, ?_⟩; replace BK211 := AM (blk_below (g := gb211) (o := .cells #[.int .u32 ((rd_T151 l0 x10_1).f0.f0), .int .u32 ((rd_T151 l0 x10_1).f0.f1), .int .u32 ((rd_T151 l0 x10_1).f0.f2), .int .u32 ((rd_T151 l0 x10_1).f1.f0), .int .u32 ((rd_T151 l0 x10_1).f1.f1), .int .u32 ((rd_T151 l0 x10_1).f1.f2), .int .u32 ((rd_T151 l0 x10_1).f2.f0), .int .u32 ((rd_T151 l0 x10_1).f2.f1), .int .u32 ((rd_T151 l0 x10_1).f2.f2)] 151 (0, 0)) (by refine sB ?_; refine blk_put (cs := #[.int .u32 ((rd_T151 l0 x10_1).f0.f0), .int .u32 ((rd_T151 l0 x10_1).f0.f1), .int .u32 ((rd_T151 l0 x10_1).f0.f2), .int .u32 ((rd_T151 l0 x10_1).f1.f0), .int .u32 ((rd_T151 l0 x10_1).f1.f1), .int .u32 ((rd_T151 l0 x10_1).f1.f2), .int .u32 ((rd_T151 l0 x10_1).f2.f0), .int .u32 ((rd_T151 l0 x10_1).f2.f1), .int .u32 0]) ?_ 8 _ rfl; refine sB ?_; refine blk_put (cs := #[.int .u32 ((rd_T151 l0 x10_1).f0.f0), .int .u32 ((rd_T151 l0 x10_1).f0.f1), .int .u32 ((rd_T151 l0 x10_1).f0.f2), .int .u32 ((rd_T151 l0 x10_1).f1.f0), .int .u32 ((rd_T151 l0 x10_1).f1.f1), .int .u32 ((rd_T151 l0 x10_1).f1.f2), .int .u32 ((rd_T151 l0 x10_1).f2.f0), .int .u32 0, .int .u32 0]) ?_ 7 _ rfl; refine sB ?_; refine blk_put (cs := #[.int .u32 ((rd_T151 l0 x10_1).f0.f0), .int .u32 ((rd_T151 l0 x10_1).f0.f1), .int .u32 ((rd_T151 l0 x10_1).f0.f2), .int .u32 ((rd_T151 l0 x10_1).f1.f0), .int .u32 ((rd_T151 l0 x10_1).f1.f1), .int .u32 ((rd_T151 l0 x10_1).f1.f2), .int .u32 0, .int .u32 0, .int .u32 0]) ?_ 6 _ rfl; refine sB ?_; refine blk_put (cs := #[.int .u32 ((rd_T151 l0 x10_1).f0.f0), .int .u32 ((rd_T151 l0 x10_1).f0.f1), .int .u32 ((rd_T151 l0 x10_1).f0.f2), .int .u32 ((rd_T151 l0 x10_1).f1.f0), .int .u32 ((rd_T151 l0 x10_1).f1.f1), .int .u32 0, .int .u32 0, .int .u32 0, .int .u32 0]) ?_ 5 _ rfl; refine sB ?_; refine blk_put (cs := #[.int .u32 ((rd_T151 l0 x10_1).f0.f0), .int .u32 ((rd_T151 l0 x10_1).f0.f1), .int .u32 ((rd_T151 l0 x10_1).f0.f2), .int .u32 ((rd_T151 l0 x10_1).f1.f0), .int .u32 0, .int .u32 0, .int .u32 0, .int .u32 0, .int .u32 0]) ?_ 4 _ rfl; refine sB ?_; refine blk_put (cs := #[.int .u32 ((rd_T151 l0 x10_1).f0.f0), .int .u32 ((rd_T151 l0 x10_1).f0.f1), .int .u32 ((rd_T151 l0 x10_1).f0.f2), .int .u32 0, .int .u32 0, .int .u32 0, .int .u32 0, .int .u32 0, .int .u32 0]) ?_ 3 _ rfl; refine sB ?_; refine blk_put (cs := #[.int .u32 ((rd_T151 l0 x10_1).f0.f0), .int .u32 ((rd_T151 l0 x10_1).f0.f1), .int .u32 0, .int .u32 0, .int .u32 0, .int .u32 0, .int .u32 0, .int .u32 0, .int .u32 0]) ?_ 2 _ rfl; refine sB ?_; refine blk_put (cs := #[.int .u32 ((rd_T151 l0 x10_1).f0.f0), .int .u32 0, .int .u32 0, .int .u32 0, .int .u32 0, .int .u32 0, .int .u32 0, .int .u32 0, .int .u32 0]) ?_ 1 _ rfl; refine sB ?_; refine blk_put (cs := #[.int .u32 0, .int .u32 0, .int .u32 0, .int .u32 0, .int .u32 0, .int .u32 0, .int .u32 0, .int .u32 0, .int .u32 0]) ?_ 0 _ rfl; refine sB ?_; exact BK211.out) hb); replace HB := AM (below_step (pH HB) hb); (try clear hb); (try clear hb2); (try clear hk); (try clear hi)))
   go_roundg k1
   case measure => have := HK1.out; omega
   case rel => exact ⟨(wrap64 (x10_1 + 1)), (by first | rfl | (simp; done) | (simp [*]; done)), H', ⟨by have := HK1.out; omega⟩, ⟨pH HB⟩⟩
/-! ### impl_Point_zero: function 134 -/
def impl_Point_zero.f (a0_0 : Int) (a0_1 : Int) (a0_2 : Int) : Option (Bool) := some ((((Go.bits .or .u32 (Go.bits .or .u32 a0_0 a0_1) a0_2) * 2) % 4294967296) == 0)
set_option maxHeartbeats 8000000 in
set_option maxRecDepth 100000 in
theorem impl_Point_zero.calls (a0_0 : Int) (a0_1 : Int) (a0_2 : Int) (r : Bool) (w : World) (h : impl_Point_zero.f a0_0 a0_1 a0_2 = some r) :
 Calls Try.prog 134 #[.agg #[.int .u32 a0_0, .int .u32 a0_1, .int .u32 a0_2]] w fun e w' => e = .returned (.bool r) ∧ Below w.heap.size w w' := by
 have hu125 := Try.underlying125; have HB := AM (Below.refl w.heap.size w)
 have H : (some ((((Go.bits .or .u32 (Go.bits .or .u32 a0_0 a0_1) a0_2) * 2) % 4294967296) == 0)) = some r := h
 clear h
 obtain rfl := Option.some.inj H
 go_enter Try.func134, Try.ntmps134
 go_wp2_with (first | ((with_reducible refine gate_dst (N := 1) rfl ?_); refine box_event ?hg (N := 1) ?hd (cs := #[.int .u32 a0_0, .int .u32 a0_1, .int .u32 a0_2]) (t := 125) ?hr ?_; (case hd => rfl); (case hg => rfl); (case hr => first | (go_simp; done) | (go_simp; rfl)); intro gb213 hg w2 hbox hb; have BK213 := AM (hbox); have GW213 := gH HB hg; have GE213 := gH HB hg; replace HB := AM (below_step (pH HB) hb); clear hb hbox hg; have ⟨hcz3_0, hcz3_1, hcz3_2, hfz3_0, hfz3_1, hfz3_2⟩ := z3 BK213))
 go_ret
 exact ⟨by first | rfl | (simp [errW_none, errW_some] <;> rfl) | (simp [*, errW_none, errW_some] <;> rfl), pH HB⟩

/-! ### impl_Ray_proper: function 95 -/
def impl_Ray_proper.f (k : Nat) (a0_0 : Int) (a0_1 : Int) (a0_2 : Int) (a0_3 : Int) (a0_4 : Int) (a0_5 : Int) : Option (Bool) := (impl_finitePoints.f k (([(⟨a0_0, a0_1, a0_2⟩ : S125), (⟨a0_3, a0_4, a0_5⟩ : S125)] : List (S125)))).bind fun t218 => (if t218 = true then ((impl_Point_zero.f a0_3 a0_4 a0_5).bind fun t219 => (some (!t219))) else (some false))
theorem impl_Ray_proper.mono : ∀ a0 a1 a2 a3 a4 a5 k, LeO (impl_Ray_proper.f k a0 a1 a2 a3 a4 a5) (impl_Ray_proper.f (k + 1) a0 a1 a2 a3 a4 a5) := by
 intro a0 a1 a2 a3 a4 a5 k
 unfold impl_Ray_proper.f
 repeat' with_reducible first | exact impl_finitePoints.mono _ _ | exact LeO.refl _ | exact LeO.none _ | refine LeO.ite ?_ ?_ | refine LeO.bind ?_ (fun _ => ?_)
set_option maxHeartbeats 8000000 in
set_option maxRecDepth 100000 in
theorem impl_Ray_proper.calls (k : Nat) (a0_0 : Int) (a0_1 : Int) (a0_2 : Int) (a0_3 : Int) (a0_4 : Int) (a0_5 : Int) (r : Bool) (w : World) (h : impl_Ray_proper.f k a0_0 a0_1 a0_2 a0_3 a0_4 a0_5 = some r) :
 Calls Try.prog 95 #[.agg #[.int .u32 a0_0, .int .u32 a0_1, .int .u32 a0_2, .int .u32 a0_3, .int .u32 a0_4, .int .u32 a0_5]] w fun e w' => e = .returned (.bool r) ∧ Below w.heap.size w w' := by
 have hu127 := Try.underlying127; have hu125 := Try.underlying125; have HB := AM (Below.refl w.heap.size w)
 have H : ((impl_finitePoints.f k (([(⟨a0_0, a0_1, a0_2⟩ : S125), (⟨a0_3, a0_4, a0_5⟩ : S125)] : List (S125)))).bind fun t218 => (if t218 = true then ((impl_Point_zero.f a0_3 a0_4 a0_5).bind fun t219 => (some (!t219))) else (some false))) = some r := h
 clear h
 obtain ⟨y215, hy215⟩ : ∃ y_ : List (S125), y_ = (([(⟨a0_0, a0_1, a0_2⟩ : S125), (⟨a0_3, a0_4, a0_5⟩ : S125)] : List (S125))) := ⟨_, rfl⟩
 replace H : ((impl_finitePoints.f k y215).bind fun t218 => (if t218 = true then ((impl_Point_zero.f a0_3 a0_4 a0_5).bind fun t219 => (some (!t219))) else (some false))) = some r := by first | (rw [hy215]; with_reducible exact H) | (have H2_ := (Option.bind_some _ _).symm.trans H; rw [hy215]; with_reducible exact H2_) | (have H2_ := (Option.bind_some _ _).symm.trans H; with_reducible exact H2_) | with_reducible exact H | (rw [hy215]; exact H) | exact H
 have Ny215 := AM hy215; clear hy215
 replace H := Option.bind_eq_some_iff.mp H
 obtain ⟨t218, A20, H⟩ := H
 (try dsimp only at H)
 have A2 := AM A20; clear A20
 by_cases c3 : t218 = true
 rotate_left
 · replace c3 := Bool.eq_false_iff.mpr c3
   subst c3
   have H1 : (some false) = some r := by rw [if_neg (show ¬ (false = true) by decide)] at H; exact H
   clear H; have H := H1; clear H1
   obtain rfl := Option.some.inj H
   go_enter Try.func95, Try.ntmps95
   go_wp2_with (first | ((with_reducible refine gate_dst (N := 1) rfl ?_); refine box_event ?hg (N := 1) ?hd (cs := #[.int .u32 a0_0, .int .u32 a0_1, .int .u32 a0_2, .int .u32 a0_3, .int .u32 a0_4, .int .u32 a0_5]) (t := 127) ?hr ?_; (case hd => rfl); (case hg => rfl); (case hr => first | (go_simp; done) | (go_simp; rfl)); intro gb214 hg w13 hbox hb; have BK214 := AM (hbox); have GW214 := gH HB hg; have GE214 := gH HB hg; replace HB := AM (below_step (pH HB) hb); clear hb hbox hg; have ⟨hcz14_0, hcz14_1, hcz14_2, hcz14_3, hcz14_4, hcz14_5, hfz14_0, hfz14_1, hfz14_2, hfz14_3, hfz14_4, hfz14_5⟩ := z6 BK214) | ((with_reducible refine gate_dst (N := 7) rfl ?_); refine Kd.R_lit k125 _ 125 ?hg (N := 7) ?hd (xs := ([(⟨a0_0, a0_1, a0_2⟩ : S125), (⟨a0_3, a0_4, a0_5⟩ : S125)] : List (S125))) (inner := [.int .u32 a0_0, .int .u32 a0_1, .int .u32 a0_2, .int .u32 a0_3, .int .u32 a0_4, .int .u32 a0_5]) (ok := fun _ => True) (okp := fun _ => True) ?hr ?hp (fun _ hk => hk) trivial (Below.refl _ _) (Nat.le_refl _) (by simp) ?_; (case hd => rfl); (case hg => rfl); (case hr => first | (go_simp; done) | (go_simp; rfl)); (case hp => exact (Reps.c3 (show Kd.M k125 _ _ _ (⟨a0_0, a0_1, a0_2⟩ : S125) [.int .u32 a0_0, .int .u32 a0_1, .int .u32 a0_2] from (k125_mkM _ _ _ (⟨a0_0, a0_1, a0_2⟩ : S125) )) (Reps.c3 (show Kd.M k125 _ _ _ (⟨a0_3, a0_4, a0_5⟩ : S125) [.int .u32 a0_3, .int .u32 a0_4, .int .u32 a0_5] from (k125_mkM _ _ _ (⟨a0_3, a0_4, a0_5⟩ : S125) )) (Reps.none _ _)))); intro v216 w15 ho16 hb hg_ hnew_; clear hg_ hnew_; (first | rw [← Ny215.out] at ho16 | (simp only [Int.reduceToNat] at ho16; rw [← Ny215.out] at ho16)); have HO217 := AM (Kd.R_lower ho16 (below_size (pH HB))); replace BK214 := bB BK214 hb; replace HB := AM (below_step (pH HB) hb); clear hb ho16; obtain ⟨Ao17, co17, eo17⟩ := Kd.R_slice HO217.out; subst eo17) | ((with_reducible refine gate_callee (f := 96) rfl ?_); refine goesL_ (some 8) rfl rfl Try.func96 (by kernel_rfl) rfl #[.slice Ao17 y215.length co17] rfl (by (try simp only [List.map_toArray, List.map_cons, List.map_nil]); first | done | rfl | (simp only [List.length_drop, List.length_take]; rfl)) ?_; (with_reducible refine (impl_finitePoints.calls k _ _ y215 false _ ?side1 ?side2 A2.out).mono ?_); (case side1 => exact cR HO217); (case side2 => exact (Kd.R_reads' HO217.out).2.1); rintro e w18 ⟨rfl, hb⟩; refine ⟨_, rfl, ?_⟩; replace HO217 := AM (Kd.R_below (pR HO217) hb); replace BK214 := bB BK214 hb; replace HB := AM (below_step (pH HB) hb); (try clear hb); (try clear hb2); (try clear hk); (try clear hi)))
   go_ret
   exact ⟨by first | rfl | (simp [errW_none, errW_some] <;> rfl) | (simp [*, errW_none, errW_some] <;> rfl), pH HB⟩

 subst c3
 have H1 : ((impl_Point_zero.f a0_3 a0_4 a0_5).bind fun t219 => (some (!t219))) = some r := by rw [if_pos rfl] at H; exact H
 clear H; have H := H1; clear H1
 replace H := Option.bind_eq_some_iff.mp H
 obtain ⟨t219, A40, H⟩ := H
 (try dsimp only at H)
 have A4 := AM A40; clear A40
 obtain rfl := Option.some.inj H
 go_enter Try.func95, Try.ntmps95
 go_wp2_with (first | ((with_reducible refine gate_dst (N := 1) rfl ?_); refine box_event ?hg (N := 1) ?hd (cs := #[.int .u32 a0_0, .int .u32 a0_1, .int .u32 a0_2, .int .u32 a0_3, .int .u32 a0_4, .int .u32 a0_5]) (t := 127) ?hr ?_; (case hd => rfl); (case hg => rfl); (case hr => first | (go_simp; done) | (go_simp; rfl)); intro gb214 hg w5 hbox hb; have BK214 := AM (hbox); have GW214 := gH HB hg; have GE214 := gH HB hg; replace HB := AM (below_step (pH HB) hb); clear hb hbox hg; have ⟨hcz6_0, hcz6_1, hcz6_2, hcz6_3, hcz6_4, hcz6_5, hfz6_0, hfz6_1, hfz6_2, hfz6_3, hfz6_4, hfz6_5⟩ := z6 BK214) | ((with_reducible refine gate_dst (N := 7) rfl ?_); refine Kd.R_lit k125 _ 125 ?hg (N := 7) ?hd (xs := ([(⟨a0_0, a0_1, a0_2⟩ : S125), (⟨a0_3, a0_4, a0_5⟩ : S125)] : List (S125))) (inner := [.int .u32 a0_0, .int .u32 a0_1, .int .u32 a0_2, .int .u32 a0_3, .int .u32 a0_4, .int .u32 a0_5]) (ok := fun _ => True) (okp := fun _ => True) ?hr ?hp (fun _ hk => hk) trivial (Below.refl _ _) (Nat.le_refl _) (by simp) ?_; (case hd => rfl); (case hg => rfl); (case hr => first | (go_simp; done) | (go_simp; rfl)); (case hp => exact (Reps.c3 (show Kd.M k125 _ _ _ (⟨a0_0, a0_1, a0_2⟩ : S125) [.int .u32 a0_0, .int .u32 a0_1, .int .u32 a0_2] from (k125_mkM _ _ _ (⟨a0_0, a0_1, a0_2⟩ : S125) )) (Reps.c3 (show Kd.M k125 _ _ _ (⟨a0_3, a0_4, a0_5⟩ : S125) [.int .u32 a0_3, .int .u32 a0_4, .int .u32 a0_5] from (k125_mkM _ _ _ (⟨a0_3, a0_4, a0_5⟩ : S125) )) (Reps.none _ _)))); intro v216 w7 ho8 hb hg_ hnew_; clear hg_ hnew_; (first | rw [← Ny215.out] at ho8 | (simp only [Int.reduceToNat] at ho8; rw [← Ny215.out] at ho8)); have HO217 := AM (Kd.R_lower ho8 (below_size (pH HB))); replace BK214 := bB BK214 hb; replace HB := AM (below_step (pH HB) hb); clear hb ho8; obtain ⟨Ao9, co9, eo9⟩ := Kd.R_slice HO217.out; subst eo9) | ((with_reducible refine gate_callee (f := 96) rfl ?_); refine goesL_ (some 8) rfl rfl Try.func96 (by kernel_rfl) rfl #[.slice Ao9 y215.length co9] rfl (by (try simp only [List.map_toArray, List.map_cons, List.map_nil]); first | done | rfl | (simp only [List.length_drop, List.length_take]; rfl)) ?_; (with_reducible refine (impl_finitePoints.calls k _ _ y215 true _ ?side1 ?side2 A2.out).mono ?_); (case side1 => exact cR HO217); (case side2 => exact (Kd.R_reads' HO217.out).2.1); rintro e w10 ⟨rfl, hb⟩; refine ⟨_, rfl, ?_⟩; replace HO217 := AM (Kd.R_below (pR HO217) hb); replace BK214 := bB BK214 hb; replace HB := AM (below_step (pH HB) hb); (try clear hb); (try clear hb2); (try clear hk); (try clear hi); have ⟨hcz11_0, hcz11_1, hcz11_2, hcz11_3, hcz11_4, hcz11_5, hfz11_0, hfz11_1, hfz11_2, hfz11_3, hfz11_4, hfz11_5⟩ := z6 BK214) | (go_at_call 134; (with_reducible refine (impl_Point_zero.calls a0_3 a0_4 a0_5 t219 _ A4.out).mono ?_); rintro e w12 ⟨rfl, hb⟩; replace HO217 := AM (Kd.R_below (pR HO217) hb); replace BK214 := bB BK214 hb; replace HB := AM (below_step (pH HB) hb); (try clear hb); (try clear hb2); (try clear hk); (try clear hi)))
 go_ret
 exact ⟨by first | rfl | (simp [errW_none, errW_some] <;> rfl) | (simp [*, errW_none, errW_some] <;> rfl), pH HB⟩
/-! ### impl_ValidScene: function 40 -/
mutual
def impl_ValidScene.j0 : Nat → Bool → List (S151) → List (S127) → List (S125) → Option (Bool)
 | 0, _, _, _, _ => none
 | k + 1, x20, x221000, x221001, x221002 => if x20 = true then (some false) else (impl_ValidScene.l0 k x221001 (x221001.length : Int) 0 x221000 x221001 x221002)
def impl_ValidScene.l0 : Nat → List (S127) → Int → Int → List (S151) → List (S127) → List (S125) → Option (Bool)
 | 0, _, _, _, _, _, _ => none
 | k + 1, x22, x23, x24, x221000, x221001, x221002 => if x24 < x23 then (if 0 ≤ x24 then (if x24 < (x22.length : Int) then ((impl_Ray_proper.f k ((rd_T127 x22 x24).f0.f0) ((rd_T127 x22 x24).f0.f1) ((rd_T127 x22 x24).f0.f2) ((rd_T127 x22 x24).f1.f0) ((rd_T127 x22 x24).f1.f1) ((rd_T127 x22 x24).f1.f2)).bind fun t224 => (if t224 = true then (impl_ValidScene.l0 k x22 x23 (wrap64 (x24 + 1)) x221000 x221001 x221002) else (some false))) else (none)) else (none)) else ((impl_finitePoints.f k x221002).bind fun t225 => (some t225))
end
def impl_ValidScene.f (k : Nat) (l0_0 : List (S151)) (l0_1 : List (S127)) (l0_2 : List (S125)) : Option (Bool) := (impl_goodTris.f k l0_0).bind fun t221 => (if t221 = true then (if (l0_1.length : Int) > 40 then (impl_ValidScene.j0 k true l0_0 l0_1 l0_2) else (impl_ValidScene.j0 k (decide ((l0_2.length : Int) > 4)) l0_0 l0_1 l0_2)) else (impl_ValidScene.j0 k true l0_0 l0_1 l0_2))
theorem impl_ValidScene.mono_l : ∀ k, (∀ y0 y1 y2 y3, LeO (impl_ValidScene.j0 k y0 y1 y2 y3) (impl_ValidScene.j0 (k + 1) y0 y1 y2 y3)) ∧ (∀ y0 y1 y2 y3 y4 y5, LeO (impl_ValidScene.l0 k y0 y1 y2 y3 y4 y5) (impl_ValidScene.l0 (k + 1) y0 y1 y2 y3 y4 y5))
 | 0 => ⟨fun _ _ _ _ r h => by simp [impl_ValidScene.j0] at h, fun _ _ _ _ _ _ r h => by simp [impl_ValidScene.l0] at h⟩
 | k + 1 => by
  obtain ⟨ih0, ih1⟩ := impl_ValidScene.mono_l k
  refine ⟨?_, ?_⟩
  · intro y0 y1 y2 y3
    unfold impl_ValidScene.j0
    repeat' with_reducible first | exact ih0 _ _ _ _ | exact ih1 _ _ _ _ _ _ | exact impl_Ray_proper.mono _ _ _ _ _ _ _ | exact impl_finitePoints.mono _ _ | exact impl_goodTris.mono _ _ | exact LeO.refl _ | exact LeO.none _ | refine LeO.ite ?_ ?_ | refine LeO.bind ?_ (fun _ => ?_)
  intro y0 y1 y2 y3 y4 y5
  unfold impl_ValidScene.l0
  repeat' with_reducible first | exact ih0 _ _ _ _ | exact ih1 _ _ _ _ _ _ | exact impl_Ray_proper.mono _ _ _ _ _ _ _ | exact impl_finitePoints.mono _ _ | exact impl_goodTris.mono _ _ | exact LeO.refl _ | exact LeO.none _ | refine LeO.ite ?_ ?_ | refine LeO.bind ?_ (fun _ => ?_)
theorem impl_ValidScene.mono : ∀ a0 a1 a2 k, LeO (impl_ValidScene.f k a0 a1 a2) (impl_ValidScene.f (k + 1) a0 a1 a2) := by
 intro a0 a1 a2 k
 obtain ⟨ih0, ih1⟩ := impl_ValidScene.mono_l k
 unfold impl_ValidScene.f
 repeat' with_reducible first | exact ih0 _ _ _ _ | exact ih1 _ _ _ _ _ _ | exact impl_Ray_proper.mono _ _ _ _ _ _ _ | exact impl_finitePoints.mono _ _ | exact impl_goodTris.mono _ _ | exact LeO.refl _ | exact LeO.none _ | refine LeO.ite ?_ ?_ | refine LeO.bind ?_ (fun _ => ?_)
set_option maxHeartbeats 8000000 in
set_option maxRecDepth 100000 in
theorem impl_ValidScene.calls (k : Nat) (A0_0 : Option Addr) (c0_0 : Nat) (l0_0 : List (S151)) (A0_1 : Option Addr) (c0_1 : Nat) (l0_1 : List (S127)) (A0_2 : Option Addr) (c0_2 : Nat) (l0_2 : List (S125)) (r : Bool) (w : World) (hr0_0 : Kd.C k151 w A0_0 l0_0.length l0_0) (hc0_0 : l0_0.length ≤ c0_0) (hr0_1 : Kd.C k127 w A0_1 l0_1.length l0_1) (hc0_1 : l0_1.length ≤ c0_1) (hr0_2 : Kd.C k125 w A0_2 l0_2.length l0_2) (hc0_2 : l0_2.length ≤ c0_2) (h : impl_ValidScene.f k l0_0 l0_1 l0_2 = some r) :
 Calls Try.prog 40 #[.agg #[.slice A0_0 l0_0.length c0_0, .slice A0_1 l0_1.length c0_1, .slice A0_2 l0_2.length c0_2]] w fun e w' => e = .returned (.bool r) ∧ Below w.heap.size w w' := by
 have hu69 := Try.underlying69; have hu127 := Try.underlying127; have HR0_0 := AM hr0_0; have HC0_0 := AM hc0_0; clear hr0_0 hc0_0; have HR0_1 := AM hr0_1; have HC0_1 := AM hc0_1; clear hr0_1 hc0_1; have HR0_2 := AM hr0_2; have HC0_2 := AM hc0_2; clear hr0_2 hc0_2; have HB := AM (Below.refl w.heap.size w)
 have H : ((impl_goodTris.f k l0_0).bind fun t221 => (if t221 = true then (if (l0_1.length : Int) > 40 then (impl_ValidScene.j0 k true l0_0 l0_1 l0_2) else (impl_ValidScene.j0 k (decide ((l0_2.length : Int) > 4)) l0_0 l0_1 l0_2)) else (impl_ValidScene.j0 k true l0_0 l0_1 l0_2))) = some r := h
 clear h; have HC2 := AM H; clear H
 go_enter Try.func40, Try.ntmps40
 go_upto_region 1 with (first | ((with_reducible refine gate_dst (N := 1) rfl ?_); (try (refine gate_guard (by rfl) ?_; dsimp only)); refine box_event ?hg (N := 1) ?hd (cs := #[.slice A0_0 l0_0.length c0_0, .slice A0_1 l0_1.length c0_1, .slice A0_2 l0_2.length c0_2]) (t := 69) ?hr ?_; (case hd => rfl); (case hg => rfl); (case hr => first | (go_simp; done) | (go_simp; rfl)); intro gb220 hg w3 hbox hb; have BK220 := AM (hbox); have GW220 := gH HB hg; have GE220 := gH HB hg; replace HB := AM (below_step (pH HB) hb); clear hb hbox hg))
 (try simp only [Act.put, List.setIfInBounds_toArray, List.set_cons_zero, List.set_cons_succ])
 go_cut [20] (fun v20 wc => ∃ (kq : Nat) (x20_1 : Bool), v20 = .bool x20_1 ∧ Aside0 (impl_ValidScene.j0 kq x20_1 l0_0 l0_1 l0_2 = some r) ∧ Aside0 (kq ≤ k) ∧ Aside0 (wc.heap[gb220]? = some (.cells #[(.slice A0_0 l0_0.length c0_0), (.slice A0_1 l0_1.length c0_1), (.slice A0_2 l0_2.length c0_2)] 69 (0, 0))) ∧ Aside0 (Below w.heap.size w wc))
 case first =>
  have H := HC2.out; clear HC2
  replace H := Option.bind_eq_some_iff.mp H
  obtain ⟨t221, A40, H⟩ := H
  (try dsimp only at H)
  have A4 := AM A40; clear A40
  by_cases c5 : t221 = true
  rotate_left
  · replace c5 := Bool.eq_false_iff.mpr c5
    subst c5
    have H1 : (impl_ValidScene.j0 k true l0_0 l0_1 l0_2) = some r := by rw [if_neg (show ¬ (false = true) by decide)] at H; exact H
    clear H; have H := H1; clear H1
    have H' := AM H
    clear H
    have hcz13_0 : w3.cell? ⟨gb220, 0, none⟩ = some (.slice A0_0 l0_0.length c0_0) := (blk_cell BK220.out 0).trans rfl
    have hcz13_1 : w3.cell? ⟨gb220, 1, none⟩ = some (.slice A0_1 l0_1.length c0_1) := (blk_cell BK220.out 1).trans rfl
    have hcz13_2 : w3.cell? ⟨gb220, 2, none⟩ = some (.slice A0_2 l0_2.length c0_2) := (blk_cell BK220.out 2).trans rfl
    have hfz13_0 := blk_frozen BK220.out 0; have hfz13_1 := blk_frozen BK220.out 1; have hfz13_2 := blk_frozen BK220.out 2
    go_wp2_with (first | ((with_reducible refine gate_callee (f := 94) rfl ?_); refine goesL_ (some 7) rfl rfl Try.func94 (by kernel_rfl) rfl #[.slice A0_0 l0_0.length c0_0] rfl (by (try simp only [List.map_toArray, List.map_cons, List.map_nil]); first | done | rfl | (simp only [List.length_drop, List.length_take]; rfl)) ?_; (with_reducible refine (impl_goodTris.calls k _ _ l0_0 false _ ?side1 ?side2 A4.out).mono ?_); (case side1 => exact cB HR0_0 HB); (case side2 => exact HC0_0.out); rintro e w14 ⟨rfl, hb⟩; refine ⟨_, rfl, ?_⟩; replace BK220 := bB BK220 hb; replace HB := AM (below_step (pH HB) hb); (try clear hb); (try clear hb2); (try clear hk); (try clear hi)))
    go_meet
    case rel => exact ⟨_, (true), (by first | rfl | (simp; done) | (simp [*]; done)), H', ⟨by first | omega | exact Nat.le_refl _⟩, ⟨by refine sB ?_; exact BK220.out⟩, ⟨pH HB⟩⟩
  subst c5
  have H1 : (if (l0_1.length : Int) > 40 then (impl_ValidScene.j0 k true l0_0 l0_1 l0_2) else (impl_ValidScene.j0 k (decide ((l0_2.length : Int) > 4)) l0_0 l0_1 l0_2)) = some r := by rw [if_pos rfl] at H; exact H
  clear H; have H := H1; clear H1
  by_cases c6 : (l0_1.length : Int) > 40
  · rw [if_pos c6] at H
    have c6b0 : decide (40 < (l0_1.length : Int)) = true := decide_eq_true c6
    have c6b1 : decide (40 < l0_1.length) = true := decide_eq_true (by omega)
    clear c6
    (first | rw [c6b0] | (simp only [i64_w, i32_w]; rw [c6b0]) | skip)
    have H' := AM H
    clear H
    have hcz7_0 : w3.cell? ⟨gb220, 0, none⟩ = some (.slice A0_0 l0_0.length c0_0) := (blk_cell BK220.out 0).trans rfl
    have hcz7_1 : w3.cell? ⟨gb220, 1, none⟩ = some (.slice A0_1 l0_1.length c0_1) := (blk_cell BK220.out 1).trans rfl
    have hcz7_2 : w3.cell? ⟨gb220, 2, none⟩ = some (.slice A0_2 l0_2.length c0_2) := (blk_cell BK220.out 2).trans rfl
    have hfz7_0 := blk_frozen BK220.out 0; have hfz7_1 := blk_frozen BK220.out 1; have hfz7_2 := blk_frozen BK220.out 2
    go_wp2_with (first | ((with_reducible refine gate_callee (f := 94) rfl ?_); refine goesL_ (some 7) rfl rfl Try.func94 (by kernel_rfl) rfl #[.slice A0_0 l0_0.length c0_0] rfl (by (try simp only [List.map_toArray, List.map_cons, List.map_nil]); first | done | rfl | (simp only [List.length_drop, List.length_take]; rfl)) ?_; (with_reducible refine (impl_goodTris.calls k _ _ l0_0 true _ ?side1 ?side2 A4.out).mono ?_); (case side1 => exact cB HR0_0 HB); (case side2 => exact HC0_0.out); rintro e w8 ⟨rfl, hb⟩; refine ⟨_, rfl, ?_⟩; replace BK220 := bB BK220 hb; replace HB := AM (below_step (pH HB) hb); (try clear hb); (try clear hb2); (try clear hk); (try clear hi); have ⟨hcz9_0, hcz9_1, hcz9_2, hfz9_0, hfz9_1, hfz9_2⟩ := z3 BK220))
    go_meet
    case rel => exact ⟨_, (true), (by first | rfl | (simp; done) | (simp [*]; done)), H', ⟨by first | omega | exact Nat.le_refl _⟩, ⟨by refine sB ?_; exact BK220.out⟩, ⟨pH HB⟩⟩
  rw [if_neg c6] at H
  have c6b0 : decide (40 < (l0_1.length : Int)) = false := decide_eq_false c6
  have c6b1 : decide (40 < l0_1.length) = false := decide_eq_false (by omega)
  clear c6
  (first | rw [c6b0] | (simp only [i64_w, i32_w]; rw [c6b0]) | skip)
  have H' := AM H
  clear H
  have hcz10_0 : w3.cell? ⟨gb220, 0, none⟩ = some (.slice A0_0 l0_0.length c0_0) := (blk_cell BK220.out 0).trans rfl
  have hcz10_1 : w3.cell? ⟨gb220, 1, none⟩ = some (.slice A0_1 l0_1.length c0_1) := (blk_cell BK220.out 1).trans rfl
  have hcz10_2 : w3.cell? ⟨gb220, 2, none⟩ = some (.slice A0_2 l0_2.length c0_2) := (blk_cell BK220.out 2).trans rfl
  have hfz10_0 := blk_frozen BK220.out 0; have hfz10_1 := blk_frozen BK220.out 1; have hfz10_2 := blk_frozen BK220.out 2
  go_wp2_with (first | ((with_reducible refine gate_callee (f := 94) rfl ?_); refine goesL_ (some 7) rfl rfl Try.func94 (by kernel_rfl) rfl #[.slice A0_0 l0_0.length c0_0] rfl (by (try simp only [List.map_toArray, List.map_cons, List.map_nil]); first | done | rfl | (simp only [List.length_drop, List.length_take]; rfl)) ?_; (with_reducible refine (impl_goodTris.calls k _ _ l0_0 true _ ?side1 ?side2 A4.out).mono ?_); (case side1 => exact cB HR0_0 HB); (case side2 => exact HC0_0.out); rintro e w11 ⟨rfl, hb⟩; refine ⟨_, rfl, ?_⟩; replace BK220 := bB BK220 hb; replace HB := AM (below_step (pH HB) hb); (try clear hb); (try clear hb2); (try clear hk); (try clear hi); have ⟨hcz12_0, hcz12_1, hcz12_2, hfz12_0, hfz12_1, hfz12_2⟩ := z3 BK220))
  go_meet
  case rel => exact ⟨_, (decide ((l0_2.length : Int) > 4)), (by first | rfl | (simp; done) | (simp [*]; done)), H', ⟨by first | omega | exact Nat.le_refl _⟩, ⟨by refine sB ?_; exact BK220.out⟩, ⟨pH HB⟩⟩
 case rest =>
  clear HC2
  try clear p2
  try clear c4
  try clear c5
  try clear c6
  try clear c6b0
  try clear c6b1
  try clear c9
  try clear hcz10_0
  try clear hcz10_1
  try clear hcz10_2
  try clear hcz12_0
  try clear hcz12_1
  try clear hcz12_2
  try clear hcz13_0
  try clear hcz13_1
  try clear hcz13_2
  try clear hcz7_0
  try clear hcz7_1
  try clear hcz7_2
  try clear hcz9_0
  try clear hcz9_1
  try clear hcz9_2
  try clear hfz10_0
  try clear hfz10_1
  try clear hfz10_2
  try clear hfz12_0
  try clear hfz12_1
  try clear hfz12_2
  try clear hfz13_0
  try clear hfz13_1
  try clear hfz13_2
  try clear hfz7_0
  try clear hfz7_1
  try clear hfz7_2
  try clear hfz9_0
  try clear hfz9_1
  try clear hfz9_2
  obtain ⟨kq, x20_1, rfl, HA, HJ1, BK220, HB⟩ := hcut
  cases kq with
  | zero => exact absurd HA.out (by simp [impl_ValidScene.j0])
  | succ kj1 =>
   have H := HA.out; clear HA
   simp only [impl_ValidScene.j0] at H
   by_cases c15 : x20_1 = true
   · subst c15
     have H1 : (some false) = some r := by rw [if_pos rfl] at H; exact H
     clear H; have H := H1; clear H1
     obtain rfl := Option.some.inj H
     go_wp2
     go_ret
     exact ⟨by first | rfl | (simp [errW_none, errW_some] <;> rfl) | (simp [*, errW_none, errW_some] <;> rfl), pH HB⟩
   replace c15 := Bool.eq_false_iff.mpr c15
   subst c15
   have H1 : (impl_ValidScene.l0 kj1 l0_1 (l0_1.length : Int) 0 l0_0 l0_1 l0_2) = some r := by rw [if_neg (show ¬ (false = true) by decide)] at H; exact H
   clear H; have H := H1; clear H1
   have H' := AM H
   clear H
   have hcz16_0 : wc.cell? ⟨gb220, 0, none⟩ = some (.slice A0_0 l0_0.length c0_0) := (blk_cell BK220.out 0).trans rfl
   have hcz16_1 : wc.cell? ⟨gb220, 1, none⟩ = some (.slice A0_1 l0_1.length c0_1) := (blk_cell BK220.out 1).trans rfl
   have hcz16_2 : wc.cell? ⟨gb220, 2, none⟩ = some (.slice A0_2 l0_2.length c0_2) := (blk_cell BK220.out 2).trans rfl
   have hfz16_0 := blk_frozen BK220.out 0; have hfz16_1 := blk_frozen BK220.out 1; have hfz16_2 := blk_frozen BK220.out 2
   go_wp2
   go_loopg [24] kj1 (fun kq v24 w' => ∃ (x24_2 : Int), v24 = .int .i64 x24_2 ∧ Aside0 (impl_ValidScene.l0 kq l0_1 (l0_1.length : Int) x24_2 l0_0 l0_1 l0_2 = some r) ∧ Aside0 (kq ≤ kj1) ∧ Aside0 (w'.heap[gb220]? = some (.cells #[(.slice A0_0 l0_0.length c0_0), (.slice A0_1 l0_1.length c0_1), (.slice A0_2 l0_2.length c0_2)] 69 (0, 0))) ∧ Aside0 (Below w.heap.size w w'))
   case atStart => exact ⟨(0), (by first | rfl | (simp; done) | (simp [*]; done)), H', ⟨Nat.le_refl _⟩, ⟨by refine sB ?_; exact BK220.out⟩, ⟨pH HB⟩⟩
   case round =>
    clear H'
    try clear c1
    try clear p2
    try clear c4
    try clear c5
    try clear c6
    try clear c6b0
    try clear c6b1
    try clear c9
    try clear c15
    try clear hcz10_0
    try clear hcz10_1
    try clear hcz10_2
    try clear hcz12_0
    try clear hcz12_1
    try clear hcz12_2
    try clear hcz13_0
    try clear hcz13_1
    try clear hcz13_2
    try clear hcz16_0
    try clear hcz16_1
    try clear hcz16_2
    try clear hcz7_0
    try clear hcz7_1
    try clear hcz7_2
    try clear hcz9_0
    try clear hcz9_1
    try clear hcz9_2
    try clear hfz10_0
    try clear hfz10_1
    try clear hfz10_2
    try clear hfz12_0
    try clear hfz12_1
    try clear hfz12_2
    try clear hfz13_0
    try clear hfz13_1
    try clear hfz13_2
    try clear hfz16_0
    try clear hfz16_1
    try clear hfz16_2
    try clear hfz7_0
    try clear hfz7_1
    try clear hfz7_2
    try clear hfz9_0
    try clear hfz9_1
    try clear hfz9_2
    try clear p2
    obtain ⟨x24_2, rfl, HA, HK2, BK220, HB⟩ := hrel
    cases gk with
    | zero => exact absurd HA.out (by simp [impl_ValidScene.l0])
    | succ k2 =>
     have H := HA.out; clear HA
     simp only [impl_ValidScene.l0] at H
     by_cases c17 : x24_2 < (l0_1.length : Int)
     rotate_left
     · rw [if_neg c17] at H
       have c17b0 : decide (x24_2 < (l0_1.length : Int)) = false := decide_eq_false c17
       clear c17
       replace H := Option.bind_eq_some_iff.mp H
       obtain ⟨t225, A300, H⟩ := H
       (try dsimp only at H)
       have A30 := AM A300; clear A300
       obtain rfl := Option.some.inj H
       have hcz31_0 : wr.cell? ⟨gb220, 0, none⟩ = some (.slice A0_0 l0_0.length c0_0) := (blk_cell BK220.out 0).trans rfl
       have hcz31_1 : wr.cell? ⟨gb220, 1, none⟩ = some (.slice A0_1 l0_1.length c0_1) := (blk_cell BK220.out 1).trans rfl
       have hcz31_2 : wr.cell? ⟨gb220, 2, none⟩ = some (.slice A0_2 l0_2.length c0_2) := (blk_cell BK220.out 2).trans rfl
       have hfz31_0 := blk_frozen BK220.out 0; have hfz31_1 := blk_frozen BK220.out 1; have hfz31_2 := blk_frozen BK220.out 2
       go_wp2_with (first | ((with_reducible refine gate_callee (f := 96) rfl ?_); refine goesL_ (some 34) rfl rfl Try.func96 (by kernel_rfl) rfl #[.slice A0_2 l0_2.length c0_2] rfl (by (try simp only [List.map_toArray, List.map_cons, List.map_nil]); first | done | rfl | (simp only [List.length_drop, List.length_take]; rfl)) ?_; (with_reducible refine (impl_finitePoints.calls k2 _ _ l0_2 t225 _ ?side1 ?side2 A30.out).mono ?_); (case side1 => exact cB HR0_2 HB); (case side2 => exact HC0_2.out); rintro e w32 ⟨rfl, hb⟩; refine ⟨_, rfl, ?_⟩; replace BK220 := bB BK220 hb; replace HB := AM (below_step (pH HB) hb); (try clear hb); (try clear hb2); (try clear hk); (try clear hi)))
       go_ret
       exact ⟨by first | rfl | (simp [errW_none, errW_some] <;> rfl) | (simp [*, errW_none, errW_some] <;> rfl), pH HB⟩

     rw [if_pos c17] at H
     have c17b0 : decide (x24_2 < (l0_1.length : Int)) = true := decide_eq_true c17
     clear c17
     by_cases c18 : 0 ≤ x24_2
     rotate_left
     · rw [if_neg c18] at H
       exact absurd H (by simp)
     rw [if_pos c18] at H
     have c18b0 : decide (0 ≤ x24_2) = true := decide_eq_true c18
     clear c18
     by_cases c19 : x24_2 < (l0_1.length : Int)
     rotate_left
     · rw [if_neg c19] at H
       exact absurd H (by simp)
     rw [if_pos c19] at H
     have c19b0 : decide (x24_2 < (l0_1.length : Int)) = true := decide_eq_true c19
     clear c19
     replace H := Option.bind_eq_some_iff.mp H
     obtain ⟨t224, A200, H⟩ := H
     (try dsimp only at H)
     have A20 := AM A200; clear A200
     by_cases c21 : t224 = true
     rotate_left
     · replace c21 := Bool.eq_false_iff.mpr c21
       subst c21
       have H1 : (some false) = some r := by rw [if_neg (show ¬ (false = true) by decide)] at H; exact H
       clear H; have H := H1; clear H1
       obtain rfl := Option.some.inj H
       have p222 : 0 ≤ (x24_2 : Int) := of_decide_eq_true (by first | (with_reducible assumption) | assumption)
       have q222 : x24_2 < (l0_1.length : Int) := of_decide_eq_true (by first | (with_reducible assumption) | assumption)
       obtain ⟨ad222, e222, hx222_0, hx222_1, hx222_2, hx222_3, hx222_4, hx222_5⟩ := at_T127 HR0_1.out x24_2 p222 q222
       cases e222
       replace hx222_0 := (HB.out.cell (World.block_lt_of_cell? w _ hx222_0)).trans hx222_0; replace hx222_1 := (HB.out.cell (World.block_lt_of_cell? w _ hx222_1)).trans hx222_1; replace hx222_2 := (HB.out.cell (World.block_lt_of_cell? w _ hx222_2)).trans hx222_2; replace hx222_3 := (HB.out.cell (World.block_lt_of_cell? w _ hx222_3)).trans hx222_3; replace hx222_4 := (HB.out.cell (World.block_lt_of_cell? w _ hx222_4)).trans hx222_4; replace hx222_5 := (HB.out.cell (World.block_lt_of_cell? w _ hx222_5)).trans hx222_5; replace p222 := eq_true p222; replace q222 := eq_true q222
       go_wp2_with (first | ((with_reducible refine gate_dst (N := 4) rfl ?_); (try (refine gate_guard (by rfl) ?_; dsimp only)); refine box_event ?hg (N := 4) ?hd (cs := #[.int .u32 0, .int .u32 0, .int .u32 0, .int .u32 0, .int .u32 0, .int .u32 0]) (t := 127) ?hr ?_; (case hd => rfl); (case hg => rfl); (case hr => first | (go_simp; done) | (go_simp; rfl)); intro gb223 hg w26 hbox hb; have BK223 := AM (hbox); have GW223 := gH HB hg; have GE223 := gH HB hg; replace HB := AM (below_step (pH HB) hb); have NB220_223 := nL BK220 hg; have NB223_220 := nG BK220 hg; replace BK220 := bB BK220 hb; clear hb hbox hg; have hnb27 := NB223_220.out; have hnc27 := NB220_223.out; have ⟨hcz28_0, hcz28_1, hcz28_2, hcz28_3, hcz28_4, hcz28_5, hfz28_0, hfz28_1, hfz28_2, hfz28_3, hfz28_4, hfz28_5⟩ := z6 BK223) | ((with_reducible refine gate_callee (f := 95) rfl ?_); refine goesL_ (some 29) rfl rfl Try.func95 (by kernel_rfl) rfl #[.agg #[.int .u32 ((rd_T127 l0_1 x24_2).f0.f0), .int .u32 ((rd_T127 l0_1 x24_2).f0.f1), .int .u32 ((rd_T127 l0_1 x24_2).f0.f2), .int .u32 ((rd_T127 l0_1 x24_2).f1.f0), .int .u32 ((rd_T127 l0_1 x24_2).f1.f1), .int .u32 ((rd_T127 l0_1 x24_2).f1.f2)]] rfl (by (try simp only [List.map_toArray, List.map_cons, List.map_nil]); first | done | rfl | (simp only [List.length_drop, List.length_take]; rfl)) ?_; (with_reducible refine (impl_Ray_proper.calls k2 ((rd_T127 l0_1 x24_2).f0.f0) ((rd_T127 l0_1 x24_2).f0.f1) ((rd_T127 l0_1 x24_2).f0.f2) ((rd_T127 l0_1 x24_2).f1.f0) ((rd_T127 l0_1 x24_2).f1.f1) ((rd_T127 l0_1 x24_2).f1.f2) false _ A20.out).mono ?_); rintro e w29 ⟨rfl, hb⟩; refine ⟨_, rfl, ?_⟩; replace BK220 := AM (blk_below (g := gb220) (o := .cells #[.slice A0_0 l0_0.length c0_0, .slice (some ad222) l0_1.length c0_1, .slice A0_2 l0_2.length c0_2] 69 (0, 0)) (by refine sB ?_; refine blk_far ?_ NB220_223.out _; refine sB ?_; refine blk_far ?_ NB220_223.out _; refine sB ?_; refine blk_far ?_ NB220_223.out _; refine sB ?_; refine blk_far ?_ NB220_223.out _; refine sB ?_; refine blk_far ?_ NB220_223.out _; refine sB ?_; refine blk_far ?_ NB220_223.out _; refine sB ?_; exact BK220.out) hb); replace BK223 := AM (blk_below (g := gb223) (o := .cells #[.int .u32 ((rd_T127 l0_1 x24_2).f0.f0), .int .u32 ((rd_T127 l0_1 x24_2).f0.f1), .int .u32 ((rd_T127 l0_1 x24_2).f0.f2), .int .u32 ((rd_T127 l0_1 x24_2).f1.f0), .int .u32 ((rd_T127 l0_1 x24_2).f1.f1), .int .u32 ((rd_T127 l0_1 x24_2).f1.f2)] 127 (0, 0)) (by refine sB ?_; refine blk_put (cs := #[.int .u32 ((rd_T127 l0_1 x24_2).f0.f0), .int .u32 ((rd_T127 l0_1 x24_2).f0.f1), .int .u32 ((rd_T127 l0_1 x24_2).f0.f2), .int .u32 ((rd_T127 l0_1 x24_2).f1.f0), .int .u32 ((rd_T127 l0_1 x24_2).f1.f1), .int .u32 0]) ?_ 5 _ rfl; refine sB ?_; refine blk_put (cs := #[.int .u32 ((rd_T127 l0_1 x24_2).f0.f0), .int .u32 ((rd_T127 l0_1 x24_2).f0.f1), .int .u32 ((rd_T127 l0_1 x24_2).f0.f2), .int .u32 ((rd_T127 l0_1 x24_2).f1.f0), .int .u32 0, .int .u32 0]) ?_ 4 _ rfl; refine sB ?_; refine blk_put (cs := #[.int .u32 ((rd_T127 l0_1 x24_2).f0.f0), .int .u32 ((rd_T127 l0_1 x24_2).f0.f1), .int .u32 ((rd_T127 l0_1 x24_2).f0.f2), .int .u32 0, .int .u32 0, .int .u32 0]) ?_ 3 _ rfl; refine sB ?_; refine blk_put (cs := #[.int .u32 ((rd_T127 l0_1 x24_2).f0.f0), .int .u32 ((rd_T127 l0_1 x24_2).f0.f1), .int .u32 0, .int .u32 0, .int .u32 0, .int .u32 0]) ?_ 2 _ rfl; refine sB ?_; refine blk_put (cs := #[.int .u32 ((rd_T127 l0_1 x24_2).f0.f0), .int .u32 0, .int .u32 0, .int .u32 0, .int .u32 0, .int .u32 0]) ?_ 1 _ rfl; refine sB ?_; refine blk_put (cs := #[.int .u32 0, .int .u32 0, .int .u32 0, .int .u32 0, .int .u32 0, .int .u32 0]) ?_ 0 _ rfl; refine sB ?_; exact BK223.out) hb); replace HB := AM (below_step (pH HB) hb); (try clear hb); (try clear hb2); (try clear hk); (try clear hi)))
       go_ret
       exact ⟨by first | rfl | (simp [errW_none, errW_some] <;> rfl) | (simp [*, errW_none, errW_some] <;> rfl), pH HB⟩
     subst c21
     have H1 : (impl_ValidScene.l0 k2 l0_1 (l0_1.length : Int) (wrap64 (x24_2 + 1)) l0_0 l0_1 l0_2) = some r := by rw [if_pos rfl] at H; exact H
     clear H; have H := H1; clear H1
     have H' := AM H
     clear H
     have p222 : 0 ≤ (x24_2 : Int) := of_decide_eq_true (by first | (with_reducible assumption) | assumption)
     have q222 : x24_2 < (l0_1.length : Int) := of_decide_eq_true (by first | (with_reducible assumption) | assumption)
     obtain ⟨ad222, e222, hx222_0, hx222_1, hx222_2, hx222_3, hx222_4, hx222_5⟩ := at_T127 HR0_1.out x24_2 p222 q222
     cases e222
     replace hx222_0 := (HB.out.cell (World.block_lt_of_cell? w _ hx222_0)).trans hx222_0; replace hx222_1 := (HB.out.cell (World.block_lt_of_cell? w _ hx222_1)).trans hx222_1; replace hx222_2 := (HB.out.cell (World.block_lt_of_cell? w _ hx222_2)).trans hx222_2; replace hx222_3 := (HB.out.cell (World.block_lt_of_cell? w _ hx222_3)).trans hx222_3; replace hx222_4 := (HB.out.cell (World.block_lt_of_cell? w _ hx222_4)).trans hx222_4; replace hx222_5 := (HB.out.cell (World.block_lt_of_cell? w _ hx222_5)).trans hx222_5; replace p222 := eq_true p222; replace q222 := eq_true q222
     go_wp2_with (first | ((with_reducible refine gate_dst (N := 4) rfl ?_); (try (refine gate_guard (by rfl) ?_; dsimp only)); refine box_event ?hg (N := 4) ?hd (cs := #[.int .u32 0, .int .u32 0, .int .u32 0, .int .u32 0, .int .u32 0, .int .u32 0]) (t := 127) ?hr ?_; (case hd => rfl); (case hg => rfl); (case hr => first | (go_simp; done) | (go_simp; rfl)); intro gb223 hg w22 hbox hb; have BK223 := AM (hbox); have GW223 := gH HB hg; have GE223 := gH HB hg; replace HB := AM (below_step (pH HB) hb); have NB220_223 := nL BK220 hg; have NB223_220 := nG BK220 hg; replace BK220 := bB BK220 hb; clear hb hbox hg; have hnb23 := NB223_220.out; have hnc23 := NB220_223.out; have ⟨hcz24_0, hcz24_1, hcz24_2, hcz24_3, hcz24_4, hcz24_5, hfz24_0, hfz24_1, hfz24_2, hfz24_3, hfz24_4, hfz24_5⟩ := z6 BK223) | ((with_reducible refine gate_callee (f := 95) rfl ?_); refine goesL_ (some 29) rfl rfl Try.func95 (by kernel_rfl) rfl #[.agg #[.int .u32 ((rd_T127 l0_1 x24_2).f0.f0), .int .u32 ((rd_T127 l0_1 x24_2).f0.f1), .int .u32 ((rd_T127 l0_1 x24_2).f0.f2), .int .u32 ((rd_T127 l0_1 x24_2).f1.f0), .int .u32 ((rd_T127 l0_1 x24_2).f1.f1), .int .u32 ((rd_T127 l0_1 x24_2).f1.f2)]] rfl (by (try simp only [List.map_toArray, List.map_cons, List.map_nil]); first | done | rfl | (simp only [List.length_drop, List.length_take]; rfl)) ?_; (with_reducible refine (impl_Ray_proper.calls k2 ((rd_T127 l0_1 x24_2).f0.f0) ((rd_T127 l0_1 x24_2).f0.f1) ((rd_T127 l0_1 x24_2).f0.f2) ((rd_T127 l0_1 x24_2).f1.f0) ((rd_T127 l0_1 x24_2).f1.f1) ((rd_T127 l0_1 x24_2).f1.f2) true _ A20.out).mono ?_); rintro e w25 ⟨rfl, hb⟩; refine ⟨_, rfl, ?_⟩; replace BK220 := AM (blk_below (g := gb220) (o := .cells #[.slice A0_0 l0_0.length c0_0, .slice (some ad222) l0_1.length c0_1, .slice A0_2 l0_2.length c0_2] 69 (0, 0)) (by refine sB ?_; refine blk_far ?_ NB220_223.out _; refine sB ?_; refine blk_far ?_ NB220_223.out _; refine sB ?_; refine blk_far ?_ NB220_223.out _; refine sB ?_; refine blk_far ?_ NB220_223.out _; refine sB ?_; refine blk_far ?_ NB220_223.out _; refine sB ?_; refine blk_far ?_ NB220_223.out _; refine sB ?_; exact BK220.out) hb); replace BK223 := AM (blk_below (g := gb223) (o := .cells #[.int .u32 ((rd_T127 l0_1 x24_2).f0.f0), .int .u32 ((rd_T127 l0_1 x24_2).f0.f1), .int .u32 ((rd_T127 l0_1 x24_2).f0.f2), .int .u32 ((rd_T127 l0_1 x24_2).f1.f0), .int .u32 ((rd_T127 l0_1 x24_2).f1.f1), .int .u32 ((rd_T127 l0_1 x24_2).f1.f2)] 127 (0, 0)) (by refine sB ?_; refine blk_put (cs := #[.int .u32 ((rd_T127 l0_1 x24_2).f0.f0), .int .u32 ((rd_T127 l0_1 x24_2).f0.f1), .int .u32 ((rd_T127 l0_1 x24_2).f0.f2), .int .u32 ((rd_T127 l0_1 x24_2).f1.f0), .int .u32 ((rd_T127 l0_1 x24_2).f1.f1), .int .u32 0]) ?_ 5 _ rfl; refine sB ?_; refine blk_put (cs := #[.int .u32 ((rd_T127 l0_1 x24_2).f0.f0), .int .u32 ((rd_T127 l0_1 x24_2).f0.f1), .int .u32 ((rd_T127 l0_1 x24_2).f0.f2), .int .u32 ((rd_T127 l0_1 x24_2).f1.f0), .int .u32 0, .int .u32 0]) ?_ 4 _ rfl; refine sB ?_; refine blk_put (cs := #[.int .u32 ((rd_T127 l0_1 x24_2).f0.f0), .int .u32 ((rd_T127 l0_1 x24_2).f0.f1), .int .u32 ((rd_T127 l0_1 x24_2).f0.f2), .int .u32 0, .int .u32 0, .int .u32 0]) ?_ 3 _ rfl; refine sB ?_; refine blk_put (cs := #[.int .u32 ((rd_T127 l0_1 x24_2).f0.f0), .int .u32 ((rd_T127 l0_1 x24_2).f0.f1), .int .u32 0, .int .u32 0, .int .u32 0, .int .u32 0]) ?_ 2 _ rfl; refine sB ?_; refine blk_put (cs := #[.int .u32 ((rd_T127 l0_1 x24_2).f0.f0), .int .u32 0, .int .u32 0, .int .u32 0, .int .u32 0, .int .u32 0]) ?_ 1 _ rfl; refine sB ?_; refine blk_put (cs := #[.int .u32 0, .int .u32 0, .int .u32 0, .int .u32 0, .int .u32 0, .int .u32 0]) ?_ 0 _ rfl; refine sB ?_; exact BK223.out) hb); replace HB := AM (below_step (pH HB) hb); (try clear hb); (try clear hb2); (try clear hk); (try clear hi)))
     go_roundg k2
     case measure => have := HJ1.out; have := HK2.out; omega
     case rel => exact ⟨(wrap64 (x24_2 + 1)), (by first | rfl | (simp; done) | (simp [*]; done)), H', ⟨by have := HJ1.out; have := HK2.out; omega⟩, ⟨by refine sB ?_; exact BK220.out⟩, ⟨pH HB⟩⟩
end Go.Proofs.Ytcpdeenhjodmfaa.QValidScene
