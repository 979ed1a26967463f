-- Written by wip/tools/mkprint.py (my program) out of the translation, for this claim. Not trusted: Lean checks it.
import Derived.Test.YtcpdeenhjodmfaaDoorQDecodeScenex0
import Derived.Test.YtcpdeenhjodmfaaDoorQDecodeScenex4
namespace Go.Proofs.YtcpdeenhjodmfaaDoor.QDecodeScene
open Go.RowKit Go.Proofs.YtcpdeenhjodmfaaDoorW.PrintWords Go.Proofs.YtcpdeenhjodmfaaDoorW.PrintLast Go.Proofs.YtcpdeenhjodmfaaDoorW.PrintMore
attribute [local go_sem] max2_int min2_int max_two min_two max_three min_three max_four min_four   -- for this text's walks alone
set_option maxHeartbeats 8000000
set_option maxRecDepth 100000
set_option linter.unusedVariables false
set_option linter.unusedSimpArgs false

/-! ### impl_DecodeScene: function 16 -/
--@info 67
--@info 70
--@info 72
/-- The fault: a panic with a pointer to a new record of its code and place. -/
def Flt (w0 w w' : World) (g : Nat) (c a : Int) (e : Ending) : Prop :=
 ∃ gf, e = .panicked [{ v := .iface 77 (.pointer (some ⟨gf, 0, none⟩)), recovered := false }] ∧ w'.heap[gf]? = some (.cells #[.int .i64 c, .int .i64 a] 81 (0, 0)) ∧ w.heap.size ≤ gf ∧ Below w0.heap.size w0 w' ∧ KeepBut w w' g none
theorem Flt.after {w0 w w1 w2 : World} {g : Nat} {c a : Int} {e : Ending} (h : Flt w0 w1 w2 g c a e) (hk : KeepBut w w1 g none) : Flt w0 w w2 g c a e := by
 obtain ⟨gf, he, hb, hs, hB, hK⟩ := h
 exact ⟨gf, he, hb, Nat.le_trans hk.1 hs, hB, hk.trans hK (.inl rfl)⟩
section
variable {P : Program} {ops : Array Oper} {Q : Exit → Act → World → Prop}
/-- A call that may panic, in a plain region. -/
theorem goesLX_ {rest : List Oper} {oi : Oper} {a : Act} {w : World} (hg : oi.guard = none) {f : FuncId} {fn : Func} {xs : Array Operand} {ts : Array TypeId} (hf : P.funcs[f]? = some fn) (hname : (fn.name == "runtime.NumGoroutine") = false) (hb : fn.body.isSome = true) (args : Array Value)
  (hop : oi.op = .call { callee := .value (.func f), args := xs, argTypes := ts }) (hargs : xs.map a.eval = args)
  (h : Calls P f args w fun e w' => ∃ ch, e = .panicked ch ∧ Q (.panic ch) a w') : wpList P ops Q (oi :: rest) a w := by
 refine wpList_plain hg fun K hK => ?_
 have he := enters_ hf hname hb args w
 have hrun : (execOp a.eval oi).run P w = .ok (.enter f args) w := by
  unfold execOp
  simp [hop, resolve, Deferred.ofValue, invoke, Act.eval, hargs, he]
 unfold Oper.wp
 rw [hrun, Oper.upon_enter]
 refine h.mono fun e w'' hh => ?_
 obtain ⟨ch, rfl, hk⟩ := hh
 exact hk
/-- The same in a region that draws its order. -/
theorem goesX_ {oi : Oper} {N : Option Tmp} {a : Act} {w : World} {K : Act → World → Prop} {f : FuncId} {fn : Func} {xs : Array Operand} {ts : Array TypeId} (hf : P.funcs[f]? = some fn) (hname : (fn.name == "runtime.NumGoroutine") = false) (hb : fn.body.isSome = true) (args : Array Value)
  (hw : Region.wanted oi (yielded ops a.tmps) = true) (hop : oi.op = .call { callee := .value (.func f), args := xs, argTypes := ts }) (hargs : xs.map a.eval = args)
  (h : Calls P f args w fun e w' => ∃ ch, e = .panicked ch ∧ Q (.panic ch) a w') : if Region.wanted oi (yielded ops a.tmps) = true then Oper.wp P oi a w K Q else K (a.put N undef) w := by
 rw [if_pos hw]
 have he := enters_ hf hname hb args w
 have hrun : (execOp a.eval oi).run P w = .ok (.enter f args) w := by
  unfold execOp
  simp [hop, resolve, Deferred.ofValue, invoke, Act.eval, hargs, he]
 unfold Oper.wp
 rw [hrun, Oper.upon_enter]
 refine h.mono fun e w'' hh => ?_
 obtain ⟨ch, rfl, hk⟩ := hh
 exact hk
end
theorem stop_flt (g : Nat) (c a : Int) (w0 w : World) (hB : Below w0.heap.size w0 w) :
  Calls Tryd.prog 65 #[.pointer (some ⟨g, 0, none⟩), .int .i64 c, .int .i64 a] w fun e w' => Flt w0 w w' g c a e := by
 have hB := AM hB
 go_enter Tryd.func65, Tryd.ntmps65
 go_wp2
 exact ⟨rfl, w.heap.size, rfl, blk_new w _, Nat.le_refl _, below_alloc hB.out _, keep_alloc (KeepBut.refl w g none) _⟩
theorem isS_cells {w0 w : World} {g : Nat} {b : List Int} {a : Int} (h : IsS98 w0 w g b a) : ∃ A c, w.cell? ⟨g, 0, none⟩ = some (.slice A b.length c) ∧ w.cell? ⟨g, 1, none⟩ = some (.int .i64 a) := by
 obtain ⟨A, c, hb, hg, hC⟩ := h
 exact ⟨A, c, (blk_cell hb 0).trans rfl, (blk_cell hb 1).trans rfl⟩
/-! ### numbers read from bytes -/
def okB (b : List Int) : Bool := decide (b.length ≤ 2000000) && b.all fun x => decide (0 ≤ x ∧ x < 256)
def bG (b : List Int) (i : Nat) : Int := b.getD i 0
structure OkB (b : List Int) : Prop where
 len : b.length ≤ 2000000
 by_ : ∀ i, 0 ≤ bG b i ∧ bG b i < 256
theorem okB_spec {b : List Int} (h : okB b = true) : OkB b := by
 unfold okB at h
 simp only [Bool.and_eq_true, decide_eq_true_eq] at h
 refine ⟨h.1, fun i => ?_⟩
 unfold bG
 rcases Nat.lt_or_ge i b.length with hi | hi
 ·have h2 := List.all_eq_true.1 h.2 (b[i]) (List.getElem_mem hi)
  rw [List.getD_eq_getElem?_getD, List.getElem?_eq_getElem hi]
  simpa using h2
 ·rw [List.getD_eq_getElem?_getD, List.getElem?_eq_none hi]
  simp
/-- s bytes from place a on, the lowest first. -/
def numV (b : List Int) (a : Nat) : Nat → Nat
 | 0 => 0
 | s + 1 => (bG b a).toNat + 256 * numV b (a + 1) s
theorem numV_lt {b : List Int} (h : OkB b) : ∀ (s a : Nat), numV b a s < 256 ^ s
 | 0, _ => by simp [numV]
 | s + 1, a => by
  have h1 := numV_lt h s (a + 1)
  have h2 := h.by_ a
  rw [Nat.pow_succ]
  unfold numV
  omega
theorem numV_snoc (b : List Int) : ∀ (s a : Nat), numV b a (s + 1) = numV b a s + (bG b (a + s)).toNat * 256 ^ s
 | 0, a => by simp [numV]
 | s + 1, a => by
  have h1 := numV_snoc b s (a + 1)
  rw [show numV b a (s + 1 + 1) = (bG b a).toNat + 256 * numV b (a + 1) (s + 1) from rfl, h1, show numV b a (s + 1) = (bG b a).toNat + 256 * numV b (a + 1) s from rfl, Nat.mul_add, Nat.pow_succ, show a + 1 + s = a + (s + 1) from by omega]
  have : 256 * ((bG b (a + (s + 1))).toNat * 256 ^ s) = (bG b (a + (s + 1))).toNat * (256 ^ s * 256) := by
   rw [Nat.mul_comm (256 ^ s), Nat.mul_left_comm]
  omega
theorem bor_add (x y s : Nat) (hx : x < 2 ^ s) (h : x + y * 2 ^ s < 4294967296) {z : Int} (hz : z = ((y * 2 ^ s : Nat) : Int)) : Go.bits .or .u32 ((x : Nat) : Int) z = ((x + y * 2 ^ s : Nat) : Int) := by
 have h2 : x ||| y * 2 ^ s = x + y * 2 ^ s := by
  rw [Nat.or_comm, Nat.mul_comm, ← Nat.two_pow_add_eq_or_of_lt hx, Nat.add_comm]
 subst hz
 have h32 : (2 : Nat) ^ 32 = 4294967296 := by decide
 show IntKind.u32.wrap (((BitVec.ofInt 32 ((x : Nat) : Int) ||| BitVec.ofInt 32 ((y * 2 ^ s : Nat) : Int)).toNat : Nat) : Int) = _
 rw [BitVec.toNat_or, BitVec.ofInt_natCast, BitVec.ofInt_natCast, BitVec.toNat_ofNat, BitVec.toNat_ofNat, Nat.mod_eq_of_lt (a := x) (by rw [h32]; omega), Nat.mod_eq_of_lt (a := y * 2 ^ s) (by rw [h32]; omega), h2]
 have : ∀ q : Int, IntKind.u32.wrap q = q % 4294967296 := fun q => by simp [IntKind.wrap, IntKind.bits, IntKind.signed]
 rw [this]
 omega
theorem ww {x : Int} (h0 : -9223372036854775808 ≤ x) (h1 : x ≤ 9223372036854775807) : wrap64 x = x := by unfold wrap64; omega
theorem num_loop {b : List Int} (hb : OkB b) (a s : Nat) (hs : s ≤ 4) (ha : a + s ≤ b.length) : ∀ (d i : Nat), i + d = s → Ev (fun k => impl_bytesIn_num.l0 k (s : Int) ((numV b a i : Nat) : Int) (s : Int) (i : Int) b (a : Int)) (((numV b a s : Nat) : Int), ((a + s : Nat) : Int))
 | 0, i, h => ⟨1, fun k hk => by
  obtain ⟨k, rfl⟩ : ∃ m, k = m + 1 := ⟨k - 1, by omega⟩
  obtain rfl : i = s := by omega
  have hl := hb.len
  simp only [impl_bytesIn_num.l0]
  rw [if_neg (by omega), ww (by omega) (by omega)]
  congr 2⟩
 | d + 1, i, h => by
  have ih := num_loop hb a s hs ha d (i + 1) (by omega)
  have hl := hb.len
  have hg := hb.by_ (a + i)
  have hi3 : i ≤ 3 := by omega
  have hlt := numV_lt hb i a
  have hlt2 := numV_lt hb (i + 1) a
  rw [numV_snoc] at ih hlt2
  have hp : (256 : Nat) ^ i = 2 ^ (8 * i) := by rw [Nat.pow_mul]
  have hp4 : (256 : Nat) ^ (i + 1) ≤ 256 ^ 4 := Nat.pow_le_pow_right (by omega) (by omega)
  have hq4 : (256 : Nat) ^ 4 = 4294967296 := by decide
  rw [hp] at ih hlt hlt2
  obtain ⟨y, hy⟩ : ∃ y : Nat, bG b (a + i) = (y : Int) := ⟨(bG b (a + i)).toNat, by omega⟩
  rw [hy, Int.toNat_natCast] at ih hlt2
  have hrd : rd b ((a : Int) + i) = (y : Int) := by
   rw [← hy]
   have e : ((a : Int) + (i : Int)) = ((a + i : Nat) : Int) := by omega
   unfold rd bG
   rw [e, Int.toNat_natCast]
  have hsh : shl .u32 ((y : Int) % 4294967296) (8 * (i : Int)) = ((y * 2 ^ (8 * i) : Nat) : Int) := by
   unfold shl
   rw [show (8 : Int) * (i : Int) = ((8 * i : Nat) : Int) from by omega, Int.toNat_natCast, Nat.min_eq_left (by show 8 * i ≤ 32; omega), show ((y : Int) % 4294967296) = (y : Int) from by omega, show (y : Int) * 2 ^ (8 * i) = ((y * 2 ^ (8 * i) : Nat) : Int) from by simp]
   have : ∀ q : Int, IntKind.u32.wrap q = q % 4294967296 := fun q => by simp [IntKind.wrap, IntKind.bits, IntKind.signed]
   rw [this]
   omega
  refine Ev.step (fun k => ?_) ih
  simp only [impl_bytesIn_num.l0]
  rw [if_pos (by omega), ww (x := (a : Int) + i) (by omega) (by omega), if_pos (by omega), if_pos (by omega), hrd, ww (x := 8 * (i : Int)) (by omega) (by omega), if_pos (by omega), hsh, bor_add (numV b a i) y (8 * i) hlt (by omega) rfl, ww (x := (i : Int) + 1) (by omega) (by omega)]
  rfl
theorem num_ok {b : List Int} (hb : OkB b) (a s : Nat) (hs : s ≤ 4) (ha : a + s ≤ b.length) : ∃ k, impl_bytesIn_num.f k b (a : Int) (s : Int) = some (((numV b a s : Nat) : Int), ((a + s : Nat) : Int)) := by
 have hl := hb.len
 refine Ev.rounds ?_
 refine Ev.congr (f := fun k => impl_bytesIn_num.j0 k (s : Int) b (a : Int)) (fun k => ?_) (Ev.step (f := fun k => impl_bytesIn_num.l0 k (s : Int) 0 (s : Int) 0 b (a : Int)) (fun k => ?_) (num_loop hb a s hs ha s 0 (by omega)))
 ·unfold impl_bytesIn_num.f
  rw [ww (by omega) (by omega), if_neg (by omega)]
 ·simp only [impl_bytesIn_num.j0]
abbrev ER := Int × Int
def numE (b : List Int) (a s : Nat) : Except ER Nat := if a + s ≤ b.length then .ok (numV b a s) else .error (5, b.length)
def finB (v : Nat) : Bool := v / 8388608 % 256 != 255
def floatE (b : List Int) (a : Nat) : Except ER Nat :=
 match numE b a 4 with
 | .error e => .error e
 | .ok v => if finB v = true then .ok v else .error (6, a)
def countE (b : List Int) (a s most : Nat) : Except ER Nat :=
 match numE b a s with
 | .error e => .error e
 | .ok v => if most < v then .error (2, a) else .ok v
def pointE (b : List Int) (a : Nat) : Except ER S67 :=
 match floatE b a with
 | .error e => .error e
 | .ok x => match floatE b (a + 4) with
  | .error e => .error e
  | .ok y => match floatE b (a + 8) with
   | .error e => .error e
   | .ok z => .ok ⟨x, y, z⟩
theorem num_calls (g : Nat) (b : List Int) (a s v : Nat) (z : Int) (hz : z = (s : Int)) (w0 w : World) (hI : IsS98 w0 w g b (a : Int)) (hB : Below w0.heap.size w0 w) (hb : OkB b) (hs : s ≤ 4) (h : numE b a s = .ok v) :
  Calls Tryd.prog 76 #[.pointer (some ⟨g, 0, none⟩), .int .i64 z] w fun e w' => e = .returned (.int .u32 (v : Int)) ∧ IsS98 w0 w' g b ((a + s : Nat) : Int) ∧ Below w0.heap.size w0 w' ∧ KeepBut w w' g none := by
 subst hz
 unfold numE at h
 by_cases hl : a + s ≤ b.length
 ·rw [if_pos hl] at h
  injection h with h
  subst h
  obtain ⟨k, hk⟩ := num_ok hb a s hs hl
  exact impl_bytesIn_num.calls k g b (a : Int) (s : Int) _ _ w0 w hI hB hk
 ·rw [if_neg hl] at h
  cases h
theorem num_flt (g : Nat) (b : List Int) (a s : Nat) (er : ER) (w0 w : World) (hI : IsS98 w0 w g b (a : Int)) (hB : Below w0.heap.size w0 w) (ha : a ≤ 2000000) (hs : s ≤ 4) (h : numE b a s = .error er) :
  Calls Tryd.prog 76 #[.pointer (some ⟨g, 0, none⟩), .int .i64 (s : Int)] w fun e w' => Flt w0 w w' g er.1 er.2 e := by
 unfold numE at h
 by_cases hl : a + s ≤ b.length
 ·rw [if_pos hl] at h
  cases h
 rw [if_neg hl] at h
 injection h with h
 subst h
 obtain ⟨A0, c0, hbx, hg, hC⟩ := hI
 have HBX := AM hbx
 have HB := AM hB
 have hc0 : w.cell? ⟨g, 0, none⟩ = some (.slice A0 b.length c0) := (blk_cell hbx 0).trans rfl
 have hc1 : w.cell? ⟨g, 1, none⟩ = some (.int .i64 (a : Int)) := (blk_cell hbx 1).trans rfl
 have hd : decide ((b.length : Int) < (a : Int) + (s : Int)) = true := decide_eq_true (by omega)
 clear hbx hB hC hg hl
 go_enter Tryd.func76, Tryd.ntmps76
 go_wp2
 go_quiet (fail)
 generalize hq_ : World.drewN w _ = w1
 have HB1 := AM (show Below w0.heap.size w0 w1 from by rw [← hq_]; exact pw_below_drewN HB.out _)
 have HK1 := AM (show KeepBut w w1 g none from by rw [← hq_]; exact keep_drewN (KeepBut.refl w g none) _)
 have HX1 := AM (show w1.heap[g]? = some (.cells #[.slice A0 b.length c0, .int .i64 (a : Int)] 98 (0, 0)) from by rw [← hq_]; exact HBX.out)
 clear hq_ HB HBX hc0 hc1
 have hc0 : w1.cell? ⟨g, 0, none⟩ = some (.slice A0 b.length c0) := (blk_cell HX1.out 0).trans rfl
 go_wp2_with (first | ((with_reducible refine gate_callee (f := 65) rfl ?_); refine goesLX_ rfl Tryd.func65 (by kernel_rfl) rfl #[.pointer (some ⟨g, 0, none⟩), .int .i64 5, .int .i64 (b.length : Int)] rfl hM ?_; refine (stop_flt g 5 (b.length : Int) w0 _ HB1.out).mono ?_; rintro e w2 hF; obtain ⟨gf, rfl, hF2⟩ := hF; refine ⟨_, rfl, ?_⟩))
 exact ⟨rfl, gf, rfl, hF2.1, Nat.le_trans HK1.out.1 hF2.2.1, hF2.2.2.1, HK1.out.trans hF2.2.2.2 (.inl rfl)⟩
theorem goF {w0 w w1 w2 : World} {g gf : Nat} {c a : Int} (hk : KeepBut w w1 g none) (h : w2.heap[gf]? = some (.cells #[.int .i64 c, .int .i64 a] 81 (0, 0)) ∧ w1.heap.size ≤ gf ∧ Below w0.heap.size w0 w2 ∧ KeepBut w1 w2 g none) :
  Flt w0 w w2 g c a (.panicked [{ v := .iface 77 (.pointer (some ⟨gf, 0, none⟩)), recovered := false }]) :=
 ⟨gf, rfl, h.1, Nat.le_trans hk.1 h.2.1, h.2.2.1, hk.trans h.2.2.2 (.inl rfl)⟩
theorem fin_f (v : Nat) (hv : v < 4294967296) (r : Bool) (h : finB v = r) : impl_finite.f (v : Int) = some r := by
 unfold impl_finite.f
 rw [if_pos ⟨by omega, by omega⟩, ← h]
 unfold finB
 congr 1
 have e : ((v : Int) / 8388608 % 256) = ((v / 8388608 % 256 : Nat) : Int) := by omega
 rw [e]
 rw [Bool.eq_iff_iff]
 simp only [bne_iff_ne, ne_eq]
 omega
theorem finB_calls (v : Nat) (hv : v < 4294967296) (r : Bool) (h : finB v = r) (w : World) : Calls Tryd.prog 83 #[.int .u32 (v : Int)] w fun e w' => e = .returned (.bool r) ∧ Drawn0 w w' :=
 impl_finite.calls (v : Int) r w (fin_f v hv r h)
theorem numE_lt {b : List Int} (hb : OkB b) {a s v : Nat} (hs : s ≤ 4) (h : numE b a s = .ok v) : v < 4294967296 ∧ a + s ≤ b.length := by
 unfold numE at h
 by_cases hl : a + s ≤ b.length
 ·rw [if_pos hl] at h
  injection h with h
  have h1 := numV_lt hb s a
  have h2 : (256 : Nat) ^ s ≤ 256 ^ 4 := Nat.pow_le_pow_right (by omega) hs
  have h3 : (256 : Nat) ^ 4 = 4294967296 := by decide
  exact ⟨by omega, hl⟩
 ·rw [if_neg hl] at h
  cases h
theorem float_flt (g : Nat) (b : List Int) (a : Nat) (er : ER) (w0 w : World) (hI : IsS98 w0 w g b (a : Int)) (hB : Below w0.heap.size w0 w) (hb : OkB b) (ha : a ≤ 1000000) (h : floatE b a = .error er) :
  Calls Tryd.prog 77 #[.pointer (some ⟨g, 0, none⟩)] w fun e w' => Flt w0 w w' g er.1 er.2 e := by
 have HI := AM hI; have HB := AM hB; have HOB := AM hb
 clear hI hB hb
 unfold floatE at h
 cases hn : numE b a 4 with
 | error e =>
  rw [hn] at h
  injection h with h
  subst h
  have HN := AM hn
  clear hn
  go_enter Tryd.func77, Tryd.ntmps77
  go_wp2_with (first | ((with_reducible refine gate_callee (f := 76) rfl ?_); refine goesLX_ rfl Tryd.func76 (by kernel_rfl) rfl #[.pointer (some ⟨g, 0, none⟩), .int .i64 4] rfl hM ?_; refine (num_flt g b a 4 e w0 _ HI.out HB.out (by omega) (by omega) HN.out).mono ?_; rintro e w2 hF; obtain ⟨gf, rfl, hF2⟩ := hF; refine ⟨_, rfl, ?_⟩))
  exact ⟨rfl, goF (KeepBut.refl w g none) hF2⟩
 | ok v =>
  rw [hn] at h
  have hv := numE_lt HOB.out (by omega) hn
  have HN := AM hn
  clear hn
  by_cases hf : finB v = true
  ·simp only [if_pos hf] at h
   cases h
  ·simp only [if_neg hf] at h
   injection h with h
   subst h
   have hf' : finB v = false := by simpa using hf
   have HF := AM (finB_calls v hv.1 false hf')
   have hd : wrap64 (((a + 4 : Nat) : Int) - 4) = (a : Int) := by unfold wrap64; omega
   clear hf hf'
   go_enter Tryd.func77, Tryd.ntmps77
   go_wp2_with (first | ((with_reducible refine gate_callee (f := 76) rfl ?_); refine goesL_ (some 5) rfl rfl Tryd.func76 (by kernel_rfl) rfl #[.pointer (some ⟨g, 0, none⟩), .int .i64 4] rfl hM ?_; (with_reducible refine (num_calls g b a 4 v 4 rfl w0 _ HI.out HB.out HOB.out (by omega) HN.out).mono ?_); rintro e w1 ⟨rfl, hi1, hb1, hk1⟩; have HI1 := AM hi1; have HB1 := AM hb1; have HK1 := AM hk1; clear hi1 hb1 hk1; have ⟨A1, c1, hc1_0, hc1_1⟩ := isS_cells HI1.out; refine ⟨_, rfl, ?_⟩) | ((with_reducible refine gate_callee (f := 83) rfl ?_); refine goesL_ (some 7) rfl rfl Tryd.func83 (by kernel_rfl) rfl #[.int .u32 (v : Int)] rfl hM ?_; (with_reducible refine (HF.out _).mono ?_); rintro e w' ⟨rfl, ⟨nd, rfl⟩⟩; refine ⟨_, rfl, ?_⟩) | ((with_reducible refine gate_callee (f := 65) rfl ?_); refine goesLX_ rfl Tryd.func65 (by kernel_rfl) rfl #[.pointer (some ⟨g, 0, none⟩), .int .i64 6, .int .i64 (a : Int)] rfl hM ?_; refine (stop_flt g 6 (a : Int) w0 _ (AM (pw_below_drewN HB1.out nd)).out).mono ?_; rintro e w2 hF; obtain ⟨gf, rfl, hF2⟩ := hF; refine ⟨_, rfl, ?_⟩))
   exact ⟨rfl, goF (keep_drewN HK1.out nd) hF2⟩
theorem float_ok {b : List Int} (hb : OkB b) {a v : Nat} (h : floatE b a = .ok v) : ∃ k, impl_bytesIn_float.f k b (a : Int) = some ((v : Int), ((a + 4 : Nat) : Int)) := by
 unfold floatE at h
 cases hn : numE b a 4 with
 | error e =>
  rw [hn] at h
  cases h
 | ok u =>
  rw [hn] at h
  have hv := numE_lt hb (by omega) hn
  by_cases hf : finB u = true
  ·simp only [if_pos hf] at h
   injection h with h
   subst h
   unfold numE at hn
   rw [if_pos hv.2] at hn
   injection hn with hn
   obtain ⟨k, hk⟩ := num_ok hb a 4 (by omega) hv.2
   have hk' : impl_bytesIn_num.f k b (a : Int) 4 = some ((u : Int), ((a + 4 : Nat) : Int)) := by rw [← hn]; exact hk
   refine ⟨k, ?_⟩
   unfold impl_bytesIn_float.f
   have hfin := fin_f u hv.1 true hf
   rw [hk', Option.bind_some, hfin, Option.bind_some, if_pos rfl]
  ·simp only [if_neg hf] at h
   cases h
theorem floatE_le {b : List Int} (hb : OkB b) {a v : Nat} (h : floatE b a = .ok v) : v < 4294967296 ∧ a + 4 ≤ b.length := by
 unfold floatE at h
 cases hn : numE b a 4 with
 | error e => rw [hn] at h; cases h
 | ok u =>
  rw [hn] at h
  have hv := numE_lt hb (by omega) hn
  by_cases hf : finB u = true
  ·simp only [if_pos hf] at h
   injection h with h
   subst h
   exact hv
  ·simp only [if_neg hf] at h
   cases h
theorem float_calls (g : Nat) (b : List Int) (a v : Nat) (z : Int) (hz : z = (a : Int)) (w0 w : World) (hI : IsS98 w0 w g b z) (hB : Below w0.heap.size w0 w) (hb : OkB b) (h : floatE b a = .ok v) :
  Calls Tryd.prog 77 #[.pointer (some ⟨g, 0, none⟩)] w fun e w' => e = .returned (.int .u32 (v : Int)) ∧ IsS98 w0 w' g b ((a + 4 : Nat) : Int) ∧ Below w0.heap.size w0 w' ∧ KeepBut w w' g none := by
 subst hz
 obtain ⟨k, hk⟩ := float_ok hb h
 exact impl_bytesIn_float.calls k g b (a : Int) _ _ w0 w hI hB hk
theorem pointE_ok {b : List Int} {a : Nat} {p : S67} (h : pointE b a = .ok p) : ∃ x y z : Nat, floatE b a = .ok x ∧ floatE b (a + 4) = .ok y ∧ floatE b (a + 8) = .ok z ∧ p = ⟨x, y, z⟩ := by
 unfold pointE at h
 cases hx : floatE b a with
 | error e => rw [hx] at h; cases h
 | ok x =>
  rw [hx] at h
  cases hy : floatE b (a + 4) with
  | error e => rw [hy] at h; cases h
  | ok y =>
   rw [hy] at h
   cases hz : floatE b (a + 8) with
   | error e => rw [hz] at h; cases h
   | ok z =>
    rw [hz] at h
    injection h with h
    exact ⟨x, y, z, rfl, rfl, rfl, h.symm⟩
theorem pointE_le {b : List Int} (hb : OkB b) {a : Nat} {p : S67} (h : pointE b a = .ok p) : a + 12 ≤ b.length := by
 obtain ⟨x, y, z, hx, hy, hz, rfl⟩ := pointE_ok h
 have := floatE_le hb hz
 omega
theorem point_calls (g : Nat) (b : List Int) (a : Nat) (p : S67) (z : Int) (hz : z = (a : Int)) (w0 w : World) (hI : IsS98 w0 w g b z) (hB : Below w0.heap.size w0 w) (hb : OkB b) (h : pointE b a = .ok p) :
  Calls Tryd.prog 67 #[.pointer (some ⟨g, 0, none⟩)] w fun e w' => e = .returned (.agg #[.int .u32 p.f0, .int .u32 p.f1, .int .u32 p.f2]) ∧ IsS98 w0 w' g b ((a + 12 : Nat) : Int) ∧ Below w0.heap.size w0 w' ∧ KeepBut w w' g none := by
 subst hz
 obtain ⟨x, y, z, hx, hy, hz, rfl⟩ := pointE_ok h
 obtain ⟨k1, h1⟩ := float_ok hb hx
 obtain ⟨k2, h2⟩ := float_ok hb hy
 obtain ⟨k3, h3⟩ := float_ok hb hz
 obtain ⟨K, hK⟩ : ∃ K, impl_bytesIn_point.f K b (a : Int) = some ((x : Int), (y : Int), (z : Int), ((a + 12 : Nat) : Int)) := by
  refine ⟨k1 + k2 + k3, ?_⟩
  have e1 := at_rounds (g := fun k => impl_bytesIn_float.f k b (a : Int)) (impl_bytesIn_float.mono _ _) (show k1 ≤ k1 + k2 + k3 by omega) h1
  have e2 := at_rounds (g := fun k => impl_bytesIn_float.f k b ((a + 4 : Nat) : Int)) (impl_bytesIn_float.mono _ _) (show k2 ≤ k1 + k2 + k3 by omega) h2
  have e3 := at_rounds (g := fun k => impl_bytesIn_float.f k b ((a + 8 : Nat) : Int)) (impl_bytesIn_float.mono _ _) (show k3 ≤ k1 + k2 + k3 by omega) h3
  unfold impl_bytesIn_point.f
  have e4 : ((a + 4 + 4 : Nat) : Int) = ((a + 8 : Nat) : Int) := by omega
  have e5 : ((a + 8 + 4 : Nat) : Int) = ((a + 12 : Nat) : Int) := by omega
  rw [e4] at e2
  rw [e5] at e3
  rw [e1, Option.bind_some, e2, Option.bind_some, e3, Option.bind_some]
 exact impl_bytesIn_point.calls K g b (a : Int) _ _ _ _ w0 w hI hB hK
theorem point_flt (g : Nat) (b : List Int) (a : Nat) (er : ER) (z : Int) (hz : z = (a : Int)) (w0 w : World) (hI : IsS98 w0 w g b z) (hB : Below w0.heap.size w0 w) (hb : OkB b) (ha : a ≤ 900000) (h : pointE b a = .error er) :
  Calls Tryd.prog 67 #[.pointer (some ⟨g, 0, none⟩)] w fun e w' => Flt w0 w w' g er.1 er.2 e := by
 subst hz
 have HI := AM hI; have HB := AM hB; have HOB := AM hb
 clear hI hB hb
 unfold pointE at h
 cases hx : floatE b a with
 | error e =>
  rw [hx] at h
  injection h with h
  subst h
  have HX := AM hx
  clear hx
  go_enter Tryd.func67, Tryd.ntmps67
  go_wp2_with (first | ((with_reducible refine gate_dst (N := 2) rfl ?_); refine box_event ?hg (N := 2) ?hd (cs := #[.int .u32 0, .int .u32 0, .int .u32 0]) (t := 67) ?hr ?_; (case hd => rfl); (case hg => rfl); (case hr => first | (go_simp; done) | (go_simp; rfl)); intro gp hg wp hbox hb; have HKP := AM (KeepBut.of_below hb g none); have HIP := AM (HI.out.below hb); have HBP := AM (below_then HB.out HB.out.size hb); clear hbox hb hg) | ((with_reducible refine gate_callee (f := 77) rfl ?_); refine goesLX_ rfl Tryd.func77 (by kernel_rfl) rfl #[.pointer (some ⟨g, 0, none⟩)] rfl hM ?_; refine (float_flt g b a e w0 _ HIP.out HBP.out HOB.out (by omega) HX.out).mono ?_; rintro e w9 hF; obtain ⟨gf, rfl, hF2⟩ := hF; refine ⟨_, rfl, ?_⟩))
  exact ⟨rfl, goF HKP.out hF2⟩
 | ok x =>
  rw [hx] at h
  have HX := AM hx
  clear hx
  cases hy : floatE b (a + 4) with
  | error e =>
   rw [hy] at h
   injection h with h
   subst h
   have HY := AM hy
   clear hy
   go_enter Tryd.func67, Tryd.ntmps67
   go_wp2_with (first | ((with_reducible refine gate_dst (N := 2) rfl ?_); refine box_event ?hg (N := 2) ?hd (cs := #[.int .u32 0, .int .u32 0, .int .u32 0]) (t := 67) ?hr ?_; (case hd => rfl); (case hg => rfl); (case hr => first | (go_simp; done) | (go_simp; rfl)); intro gp hg wp hbox hb; have HKP := AM (KeepBut.of_below hb g none); have HIP := AM (HI.out.below hb); have HBP := AM (below_then HB.out HB.out.size hb); clear hbox hb hg) | ((with_reducible refine gate_callee (f := 77) rfl ?_); refine goesL_ (some 6) rfl rfl Tryd.func77 (by kernel_rfl) rfl #[.pointer (some ⟨g, 0, none⟩)] rfl hM ?_; (with_reducible refine (float_calls g b a x _ rfl w0 _ HIP.out HBP.out HOB.out HX.out).mono ?_); rintro e w1 ⟨rfl, hi1, hb1, hk1⟩; have HI1 := AM hi1; have HB1 := AM hb1; have HK1 := AM (hk1); clear hi1 hb1 hk1; have ⟨A1, c1, hc1_0, hc1_1⟩ := isS_cells HI1.out; refine ⟨_, rfl, ?_⟩) | ((with_reducible refine gate_callee (f := 77) rfl ?_); refine goesLX_ rfl Tryd.func77 (by kernel_rfl) rfl #[.pointer (some ⟨g, 0, none⟩)] rfl hM ?_; refine (float_flt g b (a + 4) e w0 _ HI1.out HB1.out HOB.out (by omega) HY.out).mono ?_; rintro e w9 hF; obtain ⟨gf, rfl, hF2⟩ := hF; refine ⟨_, rfl, ?_⟩))
   exact ⟨rfl, goF (KeepBut.trans HKP.out HK1.out (.inl rfl)) hF2⟩
  | ok y =>
   rw [hy] at h
   have HY := AM hy
   clear hy
   cases hzz : floatE b (a + 8) with
   | error e =>
    rw [hzz] at h
    injection h with h
    subst h
    have HZ := AM hzz
    clear hzz
    go_enter Tryd.func67, Tryd.ntmps67
    go_wp2_with (first | ((with_reducible refine gate_dst (N := 2) rfl ?_); refine box_event ?hg (N := 2) ?hd (cs := #[.int .u32 0, .int .u32 0, .int .u32 0]) (t := 67) ?hr ?_; (case hd => rfl); (case hg => rfl); (case hr => first | (go_simp; done) | (go_simp; rfl)); intro gp hg wp hbox hb; have HKP := AM (KeepBut.of_below hb g none); have HIP := AM (HI.out.below hb); have HBP := AM (below_then HB.out HB.out.size hb); clear hbox hb hg) | ((with_reducible refine gate_callee (f := 77) rfl ?_); refine goesL_ (some 6) rfl rfl Tryd.func77 (by kernel_rfl) rfl #[.pointer (some ⟨g, 0, none⟩)] rfl hM ?_; (with_reducible refine (float_calls g b a x _ rfl w0 _ HIP.out HBP.out HOB.out HX.out).mono ?_); rintro e w1 ⟨rfl, hi1, hb1, hk1⟩; have HI1 := AM hi1; have HB1 := AM hb1; have HK1 := AM (hk1); clear hi1 hb1 hk1; have ⟨A1, c1, hc1_0, hc1_1⟩ := isS_cells HI1.out; refine ⟨_, rfl, ?_⟩) | ((with_reducible refine gate_callee (f := 77) rfl ?_); refine goesL_ (some 8) rfl rfl Tryd.func77 (by kernel_rfl) rfl #[.pointer (some ⟨g, 0, none⟩)] rfl hM ?_; (with_reducible refine (float_calls g b (a + 4) y _ rfl w0 _ HI1.out HB1.out HOB.out HY.out).mono ?_); rintro e w2 ⟨rfl, hi1, hb1, hk1⟩; have HI2 := AM hi1; have HB2 := AM hb1; have HK2 := AM (KeepBut.trans HK1.out hk1 (.inl rfl)); clear hi1 hb1 hk1; have ⟨A2, c2, hc2_0, hc2_1⟩ := isS_cells HI2.out; refine ⟨_, rfl, ?_⟩) | ((with_reducible refine gate_callee (f := 77) rfl ?_); refine goesLX_ rfl Tryd.func77 (by kernel_rfl) rfl #[.pointer (some ⟨g, 0, none⟩)] rfl hM ?_; refine (float_flt g b (a + 8) e w0 _ HI2.out HB2.out HOB.out (by omega) HZ.out).mono ?_; rintro e w9 hF; obtain ⟨gf, rfl, hF2⟩ := hF; refine ⟨_, rfl, ?_⟩))
    exact ⟨rfl, goF (KeepBut.trans HKP.out HK2.out (.inl rfl)) hF2⟩
   | ok z =>
    rw [hzz] at h
    cases h
theorem countE_ok {b : List Int} {a s m v : Nat} (h : countE b a s m = .ok v) : numE b a s = .ok v ∧ v ≤ m := by
 unfold countE at h
 cases hn : numE b a s with
 | error e => rw [hn] at h; cases h
 | ok u =>
  rw [hn] at h
  by_cases hm : m < u
  ·simp only [if_pos hm] at h
   cases h
  ·simp only [if_neg hm] at h
   injection h with h
   subst h
   exact ⟨rfl, by omega⟩
theorem count_calls (g : Nat) (b : List Int) (a s m v : Nat) (z y x : Int) (hz : z = (a : Int)) (hy : y = (s : Int)) (hx : x = (m : Int)) (w0 w : World) (hI : IsS98 w0 w g b z) (hB : Below w0.heap.size w0 w) (hb : OkB b) (hs : s ≤ 4) (hm : m ≤ 100) (h : countE b a s m = .ok v) :
  Calls Tryd.prog 66 #[.pointer (some ⟨g, 0, none⟩), .int .i64 y, .int .i64 x] w fun e w' => e = .returned (.int .i64 (v : Int)) ∧ IsS98 w0 w' g b ((a + s : Nat) : Int) ∧ Below w0.heap.size w0 w' ∧ KeepBut w w' g none := by
 subst hz; subst hy; subst hx
 obtain ⟨hn, hv⟩ := countE_ok h
 have hl := numE_lt hb hs hn
 unfold numE at hn
 rw [if_pos hl.2] at hn
 injection hn with hn
 obtain ⟨k, hk⟩ := num_ok hb a s hs hl.2
 have hk' : impl_bytesIn_count.f k b (a : Int) (s : Int) (m : Int) = some ((v : Int), ((a + s : Nat) : Int)) := by
  have hw : wrap64 (v : Int) = (v : Int) := ww (by omega) (by omega)
  have hng : ¬ ((v : Int) > (m : Int)) := by omega
  rw [hn] at hk
  unfold impl_bytesIn_count.f
  rw [hk, Option.bind_some, hw, if_neg hng]
 exact impl_bytesIn_count.calls k g b (a : Int) (s : Int) (m : Int) _ _ w0 w hI hB hk'
theorem count_flt (g : Nat) (b : List Int) (a s m : Nat) (er : ER) (z y x : Int) (hz : z = (a : Int)) (hy : y = (s : Int)) (hx : x = (m : Int)) (w0 w : World) (hI : IsS98 w0 w g b z) (hB : Below w0.heap.size w0 w) (hb : OkB b) (ha : a ≤ 900000) (hs : s ≤ 4) (hm : m ≤ 100) (h : countE b a s m = .error er) :
  Calls Tryd.prog 66 #[.pointer (some ⟨g, 0, none⟩), .int .i64 y, .int .i64 x] w fun e w' => Flt w0 w w' g er.1 er.2 e := by
 subst hz; subst hy; subst hx
 have HI := AM hI; have HB := AM hB; have HOB := AM hb
 clear hI hB hb
 unfold countE at h
 cases hn : numE b a s with
 | error e =>
  rw [hn] at h
  injection h with h
  subst h
  have HN := AM hn
  clear hn
  go_enter Tryd.func66, Tryd.ntmps66
  go_wp2_with (first | ((with_reducible refine gate_callee (f := 76) rfl ?_); refine goesLX_ rfl Tryd.func76 (by kernel_rfl) rfl #[.pointer (some ⟨g, 0, none⟩), .int .i64 (s : Int)] rfl hM ?_; refine (num_flt g b a s e w0 _ HI.out HB.out (by omega) hs HN.out).mono ?_; rintro e w9 hF; obtain ⟨gf, rfl, hF2⟩ := hF; refine ⟨_, rfl, ?_⟩))
  exact ⟨rfl, goF (KeepBut.refl w g none) hF2⟩
 | ok v =>
  rw [hn] at h
  have hv := numE_lt HOB.out hs hn
  have HN := AM hn
  clear hn
  by_cases hm2 : m < v
  ·simp only [if_pos hm2] at h
   injection h with h
   subst h
   have hd : decide ((m : Int) < (v : Int)) = true := decide_eq_true (by omega)
   have hd2 : decide (m < v) = true := decide_eq_true hm2
   have hlt : (m : Int) < (v : Int) := by omega
   go_enter Tryd.func66, Tryd.ntmps66
   go_wp2_with (first | ((with_reducible refine gate_callee (f := 76) rfl ?_); refine goesL_ (some 10) rfl rfl Tryd.func76 (by kernel_rfl) rfl #[.pointer (some ⟨g, 0, none⟩), .int .i64 (s : Int)] rfl hM ?_; (with_reducible refine (num_calls g b a s v (s : Int) rfl w0 _ HI.out HB.out HOB.out hs HN.out).mono ?_); rintro e w1 ⟨rfl, hi1, hb1, hk1⟩; have HI1 := AM hi1; have HB1 := AM hb1; have HK1 := AM (hk1); clear hi1 hb1 hk1; have ⟨A1, c1, hc1_0, hc1_1⟩ := isS_cells HI1.out; refine ⟨_, rfl, ?_⟩) | ((with_reducible refine gate_callee (f := 65) rfl ?_); refine goesLX_ rfl Tryd.func65 (by kernel_rfl) rfl #[.pointer (some ⟨g, 0, none⟩), .int .i64 2, .int .i64 (a : Int)] rfl hM ?_; refine (stop_flt g 2 _ w0 _ HB1.out).mono ?_; rintro e w2 hF; obtain ⟨gf, rfl, hF2⟩ := hF; refine ⟨_, rfl, ?_⟩))
   exact ⟨rfl, goF HK1.out hF2⟩
  ·simp only [if_neg hm2] at h
   cases h
/-! ### a scene read from bytes: what the text says, step by step -/
def zeroP (p : S67) : Bool := ((Go.bits .or .u32 (Go.bits .or .u32 p.f0 p.f1) p.f2) * 2) % 4294967296 == 0
abbrev SCR := List S70 × List S72 × List S67
def finF (b : List Int) (a : Nat) (T : List S70) (R : List S72) (L : List S67) : Except ER SCR := if a < b.length then .error (8, a) else .ok (T, R, L)
def lightsF (b : List Int) (T : List S70) (R : List S72) : Nat → Nat → List S67 → Except ER SCR
 | 0, a, L => finF b a T R L
 | n + 1, a, L => match pointE b a with
  | .error e => .error e
  | .ok p => lightsF b T R n (a + 12) (L ++ [p])
def raysF (b : List Int) (T : List S70) (l : Nat) : Nat → Nat → List S72 → Except ER SCR
 | 0, a, R => lightsF b T R l a []
 | n + 1, a, R => match pointE b a with
  | .error e => .error e
  | .ok o => match pointE b (a + 12) with
   | .error e => .error e
   | .ok d => if zeroP d = true then .error (7, ((a + 12 : Nat) : Int)) else raysF b T l n (a + 24) (R ++ [⟨o, d⟩])
def trisF (b : List Int) (r l : Nat) : Nat → Nat → List S70 → Except ER SCR
 | 0, a, T => raysF b T l r a []
 | n + 1, a, T => match pointE b a with
  | .error e => .error e
  | .ok p => match pointE b (a + 12) with
   | .error e => .error e
   | .ok q => match pointE b (a + 24) with
    | .error e => .error e
    | .ok z => trisF b r l n (a + 36) (T ++ [⟨p, q, z⟩])
def cntF (b : List Int) : Except ER SCR :=
 match countE b 4 2 40 with
 | .error e => .error e
 | .ok t => match countE b 6 2 40 with
  | .error e => .error e
  | .ok r => match countE b 8 1 4 with
   | .error e => .error e
   | .ok l => trisF b r l t 9 []
def magF (b : List Int) : List Int → Nat → Except ER SCR
 | [], _ => cntF b
 | c :: cs, i => if b.length ≤ i then .error (5, i) else if bG b i = c then magF b cs (i + 1) else .error (4, i)
def sceneE (b : List Int) : Except ER SCR := magF b [83, 67, 69, 78] 0
def SceneR (w0 w w' : World) (g : Nat) (x : Except ER SCR) (e : Ending) : Prop :=
 match x with
 | .ok r => ∃ v0 v1 v2 : Value, e = .returned (.agg #[v0, v1, v2]) ∧ Kd.R k70 70 w' w0.heap.size (fun k => w.heap.size ≤ k) v0 r.1 ∧ Kd.R k72 72 w' w0.heap.size (fun k => w.heap.size ≤ k) v1 r.2.1 ∧ Kd.R k67 67 w' w0.heap.size (fun k => w.heap.size ≤ k) v2 r.2.2 ∧ Below w0.heap.size w0 w' ∧ KeepBut w w' g none
 | .error er => Flt w0 w w' g er.1 er.2 e
theorem sceneR_flt {w0 w w1 w2 : World} {g gf : Nat} {c a : Int} {x : Except ER SCR} (hx : Except.error (c, a) = x) (hk : KeepBut w w1 g none) (h : w2.heap[gf]? = some (.cells #[.int .i64 c, .int .i64 a] 81 (0, 0)) ∧ w1.heap.size ≤ gf ∧ Below w0.heap.size w0 w2 ∧ KeepBut w1 w2 g none) :
  SceneR w0 w w2 g x (.panicked [{ v := .iface 77 (.pointer (some ⟨gf, 0, none⟩)), recovered := false }]) := by
 subst hx
 exact goF hk h
theorem sceneR_flt' {w0 w w1 w2 : World} {g gf : Nat} {er : ER} {x : Except ER SCR} (hx : Except.error er = x) (hk : KeepBut w w1 g none) (h : w2.heap[gf]? = some (.cells #[.int .i64 er.1, .int .i64 er.2] 81 (0, 0)) ∧ w1.heap.size ≤ gf ∧ Below w0.heap.size w0 w2 ∧ KeepBut w1 w2 g none) :
  SceneR w0 w w2 g x (.panicked [{ v := .iface 77 (.pointer (some ⟨gf, 0, none⟩)), recovered := false }]) := by
 subst hx
 exact goF hk h
theorem mag_cell {j : Nat} {c : Int} {cs : List Int} (h : ([83, 67, 69, 78] : List Int).drop j = c :: cs) : (#[.int .u8 83, .int .u8 67, .int .u8 69, .int .u8 78] : Array Value)[j]? = some (.int .u8 c) ∧ ([83, 67, 69, 78] : List Int).drop (j + 1) = cs ∧ j < 4 := by
 match j, h with
 | 0, h => injection h with h1 h2; subst h1; exact ⟨rfl, h2, by omega⟩
 | 1, h => injection h with h1 h2; subst h1; exact ⟨rfl, h2, by omega⟩
 | 2, h => injection h with h1 h2; subst h1; exact ⟨rfl, h2, by omega⟩
 | 3, h => injection h with h1 h2; subst h1; exact ⟨rfl, h2, by omega⟩
 | n + 4, h => simp at h
theorem mag_end {j : Nat} (h : ([83, 67, 69, 78] : List Int).drop j = []) (hj : j ≤ 4) : j = 4 := by
 match j, h with
 | 0, h => cases h
 | 1, h => cases h
 | 2, h => cases h
 | 3, h => cases h
 | n + 4, h => omega
/-- A row of bytes laid by a literal, which a conversion to its own type marks. -/
theorem dsc_lit {P : Program} {ops : Array Oper} {rest : List Oper} {o o2 : Oper} {a : Act} {Q : Exit → Act → World → Prop} {W : World} (hgd : o.guard = none) (hgd2 : o2.guard = none) {N N2 : Tmp} (hd : o.dst = some N) (hd2 : o2.dst = some N2) {t e : TypeId} (ht : P.underlying t = some (.slice e)) (he : P.underlying e = some (.int .u8)) (ho2 : o2.op = .convert t t (.tmp N)) {cs : Array Value} {n : Nat}
  (hrun : (execOp a.eval o).run P W = .ok (.value (.slice (some ⟨W.heap.size, 0, none⟩) n n)) (W.alloc (.cells cs e)))
  (hev : ∀ v, (a.put (some N) v).eval (.tmp N) = v)
  (h : ∀ g, g = W.heap.size → ∀ w1, w1.heap[g]? = some (.cells cs e (cs.size, cs.size + 1)) → Below W.heap.size W w1 → wpList P ops Q rest ((a.put (some N) (.slice (some ⟨g, 0, none⟩) n n)).put (some N2) (.slice (some ⟨g, 0, none⟩) n n)) w1) : wpList P ops Q (o :: o2 :: rest) a W := by
 refine Kd.event_run hgd hrun ?_
 rw [hd]
 refine Kd.event_run (v := .slice (some ⟨W.heap.size, 0, none⟩) n n) (w1 := W.alloc (.cells cs e (cs.size, cs.size + 1))) hgd2 ?_ ?_
 ·have hk := Lib.run_convert_bytes_const (P := P) W t e cs n n ht he
  simp only [execOp, ho2, hev, Sem.run_bind, hk, Result.andThen]
  rfl
 ·rw [hd2]
  exact h _ rfl _ (heap_alloc_new W _) (below_alloc (Below.refl _ _) _)
/-- Ahead of the scene's own box. -/
structure PI (w0 w W : World) (g gR : Nat) (b : List Int) (z : Int) : Prop where
 hI : IsS98 w0 W g b z
 hB : Below w0.heap.size w0 W
 hK : KeepBut w W g none
 res : W.heap[gR]? = some (.cells #[.slice none 0 0, .slice none 0 0, .slice none 0 0] 40 (0, 0))
 gr : w.heap.size ≤ gR
 hw : w0.heap.size ≤ w.heap.size
section
variable {w0 w W W' : World} {g gR gS : Nat} {b : List Int} {z z' : Int}
theorem PI.below (h : PI w0 w W g gR b z) (hb : Below W.heap.size W W') : PI w0 w W' g gR b z :=
 ⟨h.hI.below hb, below_then h.hB h.hB.size hb, KeepBut.trans h.hK (KeepBut.of_below hb g none) (.inl rfl), blk_below h.res hb, h.gr, h.hw⟩
theorem PI.call (h : PI w0 w W g gR b z) (hi : IsS98 w0 W' g b z') (hb : Below w0.heap.size w0 W') (hk : KeepBut W W' g none) : PI w0 w W' g gR b z' :=
 ⟨hi, hb, KeepBut.trans h.hK hk (.inl rfl), hk.blk h.res (h.hI.ne_blk h.res (by decide)).symm (by simp), h.gr, h.hw⟩
theorem PI.set1 (h : PI w0 w W g gR b z) (x : Int) : PI w0 w (W.setCell ⟨g, 1, none⟩ (.int .i64 x)) g gR b x :=
 ⟨h.hI.set_1 x, h.hB.setCell h.hI.ge _, h.hK.set_ 1 _, blk_far h.res (h.hI.ne_blk h.res (by decide)).symm _, h.gr, h.hw⟩
/-- With the scene's own box. -/
structure SI (w0 w W : World) (g gR gS : Nat) (b : List Int) (z : Int) (v0 v1 v2 : Value) (T : List S70) (R : List S72) (L : List S67) : Prop where
 pi : PI w0 w W g gR b z
 box : W.heap[gS]? = some (.cells #[v0, v1, v2] 40 (0, 0))
 r0 : Kd.R k70 70 W w0.heap.size (fun k => w.heap.size ≤ k) v0 T
 r1 : Kd.R k72 72 W w0.heap.size (fun k => w.heap.size ≤ k) v1 R
 r2 : Kd.R k67 67 W w0.heap.size (fun k => w.heap.size ≤ k) v2 L
 ne : gR ≠ gS
 gs : w.heap.size ≤ gS
variable {v0 v1 v2 v' : Value} {T T' : List S70} {R R' : List S72} {L L' : List S67}
theorem SI.below (h : SI w0 w W g gR gS b z v0 v1 v2 T R L) (hb : Below W.heap.size W W') : SI w0 w W' g gR gS b z v0 v1 v2 T R L :=
 ⟨h.pi.below hb, blk_below h.box hb, Kd.R_below h.r0 hb, Kd.R_below h.r1 hb, Kd.R_below h.r2 hb, h.ne, h.gs⟩
theorem SI.drew (h : SI w0 w W g gR gS b z v0 v1 v2 T R L) : SI w0 w W.drew g gR gS b z v0 v1 v2 T R L := h.below (below_drew (Below.refl _ _))
theorem SI.alloc (h : SI w0 w W g gR gS b z v0 v1 v2 T R L) (o : Obj) : SI w0 w (W.alloc o) g gR gS b z v0 v1 v2 T R L := h.below (below_alloc (Below.refl _ _) o)
theorem SI.call (h : SI w0 w W g gR gS b z v0 v1 v2 T R L) (hi : IsS98 w0 W' g b z') (hb : Below w0.heap.size w0 W') (hk : KeepBut W W' g none) : SI w0 w W' g gR gS b z' v0 v1 v2 T R L :=
 ⟨h.pi.call hi hb hk, hk.blk h.box (h.pi.hI.ne_blk h.box (by decide)).symm (by simp),
  Kd.R_mono (Kd.R_keep (h.pi.hI.apart h.r0 (by decide)) hk (fun k hk => hk.2)) (fun k hk => hk.1),
  Kd.R_mono (Kd.R_keep (h.pi.hI.apart h.r1 (by decide)) hk (fun k hk => hk.2)) (fun k hk => hk.1),
  Kd.R_mono (Kd.R_keep (h.pi.hI.apart h.r2 (by decide)) hk (fun k hk => hk.2)) (fun k hk => hk.1), h.ne, h.gs⟩
theorem SI.size (h : SI w0 w W g gR gS b z v0 v1 v2 T R L) : w0.heap.size ≤ W.heap.size := h.pi.hB.size
theorem SI.wsize (h : SI w0 w W g gR gS b z v0 v1 v2 T R L) : w.heap.size ≤ W.heap.size := h.pi.hK.1
/-- What an append to the first row and the store behind it leave. -/
theorem SI.push0 {w1 : World} (h : SI w0 w W g gR gS b z v0 v1 v2 T R L) (ho : Kd.R k70 70 w1 w0.heap.size (fun k => w.heap.size ≤ k) v' T') (hb : Below w0.heap.size w0 w1) (hg : W.grownBy w1 v0.ownBlock) :
  w1.heap[gS]? = some (.cells #[v0, v1, v2] 40 (0, 0)) ∧ SI w0 w (w1.setCell ⟨gS, 0, none⟩ v') g gR gS b z v' v1 v2 T' R L := by
 have hbx : w1.heap[gS]? = some (.cells #[v0, v1, v2] 40 (0, 0)) := blk_grown h.box hg (Kd.R_ne h.r0 h.box (by decide))
 have hrs := blk_grown h.pi.res hg (Kd.R_ne h.r0 h.pi.res (by decide))
 have hII := h.pi.hI.grown hg (h.pi.hI.own_ne h.r0 (by decide))
 have hkk := KeepBut.trans h.pi.hK (KeepBut.of_grown hg g) (by
  cases e : v0.ownBlock with
  | none => exact .inl rfl
  | some k => exact .inr ⟨k, rfl, h.r0.1 k e⟩)
 refine ⟨hbx, ⟨hII.far (h.pi.hI.ne_blk h.box (by decide)) _, hb.setCell (Nat.le_trans h.pi.hw h.gs) _, keep_far hkk h.gs _, blk_far hrs h.ne _, h.pi.gr, h.pi.hw⟩, blk_put (cs := #[v0, v1, v2]) hbx 0 _ rfl,
  Kd.R_set ho hbx (by decide) 0 _, Kd.R_set (Kd.R_over' h.r1 (Kd.R_typed h.r0) (by decide) hg) hbx (by decide) 0 _, Kd.R_set (Kd.R_over' h.r2 (Kd.R_typed h.r0) (by decide) hg) hbx (by decide) 0 _, h.ne, h.gs⟩
theorem SI.push1 {w1 : World} (h : SI w0 w W g gR gS b z v0 v1 v2 T R L) (ho : Kd.R k72 72 w1 w0.heap.size (fun k => w.heap.size ≤ k) v' R') (hb : Below w0.heap.size w0 w1) (hg : W.grownBy w1 v1.ownBlock) :
  w1.heap[gS]? = some (.cells #[v0, v1, v2] 40 (0, 0)) ∧ SI w0 w (w1.setCell ⟨gS, 1, none⟩ v') g gR gS b z v0 v' v2 T R' L := by
 have hbx : w1.heap[gS]? = some (.cells #[v0, v1, v2] 40 (0, 0)) := blk_grown h.box hg (Kd.R_ne h.r1 h.box (by decide))
 have hrs := blk_grown h.pi.res hg (Kd.R_ne h.r1 h.pi.res (by decide))
 have hII := h.pi.hI.grown hg (h.pi.hI.own_ne h.r1 (by decide))
 have hkk := KeepBut.trans h.pi.hK (KeepBut.of_grown hg g) (by
  cases e : v1.ownBlock with
  | none => exact .inl rfl
  | some k => exact .inr ⟨k, rfl, h.r1.1 k e⟩)
 refine ⟨hbx, ⟨hII.far (h.pi.hI.ne_blk h.box (by decide)) _, hb.setCell (Nat.le_trans h.pi.hw h.gs) _, keep_far hkk h.gs _, blk_far hrs h.ne _, h.pi.gr, h.pi.hw⟩, blk_put (cs := #[v0, v1, v2]) hbx 1 _ rfl,
  Kd.R_set (Kd.R_over' h.r0 (Kd.R_typed h.r1) (by decide) hg) hbx (by decide) 1 _, Kd.R_set ho hbx (by decide) 1 _, Kd.R_set (Kd.R_over' h.r2 (Kd.R_typed h.r1) (by decide) hg) hbx (by decide) 1 _, h.ne, h.gs⟩
theorem SI.push2 {w1 : World} (h : SI w0 w W g gR gS b z v0 v1 v2 T R L) (ho : Kd.R k67 67 w1 w0.heap.size (fun k => w.heap.size ≤ k) v' L') (hb : Below w0.heap.size w0 w1) (hg : W.grownBy w1 v2.ownBlock) :
  w1.heap[gS]? = some (.cells #[v0, v1, v2] 40 (0, 0)) ∧ SI w0 w (w1.setCell ⟨gS, 2, none⟩ v') g gR gS b z v0 v1 v' T R L' := by
 have hbx : w1.heap[gS]? = some (.cells #[v0, v1, v2] 40 (0, 0)) := blk_grown h.box hg (Kd.R_ne h.r2 h.box (by decide))
 have hrs := blk_grown h.pi.res hg (Kd.R_ne h.r2 h.pi.res (by decide))
 have hII := h.pi.hI.grown hg (h.pi.hI.own_ne h.r2 (by decide))
 have hkk := KeepBut.trans h.pi.hK (KeepBut.of_grown hg g) (by
  cases e : v2.ownBlock with
  | none => exact .inl rfl
  | some k => exact .inr ⟨k, rfl, h.r2.1 k e⟩)
 refine ⟨hbx, ⟨hII.far (h.pi.hI.ne_blk h.box (by decide)) _, hb.setCell (Nat.le_trans h.pi.hw h.gs) _, keep_far hkk h.gs _, blk_far hrs h.ne _, h.pi.gr, h.pi.hw⟩, blk_put (cs := #[v0, v1, v2]) hbx 2 _ rfl,
  Kd.R_set (Kd.R_over' h.r0 (Kd.R_typed h.r2) (by decide) hg) hbx (by decide) 2 _, Kd.R_set (Kd.R_over' h.r1 (Kd.R_typed h.r2) (by decide) hg) hbx (by decide) 2 _, Kd.R_set ho hbx (by decide) 2 _, h.ne, h.gs⟩
end
theorem isS_byte {w0 w : World} {g : Nat} {b : List Int} {a : Int} (h : IsS98 w0 w g b a) (hB : Below w0.heap.size w0 w) (i : Int) (h0 : 0 ≤ i) (h1 : i < b.length) {A : Option Addr} {c : Nat} (hc : w.cell? ⟨g, 0, none⟩ = some (.slice A b.length c)) : ∃ ad, A = some ad ∧ w.cell? (ad.add i.toNat) = some (.int .u8 (rd b i)) := by
 obtain ⟨A', c', hb, hg, hC⟩ := h
 have h2 : w.cell? ⟨g, 0, none⟩ = some (.slice A' b.length c') := (blk_cell hb 0).trans rfl
 rw [h2] at hc
 injection hc with hc
 injection hc with e1 e2 e3
 subst e1
 exact Kd.at_int (Kd.C_below hC hB) i h0 h1
theorem isS_free {w0 w : World} {g : Nat} {b : List Int} {a : Int} (h : IsS98 w0 w g b a) : w.frozen? ⟨g, 1, none⟩ = false := by
 obtain ⟨A, c, hb, hg, hC⟩ := h
 exact blk_frozen hb 1
theorem SI.start {w0 w W W' : World} {g gR : Nat} {b : List Int} {z : Int} (h : PI w0 w W g gR b z) (hb : Below W.heap.size W W') {gS : Nat} (hg : gS = W.heap.size) (hbox : W'.heap[gS]? = some (.cells #[.slice none 0 0, .slice none 0 0, .slice none 0 0] 40 (0, 0))) :
  SI w0 w W' g gR gS b z (.slice none 0 0) (.slice none 0 0) (.slice none 0 0) [] [] [] :=
 ⟨h.below hb, hbox, Kd.R_nil _ _ _ _ _, Kd.R_nil _ _ _ _ _, Kd.R_nil _ _ _ _ _, by have := blk_lt h.res; omega, by have := h.hK.1; omega⟩
theorem zero_f {p : S67} {r : Bool} (h : zeroP p = r) : impl_Point_zero.f p.f0 p.f1 p.f2 = some r := by
 rw [← h]
 rfl
theorem SI.done {w0 w W : World} {g gR gS : Nat} {b : List Int} {z : Int} {v0 v1 v2 : Value} {T : List S70} {R : List S72} {L : List S67} {x : Except ER SCR} (h : SI w0 w W g gR gS b z v0 v1 v2 T R L) (hx : Except.ok (T, R, L) = x) :
  (((W.setCell ⟨gR, 0, none⟩ v0).setCell ⟨gR, 1, none⟩ v1).setCell ⟨gR, 2, none⟩ v2).heap[gR]? = some (.cells #[v0, v1, v2] 40 (0, 0)) ∧
   SceneR w0 w (((W.setCell ⟨gR, 0, none⟩ v0).setCell ⟨gR, 1, none⟩ v1).setCell ⟨gR, 2, none⟩ v2) g x (.returned (.agg #[v0, v1, v2])) := by
 subst hx
 have e0 := blk_put (cs := #[.slice none 0 0, .slice none 0 0, .slice none 0 0]) (cs' := #[v0, .slice none 0 0, .slice none 0 0]) h.pi.res 0 v0 rfl
 have e1 := blk_put (cs' := #[v0, v1, .slice none 0 0]) e0 1 v1 rfl
 have e2 := blk_put (cs' := #[v0, v1, v2]) e1 2 v2 rfl
 have hle := Nat.le_trans h.pi.hw h.pi.gr
 refine ⟨e2, v0, v1, v2, rfl, Kd.R_set (Kd.R_set (Kd.R_set h.r0 h.pi.res (by decide) 0 _) e0 (by decide) 1 _) e1 (by decide) 2 _, Kd.R_set (Kd.R_set (Kd.R_set h.r1 h.pi.res (by decide) 0 _) e0 (by decide) 1 _) e1 (by decide) 2 _,
  Kd.R_set (Kd.R_set (Kd.R_set h.r2 h.pi.res (by decide) 0 _) e0 (by decide) 1 _) e1 (by decide) 2 _, ((h.pi.hB.setCell hle _).setCell hle _).setCell hle _, keep_far (keep_far (keep_far h.pi.hK h.pi.gr _) h.pi.gr _) h.pi.gr _⟩
theorem er7 {a : Nat} {x : Except ER SCR} (h : Except.error ((7 : Int), ((a + 12 : Nat) : Int)) = x) : Except.error ((7 : Int), (a : Int) + 12) = x := h
theorem scene_calls (g : Nat) (b : List Int) (x : Except ER SCR) (w0 w : World) (hI0 : IsS98 w0 w g b 0) (hB0 : Below w0.heap.size w0 w) (hb0 : OkB b) (hx : sceneE b = x) :
  Calls Tryd.prog 54 #[.pointer (some ⟨g, 0, none⟩)] w fun e w' => SceneR w0 w w' g x e := by
 have hI := AM hI0; have hB := AM hB0; have HOB := AM hb0; have hW := hB0.size; have HX := AM hx
 have hu40 := Tryd.underlying40; have hu70 := Tryd.underlying70; have hu72 := Tryd.underlying72; have hu67 := Tryd.underlying67
 have hLN := hb0.len
 clear hI0 hB0 hb0 hx
 go_enter Tryd.func54, Tryd.ntmps54
 go_wp2_with (first | ((with_reducible refine gate_dst (N := 2) rfl ?_); refine box_event ?hg (N := 2) ?hd (cs := #[.slice none 0 0, .slice none 0 0, .slice none 0 0]) (t := 40) ?hr ?_; (case hd => rfl); (case hg => rfl); (case hr => first | (go_simp; done) | (go_simp; rfl)); intro gR hg w1 hbox hb; have HP := AM (PI.mk (hI.out.below hb) (below_then hB.out hB.out.size hb) (KeepBut.of_below hb g none) hbox (Nat.le_of_eq hg.symm) hW); clear hbox hb hg) | ((with_reducible refine gate_dst (N := 13) rfl ?_); refine dsc_lit ?hg ?hg2 (N := 13) (N2 := 14) ?hd ?hd2 Tryd.underlying26 Tryd.underlying5 ?ho2 (cs := #[.int .u8 83, .int .u8 67, .int .u8 69, .int .u8 78]) (n := 4) ?hr ?hev ?_; (case hd => rfl); (case hd2 => rfl); (case hg => rfl); (case hg2 => rfl); (case ho2 => rfl); (case hr => first | (go_simp; done) | (go_simp; rfl)); (case hev => intro v_; first | rfl | (go_simp; done)); intro gl hgl_ w2 hmk_ hb; have HM := AM hmk_; have HP2 := AM (HP.out.below hb); clear hb hmk_ hgl_))
 refine wp_loop_rounds 5 ?_
 change Code.rounds _ ?cc ?QQ _ _ _
 have key : ∀ (cs : List Int) (j : Nat) (W : World) (u1 u3 u4 u5 u6 u7 u8 u9 u10 u11 u12 u13 u17 u18 u19 u20 u21 u22 u23 u24 u25 u26 u27 u28 u29 u30 u31 u32 u33 u34 u35 u36 u37 u38 u39 u40 u41 u42 u43 u44 u45 u46 u47 u48 u49 u50 u51 u52 u53 u54 u55 u56 u57 u58 u59 u60 u61 u62 u63 u64 u65 u66 u67 u68 u69 u70 u71 u72 u73 u74 u75 u76 u77 u78 u79 u80 u81 u82 u83 u84 u85 u86 u87 u88 u89 u90 u91 u92 u93 u94 u95 u96 u97 u98 u99 u100 u101 u102 u103 u104 u105 u106 u107 u108 u109 u110 u111 u112 u113 u114 u115 u116 u117 u118 u119 u120 u121 u122 u123 : Value), ([83, 67, 69, 78] : List Int).drop j = cs → cs.length + j = 4 → Aside0 (magF b cs j = x) → Aside0 (PI w0 w W g gR b 0) → Aside0 (W.heap[gl]? = some (.cells #[.int .u8 83, .int .u8 67, .int .u8 69, .int .u8 78] 5 (4, 5))) →
   Code.rounds Tryd.prog ?cc ?QQ (cs.length + 1) { tmps := #[.pointer (some ⟨g, 0, none⟩), u1, .pointer (some ⟨gR, 0, none⟩), u3, u4, u5, u6, u7, u8, u9, u10, u11, u12, u13, .slice (some ⟨gl, 0, none⟩) 4 4, .int .i64 4, .int .i64 (j : Int), u17, u18, u19, u20, u21, u22, u23, u24, u25, u26, u27, u28, u29, u30, u31, u32, u33, u34, u35, u36, u37, u38, u39, u40, u41, u42, u43, u44, u45, u46, u47, u48, u49, u50, u51, u52, u53, u54, u55, u56, u57, u58, u59, u60, u61, u62, u63, u64, u65, u66, u67, u68, u69, u70, u71, u72, u73, u74, u75, u76, u77, u78, u79, u80, u81, u82, u83, u84, u85, u86, u87, u88, u89, u90, u91, u92, u93, u94, u95, u96, u97, u98, u99, u100, u101, u102, u103, u104, u105, u106, u107, u108, u109, u110, u111, u112, u113, u114, u115, u116, u117, u118, u119, u120, u121, u122, u123], defers := [] } W := by
  intro cs
  induction cs with
  | nil =>
   intro j W u1 u3 u4 u5 u6 u7 u8 u9 u10 u11 u12 u13 u17 u18 u19 u20 u21 u22 u23 u24 u25 u26 u27 u28 u29 u30 u31 u32 u33 u34 u35 u36 u37 u38 u39 u40 u41 u42 u43 u44 u45 u46 u47 u48 u49 u50 u51 u52 u53 u54 u55 u56 u57 u58 u59 u60 u61 u62 u63 u64 u65 u66 u67 u68 u69 u70 u71 u72 u73 u74 u75 u76 u77 u78 u79 u80 u81 u82 u83 u84 u85 u86 u87 u88 u89 u90 u91 u92 u93 u94 u95 u96 u97 u98 u99 u100 u101 u102 u103 u104 u105 u106 u107 u108 u109 u110 u111 u112 u113 u114 u115 u116 u117 u118 u119 u120 u121 u122 u123 hd hj HX HP HM
   obtain rfl : j = 4 := by simpa using hj
   rw [rounds_succ]
   clear HM hd hj
   have hx := HX.out
   clear HX
   change cntF b = x at hx
   unfold cntF at hx
   have ⟨A, c0, hc0, hc1⟩ := isS_cells HP.out.hI
   have hfr := isS_free HP.out.hI
   cases h1 : countE b 4 2 40 with
   | error e =>
    rw [h1] at hx
    have HX := AM hx; have HC1 := AM h1
    clear hx h1
    go_wp2_with (first | ((with_reducible refine gate_callee (f := 66) rfl ?_); refine goesLX_ rfl Tryd.func66 (by kernel_rfl) rfl #[.pointer (some ⟨g, 0, none⟩), .int .i64 2, .int .i64 40] rfl hM ?_; refine (count_flt g b 4 2 40 e 4 2 40 rfl rfl rfl w0 _ (HP.out.set1 4).hI (HP.out.set1 4).hB HOB.out (by omega) (by omega) (by omega) HC1.out).mono ?_; rintro e w9 hF; obtain ⟨gf, rfl, hF2⟩ := hF; refine ⟨_, rfl, ?_⟩))
    exact ⟨rfl, sceneR_flt' HX.out (HP.out.set1 4).hK hF2⟩
   | ok t =>
    rw [h1] at hx
    have ht := (countE_ok h1).2
    have HC1 := AM h1
    clear h1
    cases h2 : countE b 6 2 40 with
    | error e =>
     rw [h2] at hx
     have HX := AM hx; have HC2 := AM h2
     clear hx h2
     go_wp2_with (first | ((with_reducible refine gate_callee (f := 66) rfl ?_); refine goesL_ (some 48) rfl rfl Tryd.func66 (by kernel_rfl) rfl #[.pointer (some ⟨g, 0, none⟩), .int .i64 2, .int .i64 40] rfl hM ?_; (with_reducible refine (count_calls g b 4 2 40 t 4 2 40 rfl rfl rfl w0 _ (HP.out.set1 4).hI (HP.out.set1 4).hB HOB.out (by omega) (by omega) HC1.out).mono ?_); rintro e w3 ⟨rfl, hi, hb, hk⟩; have HP3 := AM ((HP.out.set1 4).call hi hb hk); clear hi hb hk; refine ⟨_, rfl, ?_⟩) | ((with_reducible refine gate_callee (f := 66) rfl ?_); refine goesLX_ rfl Tryd.func66 (by kernel_rfl) rfl #[.pointer (some ⟨g, 0, none⟩), .int .i64 2, .int .i64 40] rfl hM ?_; refine (count_flt g b 6 2 40 e _ 2 40 rfl rfl rfl w0 _ HP3.out.hI HP3.out.hB HOB.out (by omega) (by omega) (by omega) HC2.out).mono ?_; rintro e w9 hF; obtain ⟨gf, rfl, hF2⟩ := hF; refine ⟨_, rfl, ?_⟩))
     exact ⟨rfl, sceneR_flt' HX.out HP3.out.hK hF2⟩
    | ok r =>
     rw [h2] at hx
     have hr := (countE_ok h2).2
     have HC2 := AM h2
     clear h2
     cases h3 : countE b 8 1 4 with
     | error e =>
      rw [h3] at hx
      have HX := AM hx; have HC3 := AM h3
      clear hx h3
      go_wp2_with (first | ((with_reducible refine gate_callee (f := 66) rfl ?_); refine goesL_ (some 48) rfl rfl Tryd.func66 (by kernel_rfl) rfl #[.pointer (some ⟨g, 0, none⟩), .int .i64 2, .int .i64 40] rfl hM ?_; (with_reducible refine (count_calls g b 4 2 40 t 4 2 40 rfl rfl rfl w0 _ (HP.out.set1 4).hI (HP.out.set1 4).hB HOB.out (by omega) (by omega) HC1.out).mono ?_); rintro e w3 ⟨rfl, hi, hb, hk⟩; have HP3 := AM ((HP.out.set1 4).call hi hb hk); clear hi hb hk; refine ⟨_, rfl, ?_⟩) | ((with_reducible refine gate_callee (f := 66) rfl ?_); refine goesL_ (some 50) rfl rfl Tryd.func66 (by kernel_rfl) rfl #[.pointer (some ⟨g, 0, none⟩), .int .i64 2, .int .i64 40] rfl hM ?_; (with_reducible refine (count_calls g b 6 2 40 r _ 2 40 rfl rfl rfl w0 _ HP3.out.hI HP3.out.hB HOB.out (by omega) (by omega) HC2.out).mono ?_); rintro e w4 ⟨rfl, hi, hb, hk⟩; have HP4 := AM (HP3.out.call hi hb hk); clear hi hb hk; refine ⟨_, rfl, ?_⟩) | ((with_reducible refine gate_callee (f := 66) rfl ?_); refine goesLX_ rfl Tryd.func66 (by kernel_rfl) rfl #[.pointer (some ⟨g, 0, none⟩), .int .i64 1, .int .i64 4] rfl hM ?_; refine (count_flt g b 8 1 4 e _ 1 4 rfl rfl rfl w0 _ HP4.out.hI HP4.out.hB HOB.out (by omega) (by omega) (by omega) HC3.out).mono ?_; rintro e w9 hF; obtain ⟨gf, rfl, hF2⟩ := hF; refine ⟨_, rfl, ?_⟩))
      exact ⟨rfl, sceneR_flt' HX.out HP4.out.hK hF2⟩
     | ok l =>
      rw [h3] at hx
      have hl := (countE_ok h3).2
      have HC3 := AM h3
      have HX := AM hx
      clear h3 hx
      go_wp2_with (first | ((with_reducible refine gate_callee (f := 66) rfl ?_); refine goesL_ (some 48) rfl rfl Tryd.func66 (by kernel_rfl) rfl #[.pointer (some ⟨g, 0, none⟩), .int .i64 2, .int .i64 40] rfl hM ?_; (with_reducible refine (count_calls g b 4 2 40 t 4 2 40 rfl rfl rfl w0 _ (HP.out.set1 4).hI (HP.out.set1 4).hB HOB.out (by omega) (by omega) HC1.out).mono ?_); rintro e w3 ⟨rfl, hi, hb, hk⟩; have HP3 := AM ((HP.out.set1 4).call hi hb hk); clear hi hb hk; refine ⟨_, rfl, ?_⟩) | ((with_reducible refine gate_callee (f := 66) rfl ?_); refine goesL_ (some 50) rfl rfl Tryd.func66 (by kernel_rfl) rfl #[.pointer (some ⟨g, 0, none⟩), .int .i64 2, .int .i64 40] rfl hM ?_; (with_reducible refine (count_calls g b 6 2 40 r _ 2 40 rfl rfl rfl w0 _ HP3.out.hI HP3.out.hB HOB.out (by omega) (by omega) HC2.out).mono ?_); rintro e w4 ⟨rfl, hi, hb, hk⟩; have HP4 := AM (HP3.out.call hi hb hk); clear hi hb hk; refine ⟨_, rfl, ?_⟩) | ((with_reducible refine gate_callee (f := 66) rfl ?_); refine goesL_ (some 52) rfl rfl Tryd.func66 (by kernel_rfl) rfl #[.pointer (some ⟨g, 0, none⟩), .int .i64 1, .int .i64 4] rfl hM ?_; (with_reducible refine (count_calls g b 8 1 4 l _ 1 4 rfl rfl rfl w0 _ HP4.out.hI HP4.out.hB HOB.out (by omega) (by omega) HC3.out).mono ?_); rintro e w5 ⟨rfl, hi, hb, hk⟩; have HP5 := AM (HP4.out.call hi hb hk); clear hi hb hk; refine ⟨_, rfl, ?_⟩) | ((with_reducible refine gate_dst (N := 8) rfl ?_); refine box_event ?hg (N := 8) ?hd (cs := #[.slice none 0 0, .slice none 0 0, .slice none 0 0]) (t := 40) ?hr ?_; (case hd => rfl); (case hg => rfl); (case hr => first | (go_simp; done) | (go_simp; rfl)); intro gS hg w6 hbox hb; have HSI := AM (SI.start HP5.out hb hg hbox); clear hbox hb hg))
      clear HC1 HC2 HC3 HP HP3 HP4 HP5 hc0 hc1 hfr
      refine wp_loop_rounds (t + 1) ?_
      change Code.rounds _ ?cc2 ?QQ2 _ _ _
      have key2 : ∀ (m j a : Nat) (T : List S70) (v0 : Value) (z : Int) (W : World) (u1 u3 u4 u5 u9 u10 u11 u12 u13 u14 u15 u16 u17 u18 u19 u20 u21 u22 u23 u24 u25 u26 u27 u28 u29 u30 u31 u32 u33 u34 u35 u36 u37 u38 u39 u40 u41 u42 u43 u44 u45 u46 u47 u48 u49 u50 u51 u52 u55 u56 u57 u58 u59 u60 u61 u62 u63 u64 u65 u66 u67 u68 u69 u70 u71 u72 u73 u74 u75 u76 u77 u78 u79 u80 u81 u82 u83 u84 u85 u86 u87 u88 u89 u90 u91 u92 u93 u94 u95 u96 u97 u98 u99 u100 u101 u102 u103 u104 u105 u106 u107 u108 u109 u110 u111 u112 u113 u114 u115 u116 u117 u118 u119 u120 u121 u122 u123 : Value), j + m = t → a + 36 * m ≤ 1500 → Aside0 (T.length = j) → Aside0 (trisF b r l m a T = x) → Aside0 (z = (a : Int)) → Aside0 (SI w0 w W g gR gS b z v0 (.slice none 0 0) (.slice none 0 0) T [] []) →
        Code.rounds Tryd.prog ?cc2 ?QQ2 (m + 1) { tmps := #[.pointer (some ⟨g, 0, none⟩), u1, .pointer (some ⟨gR, 0, none⟩), u3, u4, u5, .int .i64 (r : Int), .int .i64 (l : Int), .pointer (some ⟨gS, 0, none⟩), u9, u10, u11, u12, u13, u14, u15, u16, u17, u18, u19, u20, u21, u22, u23, u24, u25, u26, u27, u28, u29, u30, u31, u32, u33, u34, u35, u36, u37, u38, u39, u40, u41, u42, u43, u44, u45, u46, u47, u48, u49, u50, u51, u52, .int .i64 (t : Int), .int .i64 (j : Int), u55, u56, u57, u58, u59, u60, u61, u62, u63, u64, u65, u66, u67, u68, u69, u70, u71, u72, u73, u74, u75, u76, u77, u78, u79, u80, u81, u82, u83, u84, u85, u86, u87, u88, u89, u90, u91, u92, u93, u94, u95, u96, u97, u98, u99, u100, u101, u102, u103, u104, u105, u106, u107, u108, u109, u110, u111, u112, u113, u114, u115, u116, u117, u118, u119, u120, u121, u122, u123], defers := [] } W := by
       intro m
       induction m with
       | zero =>
        intro j a T v0 z W u1 u3 u4 u5 u9 u10 u11 u12 u13 u14 u15 u16 u17 u18 u19 u20 u21 u22 u23 u24 u25 u26 u27 u28 u29 u30 u31 u32 u33 u34 u35 u36 u37 u38 u39 u40 u41 u42 u43 u44 u45 u46 u47 u48 u49 u50 u51 u52 u55 u56 u57 u58 u59 u60 u61 u62 u63 u64 u65 u66 u67 u68 u69 u70 u71 u72 u73 u74 u75 u76 u77 u78 u79 u80 u81 u82 u83 u84 u85 u86 u87 u88 u89 u90 u91 u92 u93 u94 u95 u96 u97 u98 u99 u100 u101 u102 u103 u104 u105 u106 u107 u108 u109 u110 u111 u112 u113 u114 u115 u116 u117 u118 u119 u120 u121 u122 u123 hj ha HT HX HZ HSI
        have hjI : ¬ ((j : Int) < (t : Int)) := by omega
        have hjd : decide (j < t) = false := decide_eq_false (by omega)
        have hx := HX.out
        change raysF b T l r a [] = x at hx
        have HX := AM hx
        clear hx
        rw [rounds_succ]
        go_wp2
        clear hjI hjd
        refine wp_loop_rounds (r + 1) ?_
        change Code.rounds _ ?cc3 ?QQ3 _ _ _
        have key3 : ∀ (m j a : Nat) (R : List S72) (v1 : Value) (z : Int) (W : World) (u1 u3 u4 u5 u6 u9 u10 u11 u12 u13 u14 u15 u16 u17 u18 u19 u20 u21 u22 u23 u24 u25 u26 u27 u28 u29 u30 u31 u32 u33 u34 u35 u36 u37 u38 u39 u40 u41 u42 u43 u44 u45 u46 u47 u48 u49 u50 u51 u52 u53 u54 u55 u56 u57 u58 u59 u60 u61 u62 u63 u64 u65 u66 u67 u68 u69 u70 u73 u74 u75 u76 u77 u78 u79 u80 u81 u82 u83 u84 u85 u86 u87 u88 u89 u90 u91 u92 u93 u94 u95 u96 u97 u98 u99 u100 u101 u102 u103 u104 u105 u106 u107 u108 u109 u110 u111 u112 u113 u114 u115 u116 u117 u118 u119 u120 u121 u122 u123 : Value), j + m = r → a + 24 * m ≤ 3000 → Aside0 (R.length = j) → Aside0 (raysF b T l m a R = x) → Aside0 (z = (a : Int)) → Aside0 (SI w0 w W g gR gS b z v0 v1 (.slice none 0 0) T R []) →
          Code.rounds Tryd.prog ?cc3 ?QQ3 (m + 1) { tmps := #[.pointer (some ⟨g, 0, none⟩), u1, .pointer (some ⟨gR, 0, none⟩), u3, u4, u5, u6, .int .i64 (l : Int), .pointer (some ⟨gS, 0, none⟩), u9, u10, u11, u12, u13, u14, u15, u16, u17, u18, u19, u20, u21, u22, u23, u24, u25, u26, u27, u28, u29, u30, u31, u32, u33, u34, u35, u36, u37, u38, u39, u40, u41, u42, u43, u44, u45, u46, u47, u48, u49, u50, u51, u52, u53, u54, u55, u56, u57, u58, u59, u60, u61, u62, u63, u64, u65, u66, u67, u68, u69, u70, .int .i64 (r : Int), .int .i64 (j : Int), u73, u74, u75, u76, u77, u78, u79, u80, u81, u82, u83, u84, u85, u86, u87, u88, u89, u90, u91, u92, u93, u94, u95, u96, u97, u98, u99, u100, u101, u102, u103, u104, u105, u106, u107, u108, u109, u110, u111, u112, u113, u114, u115, u116, u117, u118, u119, u120, u121, u122, u123], defers := [] } W := by
         intro m
         induction m with
         | zero =>
          intro j a R v1 z W u1 u3 u4 u5 u6 u9 u10 u11 u12 u13 u14 u15 u16 u17 u18 u19 u20 u21 u22 u23 u24 u25 u26 u27 u28 u29 u30 u31 u32 u33 u34 u35 u36 u37 u38 u39 u40 u41 u42 u43 u44 u45 u46 u47 u48 u49 u50 u51 u52 u53 u54 u55 u56 u57 u58 u59 u60 u61 u62 u63 u64 u65 u66 u67 u68 u69 u70 u73 u74 u75 u76 u77 u78 u79 u80 u81 u82 u83 u84 u85 u86 u87 u88 u89 u90 u91 u92 u93 u94 u95 u96 u97 u98 u99 u100 u101 u102 u103 u104 u105 u106 u107 u108 u109 u110 u111 u112 u113 u114 u115 u116 u117 u118 u119 u120 u121 u122 u123 hj ha HT HX HZ HSI
          have hjI : ¬ ((j : Int) < (r : Int)) := by omega
          have hjd : decide (j < r) = false := decide_eq_false (by omega)
          have hx := HX.out
          change lightsF b T R l a [] = x at hx
          have HX := AM hx
          clear hx
          rw [rounds_succ]
          go_wp2
          clear hjI hjd
          refine wp_loop_rounds (l + 1) ?_
          change Code.rounds _ ?cc4 ?QQ4 _ _ _
          have key4 : ∀ (m j a : Nat) (L : List S67) (v2 : Value) (z : Int) (W : World) (u1 u3 u4 u5 u6 u7 u9 u10 u11 u12 u13 u14 u15 u16 u17 u18 u19 u20 u21 u22 u23 u24 u25 u26 u27 u28 u29 u30 u31 u32 u33 u34 u35 u36 u37 u38 u39 u40 u41 u42 u43 u44 u45 u46 u47 u48 u49 u50 u51 u52 u53 u54 u55 u56 u57 u58 u59 u60 u61 u62 u63 u64 u65 u66 u67 u68 u69 u70 u71 u72 u73 u74 u75 u76 u77 u78 u79 u80 u81 u82 u83 u84 u85 u86 u87 u88 u89 u90 u91 u92 u93 u94 u95 u98 u99 u100 u101 u102 u103 u104 u105 u106 u107 u108 u109 u110 u111 u112 u113 u114 u115 u116 u117 u118 u119 u120 u121 u122 u123 : Value), j + m = l → a + 12 * m ≤ 4000 → Aside0 (L.length = j) → Aside0 (lightsF b T R m a L = x) → Aside0 (z = (a : Int)) → Aside0 (SI w0 w W g gR gS b z v0 v1 v2 T R L) →
            Code.rounds Tryd.prog ?cc4 ?QQ4 (m + 1) { tmps := #[.pointer (some ⟨g, 0, none⟩), u1, .pointer (some ⟨gR, 0, none⟩), u3, u4, u5, u6, u7, .pointer (some ⟨gS, 0, none⟩), u9, u10, u11, u12, u13, u14, u15, u16, u17, u18, u19, u20, u21, u22, u23, u24, u25, u26, u27, u28, u29, u30, u31, u32, u33, u34, u35, u36, u37, u38, u39, u40, u41, u42, u43, u44, u45, u46, u47, u48, u49, u50, u51, u52, u53, u54, u55, u56, u57, u58, u59, u60, u61, u62, u63, u64, u65, u66, u67, u68, u69, u70, u71, u72, u73, u74, u75, u76, u77, u78, u79, u80, u81, u82, u83, u84, u85, u86, u87, u88, u89, u90, u91, u92, u93, u94, u95, .int .i64 (l : Int), .int .i64 (j : Int), u98, u99, u100, u101, u102, u103, u104, u105, u106, u107, u108, u109, u110, u111, u112, u113, u114, u115, u116, u117, u118, u119, u120, u121, u122, u123], defers := [] } W := by
           intro m
           induction m with
           | zero =>
            intro j a L v2 z W u1 u3 u4 u5 u6 u7 u9 u10 u11 u12 u13 u14 u15 u16 u17 u18 u19 u20 u21 u22 u23 u24 u25 u26 u27 u28 u29 u30 u31 u32 u33 u34 u35 u36 u37 u38 u39 u40 u41 u42 u43 u44 u45 u46 u47 u48 u49 u50 u51 u52 u53 u54 u55 u56 u57 u58 u59 u60 u61 u62 u63 u64 u65 u66 u67 u68 u69 u70 u71 u72 u73 u74 u75 u76 u77 u78 u79 u80 u81 u82 u83 u84 u85 u86 u87 u88 u89 u90 u91 u92 u93 u94 u95 u98 u99 u100 u101 u102 u103 u104 u105 u106 u107 u108 u109 u110 u111 u112 u113 u114 u115 u116 u117 u118 u119 u120 u121 u122 u123 hj ha HT HX HZ HSI
            have hjI : ¬ ((j : Int) < (l : Int)) := by omega
            have hjd : decide (j < l) = false := decide_eq_false (by omega)
            have hx := HX.out
            change finF b a T R L = x at hx
            unfold finF at hx
            have hz := HZ.out
            clear HX HZ
            subst hz
            have ⟨Ab, cb, hbb_0, hbb_1⟩ := isS_cells HSI.out.pi.hI
            rw [rounds_succ]
            by_cases h1 : a < b.length
            ·rw [if_pos h1] at hx
             have HX := AM hx
             have h1I : (a : Int) < (b.length : Int) := by omega
             have h1d : decide ((a : Int) < (b.length : Int)) = true := decide_eq_true h1I
             have h1e : decide (a < b.length) = true := decide_eq_true h1
             clear hx h1
             go_wp2
             go_quiet (fail)
             generalize hq_ : World.drewN W _ = w1
             have HSJ := AM (show SI w0 w w1 g gR gS b (a : Int) v0 v1 v2 T R L from by rw [← hq_]; exact HSI.out.below (pw_below_drewN (Below.refl _ _) _))
             clear hq_ HSI hbb_0 hbb_1
             have ⟨Ac, cc, hcc_0, hcc_1⟩ := isS_cells HSJ.out.pi.hI
             go_wp2_with (first | ((with_reducible refine gate_callee (f := 65) rfl ?_); refine goesLX_ rfl Tryd.func65 (by kernel_rfl) rfl #[.pointer (some ⟨g, 0, none⟩), .int .i64 8, .int .i64 (a : Int)] rfl hM ?_; refine (stop_flt g 8 (a : Int) w0 _ HSJ.out.pi.hB).mono ?_; rintro e w9 hF; obtain ⟨gf, rfl, hF2⟩ := hF; refine ⟨_, rfl, ?_⟩))
             exact ⟨rfl, sceneR_flt HX.out HSJ.out.pi.hK hF2⟩
            ·rw [if_neg h1] at hx
             have HX := AM hx
             have h1I : ¬ ((a : Int) < (b.length : Int)) := by omega
             have h1d : decide ((a : Int) < (b.length : Int)) = false := decide_eq_false h1I
             have h1e : decide (a < b.length) = false := decide_eq_false h1
             clear hx h1
             go_wp2
             go_quiet (fail)
             generalize hq_ : World.drewN W _ = w1
             have HSJ := AM (show SI w0 w w1 g gR gS b (a : Int) v0 v1 v2 T R L from by rw [← hq_]; exact HSI.out.below (pw_below_drewN (Below.refl _ _) _))
             clear hq_ HSI hbb_0 hbb_1
             obtain ⟨A0, c0, e0⟩ := Kd.R_slice HSJ.out.r0
             obtain ⟨A1, c1, e1⟩ := Kd.R_slice HSJ.out.r1
             obtain ⟨A2, c2, e2⟩ := Kd.R_slice HSJ.out.r2
             subst e0
             subst e1
             subst e2
             have hs_0 : w1.cell? ⟨gS, 0, none⟩ = some (.slice A0 T.length c0) := (blk_cell HSJ.out.box 0).trans rfl
             have hs_1 : w1.cell? ⟨gS, 1, none⟩ = some (.slice A1 R.length c1) := (blk_cell HSJ.out.box 1).trans rfl
             have hs_2 : w1.cell? ⟨gS, 2, none⟩ = some (.slice A2 L.length c2) := (blk_cell HSJ.out.box 2).trans rfl
             have hr_0 : w1.cell? ⟨gR, 0, none⟩ = some (.slice none 0 0) := (blk_cell HSJ.out.pi.res 0).trans rfl
             have hr_1 : w1.cell? ⟨gR, 1, none⟩ = some (.slice none 0 0) := (blk_cell HSJ.out.pi.res 1).trans rfl
             have hr_2 : w1.cell? ⟨gR, 2, none⟩ = some (.slice none 0 0) := (blk_cell HSJ.out.pi.res 2).trans rfl
             have hf_0 := blk_frozen HSJ.out.pi.res 0; have hf_1 := blk_frozen HSJ.out.pi.res 1; have hf_2 := blk_frozen HSJ.out.pi.res 2
             obtain ⟨hres, hfin⟩ := SI.done HSJ.out HX.out
             have HRES := AM hres; have HFIN := AM hfin
             clear hres hfin
             go_wp2
             refine bodyPost_ret (results_cell_row rfl _ _ gR 40 #[.slice A0 T.length c0, .slice A1 R.length c1, .slice A2 L.length c2] (0, 0) _ rfl HRES.out Tryd.underlying40 rfl (by kernel_rfl)) rfl ?_
             exact HFIN.out
           | succ m ih4 =>
            intro j a L v2 z W u1 u3 u4 u5 u6 u7 u9 u10 u11 u12 u13 u14 u15 u16 u17 u18 u19 u20 u21 u22 u23 u24 u25 u26 u27 u28 u29 u30 u31 u32 u33 u34 u35 u36 u37 u38 u39 u40 u41 u42 u43 u44 u45 u46 u47 u48 u49 u50 u51 u52 u53 u54 u55 u56 u57 u58 u59 u60 u61 u62 u63 u64 u65 u66 u67 u68 u69 u70 u71 u72 u73 u74 u75 u76 u77 u78 u79 u80 u81 u82 u83 u84 u85 u86 u87 u88 u89 u90 u91 u92 u93 u94 u95 u98 u99 u100 u101 u102 u103 u104 u105 u106 u107 u108 u109 u110 u111 u112 u113 u114 u115 u116 u117 u118 u119 u120 u121 u122 u123 hj ha HT HX HZ HSI
            have hjI : (j : Int) < (l : Int) := by omega
            have hjd : decide (j < l) = true := decide_eq_true (by omega)
            have hx := HX.out
            clear HX
            unfold lightsF at hx
            rw [rounds_succ]
            cases h1 : pointE b a with
            | error e =>
             rw [h1] at hx
             have HX := AM hx; have HQ1 := AM h1
             clear hx h1
             go_wp2
             have HD := AM (SI.drew HSI.out)
             clear HSI
             refine start_ (n := 8) (S := fun w' => w'.cell? ⟨gS, 2, none⟩ = some v2) (ds := [7]) #[false, false, false, false, false, false, false, false] (by kernel_rfl) rfl rfl ((blk_cell HD.out.box 2).trans rfl) (fun hHeld => ?_)
             generalize W.drew = w13 at HD hHeld ⊢
             refine pure_ (i := 0) (N := some 99) (v := ?_) (a' := ?_) #[true, false, false, false, false, false, false, false] rfl rfl (by kernel_rfl) (fun _ _ _ h => h) (Or.inl ⟨by rfl, ?_⟩) ?_ ?_
             rotate_left
             ·intro w'
              go_simp
              with_reducible rfl
             rotate_left
             ·simp only [Act.put, sa, sb, sc, i64_w, i32_w]
              rfl
             refine pure_ (i := 2) (N := some 101) (v := ?_) (a' := ?_) #[true, false, true, false, false, false, false, false] rfl rfl (by kernel_rfl) (fun _ _ _ h => h) (Or.inl ⟨by rfl, ?_⟩) ?_ ?_
             rotate_left
             ·intro w'
              go_simp
              with_reducible rfl
             rotate_left
             ·simp only [Act.put, sa, sb, sc, i64_w, i32_w]
              rfl
             refine take_ (i := 1) (N := some 100) (v := ?_) (a' := ?_) #[true, true, true, false, false, false, false, false] rfl rfl (by kernel_rfl) (fun _ _ _ h => h) (Or.inl ⟨by rfl, ?_⟩) hHeld ?_ ?_
             rotate_left
             ·rintro w' s0
              go_simp
              with_reducible rfl
             rotate_left
             ·simp only [Act.put, sa, sb, sc, i64_w, i32_w]
              rfl
             refine one_ (i := 3) (N := some 102) #[true, true, true, true, false, false, false, false] rfl rfl (by kernel_rfl) (by decide) (fun K hK => ?_)
             refine goesX_ Tryd.func67 (by kernel_rfl) rfl #[.pointer (some ⟨g, 0, none⟩)] (by rfl) rfl hM ?_
             refine (point_flt g b a e _ HZ.out w0 _ HD.out.pi.hI HD.out.pi.hB HOB.out (by omega) HQ1.out).mono ?_
             rintro e9 w14 hF
             obtain ⟨gf, rfl, hF2⟩ := hF
             refine ⟨_, rfl, ?_⟩
             exact ⟨rfl, sceneR_flt' HX.out HD.out.pi.hK hF2⟩
            | ok p =>
             rw [h1] at hx
             have HX := AM hx; have HQ1 := AM h1
             clear hx h1
             go_wp2
             have HD := AM (SI.drew HSI.out)
             clear HSI
             refine start_ (n := 8) (S := fun w' => w'.cell? ⟨gS, 2, none⟩ = some v2) (ds := [7]) #[false, false, false, false, false, false, false, false] (by kernel_rfl) rfl rfl ((blk_cell HD.out.box 2).trans rfl) (fun hHeld => ?_)
             generalize W.drew = w13 at HD hHeld ⊢
             refine pure_ (i := 0) (N := some 99) (v := ?_) (a' := ?_) #[true, false, false, false, false, false, false, false] rfl rfl (by kernel_rfl) (fun _ _ _ h => h) (Or.inl ⟨by rfl, ?_⟩) ?_ ?_
             rotate_left
             ·intro w'
              go_simp
              with_reducible rfl
             rotate_left
             ·simp only [Act.put, sa, sb, sc, i64_w, i32_w]
              rfl
             refine pure_ (i := 2) (N := some 101) (v := ?_) (a' := ?_) #[true, false, true, false, false, false, false, false] rfl rfl (by kernel_rfl) (fun _ _ _ h => h) (Or.inl ⟨by rfl, ?_⟩) ?_ ?_
             rotate_left
             ·intro w'
              go_simp
              with_reducible rfl
             rotate_left
             ·simp only [Act.put, sa, sb, sc, i64_w, i32_w]
              rfl
             refine take_ (i := 1) (N := some 100) (v := ?_) (a' := ?_) #[true, true, true, false, false, false, false, false] rfl rfl (by kernel_rfl) (fun _ _ _ h => h) (Or.inl ⟨by rfl, ?_⟩) hHeld ?_ ?_
             rotate_left
             ·rintro w' s0
              go_simp
              with_reducible rfl
             rotate_left
             ·simp only [Act.put, sa, sb, sc, i64_w, i32_w]
              rfl
             refine one_ (i := 3) (N := some 102) #[true, true, true, true, false, false, false, false] rfl rfl (by kernel_rfl) (by decide) (fun K hK => ?_)
             refine goes_ Tryd.func67 (by kernel_rfl) rfl #[.pointer (some ⟨g, 0, none⟩)] (by rfl) rfl rfl hM ?_
             with_reducible refine (point_calls g b a p _ HZ.out w0 _ HD.out.pi.hI HD.out.pi.hB HOB.out HQ1.out).mono ?_
             rintro e9 w14 ⟨rfl, hi, hb, hk⟩
             refine ⟨_, rfl, ?_⟩
             have HE := AM (HD.out.call hi hb hk)
             clear hi hb hk HD
             refine hK.out _ _ ((blk_cell HE.out.box 2).trans rfl) (fun hHeld => ?_)
             clear hK K
             refine norm_ (a' := ?_) ?_ ?_
             rotate_left
             ·show Act.put _ (some 102) _ = _
              simp only [Act.put, sa, sb, sc, i64_w, i32_w]
              rfl
             refine one_ (i := 4) (N := some 103) #[true, true, true, true, true, false, false, false] rfl rfl (by kernel_rfl) (by decide) (fun K hK => ?_)
             refine value_ (w1 := ?_) (v := ?_) (by rfl) rfl ?_ ?_
             rotate_left 2
             ·go_simp
              constructor
              ·rfl
              rfl
             refine hK.out _ _ ((blk_cell (blk_alloc HE.out.box _) 2).trans rfl) (fun hHeld => ?_)
             clear hK K
             refine norm_ (a' := ?_) ?_ ?_
             rotate_left
             ·show Act.put _ (some 103) _ = _
              simp only [Act.put, sa, sb, sc, i64_w, i32_w]
              rfl
             refine one_ (i := 5) (N := some 104) #[true, true, true, true, true, true, false, false] rfl rfl (by kernel_rfl) (by decide) (fun K hK => ?_)
             refine Kd.R_append_step k67 (w0 := w0) w0.heap.size (by rfl) (.tmp 100) (.tmp 103) 38 67 (.agg #[.int .u32 0, .int .u32 0, .int .u32 0]) 12 rfl Tryd.underlying38 info67 rfl (by decide) (by omega) v2 L p [.int .u32 p.f0, .int .u32 p.f1, .int .u32 p.f2] (fun k => w.heap.size ≤ k) (fun _ => False) rfl rfl ?aP (fun _ hk => hk.elim) ?aF ?aO ?aB ?aS ?aL ?_
             (case aP => exact k67_mkM _ _ _ _)
             (case aF => exact (fun k hk => Nat.le_trans HE.out.wsize hk))
             (case aO => exact HE.out.r2)
             (case aB => exact HE.out.pi.hB)
             (case aS => exact HE.out.size)
             (case aL => have := HT.out; omega)
             intro v18 w18 ho hb hg hat
             obtain ⟨Ao, co, eo⟩ := Kd.R_slice ho
             subst eo
             obtain ⟨n18, hn18⟩ : ∃ n, n = (L ++ [p]).length := ⟨_, rfl⟩
             rw [← hn18] at ho ⊢
             replace hn18 := AM hn18
             obtain ⟨hbx, HN⟩ := SI.push2 HE.out ho hb hg
             clear ho hb hg hat HE
             refine hK.out _ _ ((blk_cell hbx 2).trans rfl) (fun hHeld => ?_)
             clear hK K
             refine norm_ (a' := ?_) ?_ ?_
             rotate_left
             ·show Act.put _ (some 104) _ = _
              simp only [Act.put, sa, sb, sc, i64_w, i32_w]
              rfl
             refine pure_ (i := 6) (N := some 105) (v := ?_) (a' := ?_) #[true, true, true, true, true, true, true, false] rfl rfl (by kernel_rfl) (fun _ _ _ h => h) (Or.inl ⟨by rfl, ?_⟩) ?_ ?_
             rotate_left
             ·intro w'
              go_simp
              with_reducible rfl
             rotate_left
             ·simp only [Act.put, sa, sb, sc, i64_w, i32_w]
              rfl
             refine last_ (i := 7) (N := none) #[true, true, true, true, true, true, true, true] rfl rfl (by kernel_rfl) (by decide) (fun K hK => ?_)
             have hs18 := (blk_cell hbx 2).trans rfl
             have hfs18 := blk_frozen hbx 2
             refine skip_ (w1 := ?_) (by rfl) rfl ?_ ?_
             rotate_left
             ·go_simp
              rfl
             refine hK.out _ _ ?_
             clear hK K
             refine done_ (by kernel_rfl) ?_
             clear hHeld hbx hs18 hfs18
             go_wp2
             exact ih4 (j + 1) (a + 12) (L ++ [p]) _ _ _ _ _ _ _ _ _ _ _ _ _ _ _ _ _ _ _ _ _ _ _ _ _ _ _ _ _ _ _ _ _ _ _ _ _ _ _ _ _ _ _ _ _ _ _ _ _ _ _ _ _ _ _ _ _ _ _ _ _ _ _ _ _ _ _ _ _ _ _ _ _ _ _ _ _ _ _ _ _ _ _ _ _ _ _ _ _ _ _ _ _ _ _ _ _ _ _ _ _ _ _ _ _ _ _ _ _ _ _ _ _ _ _ _ _ _ _ _ _ _ (by omega) (by omega) (AM (by rw [List.length_append, HT.out]; rfl)) HX (AM (by omega)) (AM HN)
          exact key4 l 0 a [] (.slice none 0 0) _ W _ _ _ _ _ _ _ _ _ _ _ _ _ _ _ _ _ _ _ _ _ _ _ _ _ _ _ _ _ _ _ _ _ _ _ _ _ _ _ _ _ _ _ _ _ _ _ _ _ _ _ _ _ _ _ _ _ _ _ _ _ _ _ _ _ _ _ _ _ _ _ _ _ _ _ _ _ _ _ _ _ _ _ _ _ _ _ _ _ _ _ _ _ _ _ _ _ _ _ _ _ _ _ _ _ _ _ _ _ _ _ _ _ _ _ _ _ _ _ (by omega) (by omega) (AM rfl) HX HZ HSI
         | succ m ih3 =>
          intro j a R v1 z W u1 u3 u4 u5 u6 u9 u10 u11 u12 u13 u14 u15 u16 u17 u18 u19 u20 u21 u22 u23 u24 u25 u26 u27 u28 u29 u30 u31 u32 u33 u34 u35 u36 u37 u38 u39 u40 u41 u42 u43 u44 u45 u46 u47 u48 u49 u50 u51 u52 u53 u54 u55 u56 u57 u58 u59 u60 u61 u62 u63 u64 u65 u66 u67 u68 u69 u70 u73 u74 u75 u76 u77 u78 u79 u80 u81 u82 u83 u84 u85 u86 u87 u88 u89 u90 u91 u92 u93 u94 u95 u96 u97 u98 u99 u100 u101 u102 u103 u104 u105 u106 u107 u108 u109 u110 u111 u112 u113 u114 u115 u116 u117 u118 u119 u120 u121 u122 u123 hj ha HT HX HZ HSI
          have hjI : (j : Int) < (r : Int) := by omega
          have hjd : decide (j < r) = true := decide_eq_true (by omega)
          have hx := HX.out
          clear HX
          unfold raysF at hx
          rw [rounds_succ]
          cases h1 : pointE b a with
          | error e =>
           rw [h1] at hx
           have HX := AM hx; have HQ1 := AM h1
           clear hx h1
           go_wp2_with (first | ((with_reducible refine gate_callee (f := 67) rfl ?_); refine goesLX_ rfl Tryd.func67 (by kernel_rfl) rfl #[.pointer (some ⟨g, 0, none⟩)] rfl hM ?_; refine (point_flt g b a e _ HZ.out w0 _ HSI.out.pi.hI HSI.out.pi.hB HOB.out (by omega) HQ1.out).mono ?_; rintro e w9 hF; obtain ⟨gf, rfl, hF2⟩ := hF; refine ⟨_, rfl, ?_⟩))
           exact ⟨rfl, sceneR_flt' HX.out HSI.out.pi.hK hF2⟩
          | ok o =>
           rw [h1] at hx
           have HQ1 := AM h1
           clear h1
           cases h2 : pointE b (a + 12) with
           | error e =>
            rw [h2] at hx
            have HX := AM hx; have HQ2 := AM h2
            clear hx h2
            go_wp2_with (first | ((with_reducible refine gate_callee (f := 67) rfl ?_); refine goesL_ (some 75) rfl rfl Tryd.func67 (by kernel_rfl) rfl #[.pointer (some ⟨g, 0, none⟩)] rfl hM ?_; (with_reducible refine (point_calls g b a o _ HZ.out w0 _ HSI.out.pi.hI HSI.out.pi.hB HOB.out HQ1.out).mono ?_); rintro e w7 ⟨rfl, hi, hb, hk⟩; have HS7 := AM (HSI.out.call hi hb hk); clear hi hb hk; refine ⟨_, rfl, ?_⟩) | ((with_reducible refine gate_dst (N := 11) rfl ?_); refine box_event ?hg (N := 11) ?hd (cs := #[.int .u32 0, .int .u32 0, .int .u32 0]) (t := 67) ?hr ?_; (case hd => rfl); (case hg => rfl); (case hr => first | (go_simp; done) | (go_simp; rfl)); intro ga hg w8 hbox hb; have HA_ga := AM hbox; have HG_ga := AM hg; have HN_ga := AM hb; clear hb hbox hg; have hcga_0 : w8.cell? ⟨ga, 0, none⟩ = some (.int .u32 0) := (blk_cell HA_ga.out 0).trans rfl; have hfga_0 := blk_frozen HA_ga.out 0; have hcga_1 : w8.cell? ⟨ga, 1, none⟩ = some (.int .u32 0) := (blk_cell HA_ga.out 1).trans rfl; have hfga_1 := blk_frozen HA_ga.out 1; have hcga_2 : w8.cell? ⟨ga, 2, none⟩ = some (.int .u32 0) := (blk_cell HA_ga.out 2).trans rfl; have hfga_2 := blk_frozen HA_ga.out 2) | ((with_reducible refine gate_store (t := 67) (p := 11) rfl ?_); refine store_event (t := 67) (p := 11) (v := ?vo_ga11) (w1 := (((w8.setCell ⟨ga, 0, none⟩ (.int .u32 o.f0)).setCell ⟨ga, 1, none⟩ (.int .u32 o.f1)).setCell ⟨ga, 2, none⟩ (.int .u32 o.f2))) ?hg ?ho ?hn ?hr ?_; (case ho => rfl); (case hg => rfl); (case hn => rfl); (case hr => first | (go_simp; done) | (go_simp; rfl)); intro w9 hw; have hb := AM (HN_ga.out.setCell (p := ⟨ga, 0, none⟩) (Nat.le_of_eq HG_ga.out.symm) (.int .u32 o.f0)); replace hb := AM (hb.out.setCell (p := ⟨ga, 1, none⟩) (Nat.le_of_eq HG_ga.out.symm) (.int .u32 o.f1)); replace hb := AM (hb.out.setCell (p := ⟨ga, 2, none⟩) (Nat.le_of_eq HG_ga.out.symm) (.int .u32 o.f2)); have hp := AM (blk_put (cs' := #[.int .u32 o.f0, .int .u32 o.f1, .int .u32 o.f2]) (blk_put (cs' := #[.int .u32 o.f0, .int .u32 o.f1, .int .u32 0]) (blk_put (cs' := #[.int .u32 o.f0, .int .u32 0, .int .u32 0]) HA_ga.out 0 (.int .u32 o.f0) rfl) 1 (.int .u32 o.f1) rfl) 2 (.int .u32 o.f2) rfl); rw [← hw] at hb hp; clear hw; have HP_ga := hp; clear hp HA_ga; have HS9 := AM (HS7.out.below hb.out); clear hb HN_ga HG_ga hcga_0 hfga_0 hcga_1 hfga_1 hcga_2 hfga_2; have hdga_0 : w9.cell? ⟨ga, 0, none⟩ = some (.int .u32 o.f0) := (blk_cell HP_ga.out 0).trans rfl; have hega_0 := blk_frozen HP_ga.out 0; have hdga_1 : w9.cell? ⟨ga, 1, none⟩ = some (.int .u32 o.f1) := (blk_cell HP_ga.out 1).trans rfl; have hega_1 := blk_frozen HP_ga.out 1; have hdga_2 : w9.cell? ⟨ga, 2, none⟩ = some (.int .u32 o.f2) := (blk_cell HP_ga.out 2).trans rfl; have hega_2 := blk_frozen HP_ga.out 2) | ((with_reducible refine gate_callee (f := 67) rfl ?_); refine goesLX_ rfl Tryd.func67 (by kernel_rfl) rfl #[.pointer (some ⟨g, 0, none⟩)] rfl hM ?_; refine (point_flt g b (a + 12) e _ (by have := HZ.out; omega) w0 _ HS9.out.pi.hI HS9.out.pi.hB HOB.out (by omega) HQ2.out).mono ?_; rintro e w9 hF; obtain ⟨gf, rfl, hF2⟩ := hF; refine ⟨_, rfl, ?_⟩))
            exact ⟨rfl, sceneR_flt' HX.out HS9.out.pi.hK hF2⟩
           | ok d =>
            rw [h2] at hx
            have HQ2 := AM h2
            clear h2
            by_cases hz : zeroP d = true
            ·simp only [if_pos hz] at hx
             have HX := AM hx; have HZF := AM (zero_f hz)
             clear hx hz
             go_wp2_with (first | ((with_reducible refine gate_callee (f := 67) rfl ?_); refine goesL_ (some 75) rfl rfl Tryd.func67 (by kernel_rfl) rfl #[.pointer (some ⟨g, 0, none⟩)] rfl hM ?_; (with_reducible refine (point_calls g b a o _ HZ.out w0 _ HSI.out.pi.hI HSI.out.pi.hB HOB.out HQ1.out).mono ?_); rintro e w7 ⟨rfl, hi, hb, hk⟩; have HS7 := AM (HSI.out.call hi hb hk); clear hi hb hk; refine ⟨_, rfl, ?_⟩) | ((with_reducible refine gate_dst (N := 11) rfl ?_); refine box_event ?hg (N := 11) ?hd (cs := #[.int .u32 0, .int .u32 0, .int .u32 0]) (t := 67) ?hr ?_; (case hd => rfl); (case hg => rfl); (case hr => first | (go_simp; done) | (go_simp; rfl)); intro ga hg w8 hbox hb; have HA_ga := AM hbox; have HG_ga := AM hg; have HN_ga := AM hb; clear hb hbox hg; have hcga_0 : w8.cell? ⟨ga, 0, none⟩ = some (.int .u32 0) := (blk_cell HA_ga.out 0).trans rfl; have hfga_0 := blk_frozen HA_ga.out 0; have hcga_1 : w8.cell? ⟨ga, 1, none⟩ = some (.int .u32 0) := (blk_cell HA_ga.out 1).trans rfl; have hfga_1 := blk_frozen HA_ga.out 1; have hcga_2 : w8.cell? ⟨ga, 2, none⟩ = some (.int .u32 0) := (blk_cell HA_ga.out 2).trans rfl; have hfga_2 := blk_frozen HA_ga.out 2) | ((with_reducible refine gate_store (t := 67) (p := 11) rfl ?_); refine store_event (t := 67) (p := 11) (v := ?vo_ga11) (w1 := (((w8.setCell ⟨ga, 0, none⟩ (.int .u32 o.f0)).setCell ⟨ga, 1, none⟩ (.int .u32 o.f1)).setCell ⟨ga, 2, none⟩ (.int .u32 o.f2))) ?hg ?ho ?hn ?hr ?_; (case ho => rfl); (case hg => rfl); (case hn => rfl); (case hr => first | (go_simp; done) | (go_simp; rfl)); intro w9 hw; have hb := AM (HN_ga.out.setCell (p := ⟨ga, 0, none⟩) (Nat.le_of_eq HG_ga.out.symm) (.int .u32 o.f0)); replace hb := AM (hb.out.setCell (p := ⟨ga, 1, none⟩) (Nat.le_of_eq HG_ga.out.symm) (.int .u32 o.f1)); replace hb := AM (hb.out.setCell (p := ⟨ga, 2, none⟩) (Nat.le_of_eq HG_ga.out.symm) (.int .u32 o.f2)); have hp := AM (blk_put (cs' := #[.int .u32 o.f0, .int .u32 o.f1, .int .u32 o.f2]) (blk_put (cs' := #[.int .u32 o.f0, .int .u32 o.f1, .int .u32 0]) (blk_put (cs' := #[.int .u32 o.f0, .int .u32 0, .int .u32 0]) HA_ga.out 0 (.int .u32 o.f0) rfl) 1 (.int .u32 o.f1) rfl) 2 (.int .u32 o.f2) rfl); rw [← hw] at hb hp; clear hw; have HP_ga := hp; clear hp HA_ga; have HS9 := AM (HS7.out.below hb.out); clear hb HN_ga HG_ga hcga_0 hfga_0 hcga_1 hfga_1 hcga_2 hfga_2; have hdga_0 : w9.cell? ⟨ga, 0, none⟩ = some (.int .u32 o.f0) := (blk_cell HP_ga.out 0).trans rfl; have hega_0 := blk_frozen HP_ga.out 0; have hdga_1 : w9.cell? ⟨ga, 1, none⟩ = some (.int .u32 o.f1) := (blk_cell HP_ga.out 1).trans rfl; have hega_1 := blk_frozen HP_ga.out 1; have hdga_2 : w9.cell? ⟨ga, 2, none⟩ = some (.int .u32 o.f2) := (blk_cell HP_ga.out 2).trans rfl; have hega_2 := blk_frozen HP_ga.out 2) | ((with_reducible refine gate_callee (f := 67) rfl ?_); refine goesL_ (some 77) rfl rfl Tryd.func67 (by kernel_rfl) rfl #[.pointer (some ⟨g, 0, none⟩)] rfl hM ?_; (with_reducible refine (point_calls g b (a + 12) d _ (by have := HZ.out; omega) w0 _ HS9.out.pi.hI HS9.out.pi.hB HOB.out HQ2.out).mono ?_); rintro e w10 ⟨rfl, hi, hb, hk⟩; have HS10 := AM (HS9.out.call hi hb hk); have HP_ga := AM (hk.blk HP_ga.out (HS9.out.pi.hI.ne_blk HP_ga.out (by decide)).symm (by simp)); clear hi hb hk hdga_0 hega_0 hdga_1 hega_1 hdga_2 hega_2; refine ⟨_, rfl, ?_⟩) | ((with_reducible refine gate_dst (N := 12) rfl ?_); refine box_event ?hg (N := 12) ?hd (cs := #[.int .u32 0, .int .u32 0, .int .u32 0]) (t := 67) ?hr ?_; (case hd => rfl); (case hg => rfl); (case hr => first | (go_simp; done) | (go_simp; rfl)); intro gq hg w11 hbox hb; have HA_gq := AM hbox; have HG_gq := AM hg; have HN_gq := AM hb; clear hb hbox hg; have hcgq_0 : w11.cell? ⟨gq, 0, none⟩ = some (.int .u32 0) := (blk_cell HA_gq.out 0).trans rfl; have hfgq_0 := blk_frozen HA_gq.out 0; have hcgq_1 : w11.cell? ⟨gq, 1, none⟩ = some (.int .u32 0) := (blk_cell HA_gq.out 1).trans rfl; have hfgq_1 := blk_frozen HA_gq.out 1; have hcgq_2 : w11.cell? ⟨gq, 2, none⟩ = some (.int .u32 0) := (blk_cell HA_gq.out 2).trans rfl; have hfgq_2 := blk_frozen HA_gq.out 2) | ((with_reducible refine gate_store (t := 67) (p := 12) rfl ?_); refine store_event (t := 67) (p := 12) (v := ?vo_gq12) (w1 := (((w11.setCell ⟨gq, 0, none⟩ (.int .u32 d.f0)).setCell ⟨gq, 1, none⟩ (.int .u32 d.f1)).setCell ⟨gq, 2, none⟩ (.int .u32 d.f2))) ?hg ?ho ?hn ?hr ?_; (case ho => rfl); (case hg => rfl); (case hn => rfl); (case hr => first | (go_simp; done) | (go_simp; rfl)); intro w12 hw; have hb := AM (HN_gq.out.setCell (p := ⟨gq, 0, none⟩) (Nat.le_of_eq HG_gq.out.symm) (.int .u32 d.f0)); replace hb := AM (hb.out.setCell (p := ⟨gq, 1, none⟩) (Nat.le_of_eq HG_gq.out.symm) (.int .u32 d.f1)); replace hb := AM (hb.out.setCell (p := ⟨gq, 2, none⟩) (Nat.le_of_eq HG_gq.out.symm) (.int .u32 d.f2)); have hp := AM (blk_put (cs' := #[.int .u32 d.f0, .int .u32 d.f1, .int .u32 d.f2]) (blk_put (cs' := #[.int .u32 d.f0, .int .u32 d.f1, .int .u32 0]) (blk_put (cs' := #[.int .u32 d.f0, .int .u32 0, .int .u32 0]) HA_gq.out 0 (.int .u32 d.f0) rfl) 1 (.int .u32 d.f1) rfl) 2 (.int .u32 d.f2) rfl); rw [← hw] at hb hp; clear hw; have HP_gq := hp; clear hp HA_gq; have HS12 := AM (HS10.out.below hb.out); have HP_ga := AM (blk_below HP_ga.out hb.out); clear hb HN_gq HG_gq hcgq_0 hfgq_0 hcgq_1 hfgq_1 hcgq_2 hfgq_2; have hdgq_0 : w12.cell? ⟨gq, 0, none⟩ = some (.int .u32 d.f0) := (blk_cell HP_gq.out 0).trans rfl; have hegq_0 := blk_frozen HP_gq.out 0; have hdgq_1 : w12.cell? ⟨gq, 1, none⟩ = some (.int .u32 d.f1) := (blk_cell HP_gq.out 1).trans rfl; have hegq_1 := blk_frozen HP_gq.out 1; have hdgq_2 : w12.cell? ⟨gq, 2, none⟩ = some (.int .u32 d.f2) := (blk_cell HP_gq.out 2).trans rfl; have hegq_2 := blk_frozen HP_gq.out 2) | ((with_reducible refine gate_callee (f := 68) rfl ?_); refine goesL_ (some 79) rfl rfl Tryd.func68 (by kernel_rfl) rfl #[.agg #[.int .u32 d.f0, .int .u32 d.f1, .int .u32 d.f2]] rfl hM ?_; (with_reducible refine (impl_Point_zero.calls d.f0 d.f1 d.f2 true _ HZF.out).mono ?_); rintro e w13 ⟨rfl, hb⟩; have HS13 := AM (HS12.out.below hb); have HP_ga := AM (blk_below HP_ga.out hb); have HP_gq := AM (blk_below HP_gq.out hb); clear hb hdgq_0 hegq_0 hdgq_1 hegq_1 hdgq_2 hegq_2; have hgga_0 : w13.cell? ⟨ga, 0, none⟩ = some (.int .u32 o.f0) := (blk_cell HP_ga.out 0).trans rfl; have hgga_1 : w13.cell? ⟨ga, 1, none⟩ = some (.int .u32 o.f1) := (blk_cell HP_ga.out 1).trans rfl; have hgga_2 : w13.cell? ⟨ga, 2, none⟩ = some (.int .u32 o.f2) := (blk_cell HP_ga.out 2).trans rfl; have hggq_0 : w13.cell? ⟨gq, 0, none⟩ = some (.int .u32 d.f0) := (blk_cell HP_gq.out 0).trans rfl; have hggq_1 : w13.cell? ⟨gq, 1, none⟩ = some (.int .u32 d.f1) := (blk_cell HP_gq.out 1).trans rfl; have hggq_2 : w13.cell? ⟨gq, 2, none⟩ = some (.int .u32 d.f2) := (blk_cell HP_gq.out 2).trans rfl; have hcS_1 : w13.cell? ⟨gS, 1, none⟩ = some v1 := (blk_cell HS13.out.box 1).trans rfl; have ⟨Ab, cb, hbb_0, hbb_1⟩ := isS_cells HS13.out.pi.hI; refine ⟨_, rfl, ?_⟩) | ((with_reducible refine gate_callee (f := 65) rfl ?_); refine goesLX_ rfl Tryd.func65 (by kernel_rfl) rfl #[.pointer (some ⟨g, 0, none⟩), .int .i64 7, .int .i64 ((a : Int) + 12)] rfl hM ?_; refine (stop_flt g 7 ((a : Int) + 12) w0 _ HS13.out.pi.hB).mono ?_; rintro e w9 hF; obtain ⟨gf, rfl, hF2⟩ := hF; refine ⟨_, rfl, ?_⟩))
             exact ⟨rfl, sceneR_flt (er7 HX.out) HS13.out.pi.hK hF2⟩
            ·simp only [if_neg hz] at hx
             have hz' : zeroP d = false := by simpa using hz
             have HX := AM hx; have HZF := AM (zero_f hz')
             clear hx hz hz'
             go_wp2_with (first | ((with_reducible refine gate_callee (f := 67) rfl ?_); refine goesL_ (some 75) rfl rfl Tryd.func67 (by kernel_rfl) rfl #[.pointer (some ⟨g, 0, none⟩)] rfl hM ?_; (with_reducible refine (point_calls g b a o _ HZ.out w0 _ HSI.out.pi.hI HSI.out.pi.hB HOB.out HQ1.out).mono ?_); rintro e w7 ⟨rfl, hi, hb, hk⟩; have HS7 := AM (HSI.out.call hi hb hk); clear hi hb hk; refine ⟨_, rfl, ?_⟩) | ((with_reducible refine gate_dst (N := 11) rfl ?_); refine box_event ?hg (N := 11) ?hd (cs := #[.int .u32 0, .int .u32 0, .int .u32 0]) (t := 67) ?hr ?_; (case hd => rfl); (case hg => rfl); (case hr => first | (go_simp; done) | (go_simp; rfl)); intro ga hg w8 hbox hb; have HA_ga := AM hbox; have HG_ga := AM hg; have HN_ga := AM hb; clear hb hbox hg; have hcga_0 : w8.cell? ⟨ga, 0, none⟩ = some (.int .u32 0) := (blk_cell HA_ga.out 0).trans rfl; have hfga_0 := blk_frozen HA_ga.out 0; have hcga_1 : w8.cell? ⟨ga, 1, none⟩ = some (.int .u32 0) := (blk_cell HA_ga.out 1).trans rfl; have hfga_1 := blk_frozen HA_ga.out 1; have hcga_2 : w8.cell? ⟨ga, 2, none⟩ = some (.int .u32 0) := (blk_cell HA_ga.out 2).trans rfl; have hfga_2 := blk_frozen HA_ga.out 2) | ((with_reducible refine gate_store (t := 67) (p := 11) rfl ?_); refine store_event (t := 67) (p := 11) (v := ?vo_ga11) (w1 := (((w8.setCell ⟨ga, 0, none⟩ (.int .u32 o.f0)).setCell ⟨ga, 1, none⟩ (.int .u32 o.f1)).setCell ⟨ga, 2, none⟩ (.int .u32 o.f2))) ?hg ?ho ?hn ?hr ?_; (case ho => rfl); (case hg => rfl); (case hn => rfl); (case hr => first | (go_simp; done) | (go_simp; rfl)); intro w9 hw; have hb := AM (HN_ga.out.setCell (p := ⟨ga, 0, none⟩) (Nat.le_of_eq HG_ga.out.symm) (.int .u32 o.f0)); replace hb := AM (hb.out.setCell (p := ⟨ga, 1, none⟩) (Nat.le_of_eq HG_ga.out.symm) (.int .u32 o.f1)); replace hb := AM (hb.out.setCell (p := ⟨ga, 2, none⟩) (Nat.le_of_eq HG_ga.out.symm) (.int .u32 o.f2)); have hp := AM (blk_put (cs' := #[.int .u32 o.f0, .int .u32 o.f1, .int .u32 o.f2]) (blk_put (cs' := #[.int .u32 o.f0, .int .u32 o.f1, .int .u32 0]) (blk_put (cs' := #[.int .u32 o.f0, .int .u32 0, .int .u32 0]) HA_ga.out 0 (.int .u32 o.f0) rfl) 1 (.int .u32 o.f1) rfl) 2 (.int .u32 o.f2) rfl); rw [← hw] at hb hp; clear hw; have HP_ga := hp; clear hp HA_ga; have HS9 := AM (HS7.out.below hb.out); clear hb HN_ga HG_ga hcga_0 hfga_0 hcga_1 hfga_1 hcga_2 hfga_2; have hdga_0 : w9.cell? ⟨ga, 0, none⟩ = some (.int .u32 o.f0) := (blk_cell HP_ga.out 0).trans rfl; have hega_0 := blk_frozen HP_ga.out 0; have hdga_1 : w9.cell? ⟨ga, 1, none⟩ = some (.int .u32 o.f1) := (blk_cell HP_ga.out 1).trans rfl; have hega_1 := blk_frozen HP_ga.out 1; have hdga_2 : w9.cell? ⟨ga, 2, none⟩ = some (.int .u32 o.f2) := (blk_cell HP_ga.out 2).trans rfl; have hega_2 := blk_frozen HP_ga.out 2) | ((with_reducible refine gate_callee (f := 67) rfl ?_); refine goesL_ (some 77) rfl rfl Tryd.func67 (by kernel_rfl) rfl #[.pointer (some ⟨g, 0, none⟩)] rfl hM ?_; (with_reducible refine (point_calls g b (a + 12) d _ (by have := HZ.out; omega) w0 _ HS9.out.pi.hI HS9.out.pi.hB HOB.out HQ2.out).mono ?_); rintro e w10 ⟨rfl, hi, hb, hk⟩; have HS10 := AM (HS9.out.call hi hb hk); have HP_ga := AM (hk.blk HP_ga.out (HS9.out.pi.hI.ne_blk HP_ga.out (by decide)).symm (by simp)); clear hi hb hk hdga_0 hega_0 hdga_1 hega_1 hdga_2 hega_2; refine ⟨_, rfl, ?_⟩) | ((with_reducible refine gate_dst (N := 12) rfl ?_); refine box_event ?hg (N := 12) ?hd (cs := #[.int .u32 0, .int .u32 0, .int .u32 0]) (t := 67) ?hr ?_; (case hd => rfl); (case hg => rfl); (case hr => first | (go_simp; done) | (go_simp; rfl)); intro gq hg w11 hbox hb; have HA_gq := AM hbox; have HG_gq := AM hg; have HN_gq := AM hb; clear hb hbox hg; have hcgq_0 : w11.cell? ⟨gq, 0, none⟩ = some (.int .u32 0) := (blk_cell HA_gq.out 0).trans rfl; have hfgq_0 := blk_frozen HA_gq.out 0; have hcgq_1 : w11.cell? ⟨gq, 1, none⟩ = some (.int .u32 0) := (blk_cell HA_gq.out 1).trans rfl; have hfgq_1 := blk_frozen HA_gq.out 1; have hcgq_2 : w11.cell? ⟨gq, 2, none⟩ = some (.int .u32 0) := (blk_cell HA_gq.out 2).trans rfl; have hfgq_2 := blk_frozen HA_gq.out 2) | ((with_reducible refine gate_store (t := 67) (p := 12) rfl ?_); refine store_event (t := 67) (p := 12) (v := ?vo_gq12) (w1 := (((w11.setCell ⟨gq, 0, none⟩ (.int .u32 d.f0)).setCell ⟨gq, 1, none⟩ (.int .u32 d.f1)).setCell ⟨gq, 2, none⟩ (.int .u32 d.f2))) ?hg ?ho ?hn ?hr ?_; (case ho => rfl); (case hg => rfl); (case hn => rfl); (case hr => first | (go_simp; done) | (go_simp; rfl)); intro w12 hw; have hb := AM (HN_gq.out.setCell (p := ⟨gq, 0, none⟩) (Nat.le_of_eq HG_gq.out.symm) (.int .u32 d.f0)); replace hb := AM (hb.out.setCell (p := ⟨gq, 1, none⟩) (Nat.le_of_eq HG_gq.out.symm) (.int .u32 d.f1)); replace hb := AM (hb.out.setCell (p := ⟨gq, 2, none⟩) (Nat.le_of_eq HG_gq.out.symm) (.int .u32 d.f2)); have hp := AM (blk_put (cs' := #[.int .u32 d.f0, .int .u32 d.f1, .int .u32 d.f2]) (blk_put (cs' := #[.int .u32 d.f0, .int .u32 d.f1, .int .u32 0]) (blk_put (cs' := #[.int .u32 d.f0, .int .u32 0, .int .u32 0]) HA_gq.out 0 (.int .u32 d.f0) rfl) 1 (.int .u32 d.f1) rfl) 2 (.int .u32 d.f2) rfl); rw [← hw] at hb hp; clear hw; have HP_gq := hp; clear hp HA_gq; have HS12 := AM (HS10.out.below hb.out); have HP_ga := AM (blk_below HP_ga.out hb.out); clear hb HN_gq HG_gq hcgq_0 hfgq_0 hcgq_1 hfgq_1 hcgq_2 hfgq_2; have hdgq_0 : w12.cell? ⟨gq, 0, none⟩ = some (.int .u32 d.f0) := (blk_cell HP_gq.out 0).trans rfl; have hegq_0 := blk_frozen HP_gq.out 0; have hdgq_1 : w12.cell? ⟨gq, 1, none⟩ = some (.int .u32 d.f1) := (blk_cell HP_gq.out 1).trans rfl; have hegq_1 := blk_frozen HP_gq.out 1; have hdgq_2 : w12.cell? ⟨gq, 2, none⟩ = some (.int .u32 d.f2) := (blk_cell HP_gq.out 2).trans rfl; have hegq_2 := blk_frozen HP_gq.out 2) | ((with_reducible refine gate_callee (f := 68) rfl ?_); refine goesL_ (some 79) rfl rfl Tryd.func68 (by kernel_rfl) rfl #[.agg #[.int .u32 d.f0, .int .u32 d.f1, .int .u32 d.f2]] rfl hM ?_; (with_reducible refine (impl_Point_zero.calls d.f0 d.f1 d.f2 false _ HZF.out).mono ?_); rintro e w13 ⟨rfl, hb⟩; have HS13 := AM (HS12.out.below hb); have HP_ga := AM (blk_below HP_ga.out hb); have HP_gq := AM (blk_below HP_gq.out hb); clear hb hdgq_0 hegq_0 hdgq_1 hegq_1 hdgq_2 hegq_2; have hgga_0 : w13.cell? ⟨ga, 0, none⟩ = some (.int .u32 o.f0) := (blk_cell HP_ga.out 0).trans rfl; have hgga_1 : w13.cell? ⟨ga, 1, none⟩ = some (.int .u32 o.f1) := (blk_cell HP_ga.out 1).trans rfl; have hgga_2 : w13.cell? ⟨ga, 2, none⟩ = some (.int .u32 o.f2) := (blk_cell HP_ga.out 2).trans rfl; have hggq_0 : w13.cell? ⟨gq, 0, none⟩ = some (.int .u32 d.f0) := (blk_cell HP_gq.out 0).trans rfl; have hggq_1 : w13.cell? ⟨gq, 1, none⟩ = some (.int .u32 d.f1) := (blk_cell HP_gq.out 1).trans rfl; have hggq_2 : w13.cell? ⟨gq, 2, none⟩ = some (.int .u32 d.f2) := (blk_cell HP_gq.out 2).trans rfl; have hcS_1 : w13.cell? ⟨gS, 1, none⟩ = some v1 := (blk_cell HS13.out.box 1).trans rfl; have ⟨Ab, cb, hbb_0, hbb_1⟩ := isS_cells HS13.out.pi.hI; refine ⟨_, rfl, ?_⟩) | ((with_reducible refine gate_builtin (b := .append) (xs := #[.tmp 88, .tmp 92]) rfl ?_); at_builtin; refine Kd.R_append k72 (w0 := w0) w0.heap.size rfl (.tmp 88) (.tmp 92) 37 72 (.agg #[.int .u32 0, .int .u32 0, .int .u32 0, .int .u32 0, .int .u32 0, .int .u32 0]) 24 rfl Tryd.underlying37 info72 rfl (by decide) (by omega) v1 R (⟨o, d⟩ : S72) [.int .u32 o.f0, .int .u32 o.f1, .int .u32 o.f2, .int .u32 d.f0, .int .u32 d.f1, .int .u32 d.f2] (fun k => w.heap.size ≤ k) (fun _ => False) rfl rfl ?aP (fun _ hk => hk.elim) ?aF ?aO ?aB ?aS ?aL ?_; (case aP => exact k72_mkM _ _ _ _); (case aF => exact (fun k hk => Nat.le_trans HS13.out.wsize hk)); (case aO => exact HS13.out.r1); (case aB => exact HS13.out.pi.hB); (case aS => exact HS13.out.size); (case aL => have := HT.out; omega); intro v18 w18 ho hb hg hat; obtain ⟨Ao, co, eo⟩ := Kd.R_slice ho; subst eo; obtain ⟨n18, hn18⟩ : ∃ n, n = (R ++ [(⟨o, d⟩ : S72)]).length := ⟨_, rfl⟩; rw [← hn18] at ho ⊢; replace hn18 := AM hn18; obtain ⟨hbx, HN⟩ := SI.push1 HS13.out ho hb hg; clear ho hb hg hat; have hs18 : w18.cell? ⟨gS, 1, none⟩ = some v1 := (blk_cell hbx 1).trans rfl; have hfs18 := blk_frozen hbx 1; replace hbx := AM hbx; replace HN := AM HN))
             exact ih3 (j + 1) (a + 24) (R ++ [(⟨o, d⟩ : S72)]) _ _ _ _ _ _ _ _ _ _ _ _ _ _ _ _ _ _ _ _ _ _ _ _ _ _ _ _ _ _ _ _ _ _ _ _ _ _ _ _ _ _ _ _ _ _ _ _ _ _ _ _ _ _ _ _ _ _ _ _ _ _ _ _ _ _ _ _ _ _ _ _ _ _ _ _ _ _ _ _ _ _ _ _ _ _ _ _ _ _ _ _ _ _ _ _ _ _ _ _ _ _ _ _ _ _ _ _ _ _ _ _ _ _ _ _ _ _ _ _ _ (by omega) (by omega) (AM (by rw [List.length_append, HT.out]; rfl)) HX (AM (by omega)) HN
        exact key3 r 0 a [] (.slice none 0 0) _ W _ _ _ _ _ _ _ _ _ _ _ _ _ _ _ _ _ _ _ _ _ _ _ _ _ _ _ _ _ _ _ _ _ _ _ _ _ _ _ _ _ _ _ _ _ _ _ _ _ _ _ _ _ _ _ _ _ _ _ _ _ _ _ _ _ _ _ _ _ _ _ _ _ _ _ _ _ _ _ _ _ _ _ _ _ _ _ _ _ _ _ _ _ _ _ _ _ _ _ _ _ _ _ _ _ _ _ _ _ _ _ _ _ _ _ _ _ _ (by omega) (by omega) (AM rfl) HX HZ HSI
       | succ m ih2 =>
        intro j a T v0 z W u1 u3 u4 u5 u9 u10 u11 u12 u13 u14 u15 u16 u17 u18 u19 u20 u21 u22 u23 u24 u25 u26 u27 u28 u29 u30 u31 u32 u33 u34 u35 u36 u37 u38 u39 u40 u41 u42 u43 u44 u45 u46 u47 u48 u49 u50 u51 u52 u55 u56 u57 u58 u59 u60 u61 u62 u63 u64 u65 u66 u67 u68 u69 u70 u71 u72 u73 u74 u75 u76 u77 u78 u79 u80 u81 u82 u83 u84 u85 u86 u87 u88 u89 u90 u91 u92 u93 u94 u95 u96 u97 u98 u99 u100 u101 u102 u103 u104 u105 u106 u107 u108 u109 u110 u111 u112 u113 u114 u115 u116 u117 u118 u119 u120 u121 u122 u123 hj ha HT HX HZ HSI
        have hjI : (j : Int) < (t : Int) := by omega
        have hjd : decide (j < t) = true := decide_eq_true (by omega)
        have hx := HX.out
        clear HX
        unfold trisF at hx
        rw [rounds_succ]
        cases h1 : pointE b a with
        | error e =>
         rw [h1] at hx
         have HX := AM hx; have HQ1 := AM h1
         clear hx h1
         go_wp2_with (first | ((with_reducible refine gate_callee (f := 67) rfl ?_); refine goesLX_ rfl Tryd.func67 (by kernel_rfl) rfl #[.pointer (some ⟨g, 0, none⟩)] rfl hM ?_; refine (point_flt g b a e _ HZ.out w0 _ HSI.out.pi.hI HSI.out.pi.hB HOB.out (by omega) HQ1.out).mono ?_; rintro e w9 hF; obtain ⟨gf, rfl, hF2⟩ := hF; refine ⟨_, rfl, ?_⟩))
         exact ⟨rfl, sceneR_flt' HX.out HSI.out.pi.hK hF2⟩
        | ok p =>
         rw [h1] at hx
         have HQ1 := AM h1
         clear h1
         cases h2 : pointE b (a + 12) with
         | error e =>
          rw [h2] at hx
          have HX := AM hx; have HQ2 := AM h2
          clear hx h2
          go_wp2_with (first | ((with_reducible refine gate_callee (f := 67) rfl ?_); refine goesL_ (some 57) rfl rfl Tryd.func67 (by kernel_rfl) rfl #[.pointer (some ⟨g, 0, none⟩)] rfl hM ?_; (with_reducible refine (point_calls g b a p _ HZ.out w0 _ HSI.out.pi.hI HSI.out.pi.hB HOB.out HQ1.out).mono ?_); rintro e w7 ⟨rfl, hi, hb, hk⟩; have HS7 := AM (HSI.out.call hi hb hk); clear hi hb hk; refine ⟨_, rfl, ?_⟩) | ((with_reducible refine gate_dst (N := 9) rfl ?_); refine box_event ?hg (N := 9) ?hd (cs := #[.int .u32 0, .int .u32 0, .int .u32 0]) (t := 67) ?hr ?_; (case hd => rfl); (case hg => rfl); (case hr => first | (go_simp; done) | (go_simp; rfl)); intro ga hg w8 hbox hb; have HA_ga := AM hbox; have HG_ga := AM hg; have HN_ga := AM hb; clear hb hbox hg; have hcga_0 : w8.cell? ⟨ga, 0, none⟩ = some (.int .u32 0) := (blk_cell HA_ga.out 0).trans rfl; have hfga_0 := blk_frozen HA_ga.out 0; have hcga_1 : w8.cell? ⟨ga, 1, none⟩ = some (.int .u32 0) := (blk_cell HA_ga.out 1).trans rfl; have hfga_1 := blk_frozen HA_ga.out 1; have hcga_2 : w8.cell? ⟨ga, 2, none⟩ = some (.int .u32 0) := (blk_cell HA_ga.out 2).trans rfl; have hfga_2 := blk_frozen HA_ga.out 2) | ((with_reducible refine gate_store (t := 67) (p := 9) rfl ?_); refine store_event (t := 67) (p := 9) (v := ?vo_ga9) (w1 := (((w8.setCell ⟨ga, 0, none⟩ (.int .u32 p.f0)).setCell ⟨ga, 1, none⟩ (.int .u32 p.f1)).setCell ⟨ga, 2, none⟩ (.int .u32 p.f2))) ?hg ?ho ?hn ?hr ?_; (case ho => rfl); (case hg => rfl); (case hn => rfl); (case hr => first | (go_simp; done) | (go_simp; rfl)); intro w9 hw; have hb := AM (HN_ga.out.setCell (p := ⟨ga, 0, none⟩) (Nat.le_of_eq HG_ga.out.symm) (.int .u32 p.f0)); replace hb := AM (hb.out.setCell (p := ⟨ga, 1, none⟩) (Nat.le_of_eq HG_ga.out.symm) (.int .u32 p.f1)); replace hb := AM (hb.out.setCell (p := ⟨ga, 2, none⟩) (Nat.le_of_eq HG_ga.out.symm) (.int .u32 p.f2)); have hp := AM (blk_put (cs' := #[.int .u32 p.f0, .int .u32 p.f1, .int .u32 p.f2]) (blk_put (cs' := #[.int .u32 p.f0, .int .u32 p.f1, .int .u32 0]) (blk_put (cs' := #[.int .u32 p.f0, .int .u32 0, .int .u32 0]) HA_ga.out 0 (.int .u32 p.f0) rfl) 1 (.int .u32 p.f1) rfl) 2 (.int .u32 p.f2) rfl); rw [← hw] at hb hp; clear hw; have HP_ga := hp; clear hp HA_ga; have HS9 := AM (HS7.out.below hb.out); clear hb HN_ga HG_ga hcga_0 hfga_0 hcga_1 hfga_1 hcga_2 hfga_2; have hdga_0 : w9.cell? ⟨ga, 0, none⟩ = some (.int .u32 p.f0) := (blk_cell HP_ga.out 0).trans rfl; have hega_0 := blk_frozen HP_ga.out 0; have hdga_1 : w9.cell? ⟨ga, 1, none⟩ = some (.int .u32 p.f1) := (blk_cell HP_ga.out 1).trans rfl; have hega_1 := blk_frozen HP_ga.out 1; have hdga_2 : w9.cell? ⟨ga, 2, none⟩ = some (.int .u32 p.f2) := (blk_cell HP_ga.out 2).trans rfl; have hega_2 := blk_frozen HP_ga.out 2) | ((with_reducible refine gate_callee (f := 67) rfl ?_); refine goesLX_ rfl Tryd.func67 (by kernel_rfl) rfl #[.pointer (some ⟨g, 0, none⟩)] rfl hM ?_; refine (point_flt g b (a + 12) e _ (by have := HZ.out; omega) w0 _ HS9.out.pi.hI HS9.out.pi.hB HOB.out (by omega) HQ2.out).mono ?_; rintro e w9 hF; obtain ⟨gf, rfl, hF2⟩ := hF; refine ⟨_, rfl, ?_⟩))
          exact ⟨rfl, sceneR_flt' HX.out HS9.out.pi.hK hF2⟩
         | ok q =>
          rw [h2] at hx
          have HQ2 := AM h2
          clear h2
          cases h3 : pointE b (a + 24) with
          | error e =>
           rw [h3] at hx
           have HX := AM hx; have HQ3 := AM h3
           clear hx h3
           go_wp2_with (first | ((with_reducible refine gate_callee (f := 67) rfl ?_); refine goesL_ (some 57) rfl rfl Tryd.func67 (by kernel_rfl) rfl #[.pointer (some ⟨g, 0, none⟩)] rfl hM ?_; (with_reducible refine (point_calls g b a p _ HZ.out w0 _ HSI.out.pi.hI HSI.out.pi.hB HOB.out HQ1.out).mono ?_); rintro e w7 ⟨rfl, hi, hb, hk⟩; have HS7 := AM (HSI.out.call hi hb hk); clear hi hb hk; refine ⟨_, rfl, ?_⟩) | ((with_reducible refine gate_dst (N := 9) rfl ?_); refine box_event ?hg (N := 9) ?hd (cs := #[.int .u32 0, .int .u32 0, .int .u32 0]) (t := 67) ?hr ?_; (case hd => rfl); (case hg => rfl); (case hr => first | (go_simp; done) | (go_simp; rfl)); intro ga hg w8 hbox hb; have HA_ga := AM hbox; have HG_ga := AM hg; have HN_ga := AM hb; clear hb hbox hg; have hcga_0 : w8.cell? ⟨ga, 0, none⟩ = some (.int .u32 0) := (blk_cell HA_ga.out 0).trans rfl; have hfga_0 := blk_frozen HA_ga.out 0; have hcga_1 : w8.cell? ⟨ga, 1, none⟩ = some (.int .u32 0) := (blk_cell HA_ga.out 1).trans rfl; have hfga_1 := blk_frozen HA_ga.out 1; have hcga_2 : w8.cell? ⟨ga, 2, none⟩ = some (.int .u32 0) := (blk_cell HA_ga.out 2).trans rfl; have hfga_2 := blk_frozen HA_ga.out 2) | ((with_reducible refine gate_store (t := 67) (p := 9) rfl ?_); refine store_event (t := 67) (p := 9) (v := ?vo_ga9) (w1 := (((w8.setCell ⟨ga, 0, none⟩ (.int .u32 p.f0)).setCell ⟨ga, 1, none⟩ (.int .u32 p.f1)).setCell ⟨ga, 2, none⟩ (.int .u32 p.f2))) ?hg ?ho ?hn ?hr ?_; (case ho => rfl); (case hg => rfl); (case hn => rfl); (case hr => first | (go_simp; done) | (go_simp; rfl)); intro w9 hw; have hb := AM (HN_ga.out.setCell (p := ⟨ga, 0, none⟩) (Nat.le_of_eq HG_ga.out.symm) (.int .u32 p.f0)); replace hb := AM (hb.out.setCell (p := ⟨ga, 1, none⟩) (Nat.le_of_eq HG_ga.out.symm) (.int .u32 p.f1)); replace hb := AM (hb.out.setCell (p := ⟨ga, 2, none⟩) (Nat.le_of_eq HG_ga.out.symm) (.int .u32 p.f2)); have hp := AM (blk_put (cs' := #[.int .u32 p.f0, .int .u32 p.f1, .int .u32 p.f2]) (blk_put (cs' := #[.int .u32 p.f0, .int .u32 p.f1, .int .u32 0]) (blk_put (cs' := #[.int .u32 p.f0, .int .u32 0, .int .u32 0]) HA_ga.out 0 (.int .u32 p.f0) rfl) 1 (.int .u32 p.f1) rfl) 2 (.int .u32 p.f2) rfl); rw [← hw] at hb hp; clear hw; have HP_ga := hp; clear hp HA_ga; have HS9 := AM (HS7.out.below hb.out); clear hb HN_ga HG_ga hcga_0 hfga_0 hcga_1 hfga_1 hcga_2 hfga_2; have hdga_0 : w9.cell? ⟨ga, 0, none⟩ = some (.int .u32 p.f0) := (blk_cell HP_ga.out 0).trans rfl; have hega_0 := blk_frozen HP_ga.out 0; have hdga_1 : w9.cell? ⟨ga, 1, none⟩ = some (.int .u32 p.f1) := (blk_cell HP_ga.out 1).trans rfl; have hega_1 := blk_frozen HP_ga.out 1; have hdga_2 : w9.cell? ⟨ga, 2, none⟩ = some (.int .u32 p.f2) := (blk_cell HP_ga.out 2).trans rfl; have hega_2 := blk_frozen HP_ga.out 2) | ((with_reducible refine gate_callee (f := 67) rfl ?_); refine goesL_ (some 59) rfl rfl Tryd.func67 (by kernel_rfl) rfl #[.pointer (some ⟨g, 0, none⟩)] rfl hM ?_; (with_reducible refine (point_calls g b (a + 12) q _ (by have := HZ.out; omega) w0 _ HS9.out.pi.hI HS9.out.pi.hB HOB.out HQ2.out).mono ?_); rintro e w10 ⟨rfl, hi, hb, hk⟩; have HS10 := AM (HS9.out.call hi hb hk); have HP_ga := AM (hk.blk HP_ga.out (HS9.out.pi.hI.ne_blk HP_ga.out (by decide)).symm (by simp)); clear hi hb hk hdga_0 hega_0 hdga_1 hega_1 hdga_2 hega_2; refine ⟨_, rfl, ?_⟩) | ((with_reducible refine gate_dst (N := 10) rfl ?_); refine box_event ?hg (N := 10) ?hd (cs := #[.int .u32 0, .int .u32 0, .int .u32 0]) (t := 67) ?hr ?_; (case hd => rfl); (case hg => rfl); (case hr => first | (go_simp; done) | (go_simp; rfl)); intro gq hg w11 hbox hb; have HA_gq := AM hbox; have HG_gq := AM hg; have HN_gq := AM hb; clear hb hbox hg; have hcgq_0 : w11.cell? ⟨gq, 0, none⟩ = some (.int .u32 0) := (blk_cell HA_gq.out 0).trans rfl; have hfgq_0 := blk_frozen HA_gq.out 0; have hcgq_1 : w11.cell? ⟨gq, 1, none⟩ = some (.int .u32 0) := (blk_cell HA_gq.out 1).trans rfl; have hfgq_1 := blk_frozen HA_gq.out 1; have hcgq_2 : w11.cell? ⟨gq, 2, none⟩ = some (.int .u32 0) := (blk_cell HA_gq.out 2).trans rfl; have hfgq_2 := blk_frozen HA_gq.out 2) | ((with_reducible refine gate_store (t := 67) (p := 10) rfl ?_); refine store_event (t := 67) (p := 10) (v := ?vo_gq10) (w1 := (((w11.setCell ⟨gq, 0, none⟩ (.int .u32 q.f0)).setCell ⟨gq, 1, none⟩ (.int .u32 q.f1)).setCell ⟨gq, 2, none⟩ (.int .u32 q.f2))) ?hg ?ho ?hn ?hr ?_; (case ho => rfl); (case hg => rfl); (case hn => rfl); (case hr => first | (go_simp; done) | (go_simp; rfl)); intro w12 hw; have hb := AM (HN_gq.out.setCell (p := ⟨gq, 0, none⟩) (Nat.le_of_eq HG_gq.out.symm) (.int .u32 q.f0)); replace hb := AM (hb.out.setCell (p := ⟨gq, 1, none⟩) (Nat.le_of_eq HG_gq.out.symm) (.int .u32 q.f1)); replace hb := AM (hb.out.setCell (p := ⟨gq, 2, none⟩) (Nat.le_of_eq HG_gq.out.symm) (.int .u32 q.f2)); have hp := AM (blk_put (cs' := #[.int .u32 q.f0, .int .u32 q.f1, .int .u32 q.f2]) (blk_put (cs' := #[.int .u32 q.f0, .int .u32 q.f1, .int .u32 0]) (blk_put (cs' := #[.int .u32 q.f0, .int .u32 0, .int .u32 0]) HA_gq.out 0 (.int .u32 q.f0) rfl) 1 (.int .u32 q.f1) rfl) 2 (.int .u32 q.f2) rfl); rw [← hw] at hb hp; clear hw; have HP_gq := hp; clear hp HA_gq; have HS12 := AM (HS10.out.below hb.out); have HP_ga := AM (blk_below HP_ga.out hb.out); clear hb HN_gq HG_gq hcgq_0 hfgq_0 hcgq_1 hfgq_1 hcgq_2 hfgq_2; have hdgq_0 : w12.cell? ⟨gq, 0, none⟩ = some (.int .u32 q.f0) := (blk_cell HP_gq.out 0).trans rfl; have hegq_0 := blk_frozen HP_gq.out 0; have hdgq_1 : w12.cell? ⟨gq, 1, none⟩ = some (.int .u32 q.f1) := (blk_cell HP_gq.out 1).trans rfl; have hegq_1 := blk_frozen HP_gq.out 1; have hdgq_2 : w12.cell? ⟨gq, 2, none⟩ = some (.int .u32 q.f2) := (blk_cell HP_gq.out 2).trans rfl; have hegq_2 := blk_frozen HP_gq.out 2))
           have HD := AM (SI.drew HS12.out); have PA := AM (blk_drew HP_ga.out); have PQ := AM (blk_drew HP_gq.out)
           clear HS12 HP_ga HP_gq hdgq_0 hegq_0 hdgq_1 hegq_1 hdgq_2 hegq_2 HSI HS7 HS9 HS10 HQ1 HQ2
           refine start_ (n := 11) (S := fun w' => w'.cell? ⟨gS, 0, none⟩ = some v0 ∧ w'.cell? ⟨ga, 0, none⟩ = some (.int .u32 p.f0) ∧ w'.cell? ⟨ga, 1, none⟩ = some (.int .u32 p.f1) ∧ w'.cell? ⟨ga, 2, none⟩ = some (.int .u32 p.f2) ∧ w'.cell? ⟨gq, 0, none⟩ = some (.int .u32 q.f0) ∧ w'.cell? ⟨gq, 1, none⟩ = some (.int .u32 q.f1) ∧ w'.cell? ⟨gq, 2, none⟩ = some (.int .u32 q.f2)) (ds := [10]) #[false, false, false, false, false, false, false, false, false, false, false] (by kernel_rfl) rfl rfl ⟨(blk_cell HD.out.box 0).trans rfl, (blk_cell PA.out 0).trans rfl, (blk_cell PA.out 1).trans rfl, (blk_cell PA.out 2).trans rfl, (blk_cell PQ.out 0).trans rfl, (blk_cell PQ.out 1).trans rfl, (blk_cell PQ.out 2).trans rfl⟩ (fun hHeld => ?_)
           generalize w12.drew = w13 at HD PA PQ hHeld ⊢
           refine pure_ (i := 0) (N := some 60) (v := ?_) (a' := ?_) #[true, false, false, false, false, false, false, false, false, false, false] rfl rfl (by kernel_rfl) (fun _ _ _ h => h) (Or.inl ⟨by rfl, ?_⟩) ?_ ?_
           rotate_left
           ·intro w'
            go_simp
            with_reducible rfl
           rotate_left
           ·simp only [Act.put, sa, sb, sc, i64_w, i32_w]
            rfl
           refine pure_ (i := 4) (N := some 64) (v := ?_) (a' := ?_) #[true, false, false, false, true, false, false, false, false, false, false] rfl rfl (by kernel_rfl) (fun _ _ _ h => h) (Or.inl ⟨by rfl, ?_⟩) ?_ ?_
           rotate_left
           ·intro w'
            go_simp
            with_reducible rfl
           rotate_left
           ·simp only [Act.put, sa, sb, sc, i64_w, i32_w]
            rfl
           refine take_ (i := 1) (N := some 61) (v := ?_) (a' := ?_) #[true, true, false, false, true, false, false, false, false, false, false] rfl rfl (by kernel_rfl) (fun _ _ _ h => h) (Or.inl ⟨by rfl, ?_⟩) hHeld ?_ ?_
           rotate_left
           ·rintro w' ⟨s0, s1, s2, s3, s4, s5, s6⟩
            go_simp
            with_reducible rfl
           rotate_left
           ·simp only [Act.put, sa, sb, sc, i64_w, i32_w]
            rfl
           refine take_ (i := 2) (N := some 62) (v := ?_) (a' := ?_) #[true, true, true, false, true, false, false, false, false, false, false] rfl rfl (by kernel_rfl) (fun _ _ _ h => h) (Or.inl ⟨by rfl, ?_⟩) hHeld ?_ ?_
           rotate_left
           ·rintro w' ⟨s0, s1, s2, s3, s4, s5, s6⟩
            go_simp
            with_reducible rfl
           rotate_left
           ·simp only [Act.put, sa, sb, sc, i64_w, i32_w]
            rfl
           refine take_ (i := 3) (N := some 63) (v := ?_) (a' := ?_) #[true, true, true, true, true, false, false, false, false, false, false] rfl rfl (by kernel_rfl) (fun _ _ _ h => h) (Or.inl ⟨by rfl, ?_⟩) hHeld ?_ ?_
           rotate_left
           ·rintro w' ⟨s0, s1, s2, s3, s4, s5, s6⟩
            go_simp
            with_reducible rfl
           rotate_left
           ·simp only [Act.put, sa, sb, sc, i64_w, i32_w]
            rfl
           refine one_ (i := 5) (N := some 65) #[true, true, true, true, true, true, false, false, false, false, false] rfl rfl (by kernel_rfl) (by decide) (fun K hK => ?_)
           refine goesX_ Tryd.func67 (by kernel_rfl) rfl #[.pointer (some ⟨g, 0, none⟩)] (by rfl) rfl hM ?_
           refine (point_flt g b (a + 24) e _ (by have := HZ.out; omega) w0 _ HD.out.pi.hI HD.out.pi.hB HOB.out (by omega) HQ3.out).mono ?_
           rintro e9 w14 hF
           obtain ⟨gf, rfl, hF2⟩ := hF
           refine ⟨_, rfl, ?_⟩
           exact ⟨rfl, sceneR_flt' HX.out HD.out.pi.hK hF2⟩
          | ok y =>
           rw [h3] at hx
           have HX := AM hx; have HQ3 := AM h3
           clear hx h3
           go_wp2_with (first | ((with_reducible refine gate_callee (f := 67) rfl ?_); refine goesL_ (some 57) rfl rfl Tryd.func67 (by kernel_rfl) rfl #[.pointer (some ⟨g, 0, none⟩)] rfl hM ?_; (with_reducible refine (point_calls g b a p _ HZ.out w0 _ HSI.out.pi.hI HSI.out.pi.hB HOB.out HQ1.out).mono ?_); rintro e w7 ⟨rfl, hi, hb, hk⟩; have HS7 := AM (HSI.out.call hi hb hk); clear hi hb hk; refine ⟨_, rfl, ?_⟩) | ((with_reducible refine gate_dst (N := 9) rfl ?_); refine box_event ?hg (N := 9) ?hd (cs := #[.int .u32 0, .int .u32 0, .int .u32 0]) (t := 67) ?hr ?_; (case hd => rfl); (case hg => rfl); (case hr => first | (go_simp; done) | (go_simp; rfl)); intro ga hg w8 hbox hb; have HA_ga := AM hbox; have HG_ga := AM hg; have HN_ga := AM hb; clear hb hbox hg; have hcga_0 : w8.cell? ⟨ga, 0, none⟩ = some (.int .u32 0) := (blk_cell HA_ga.out 0).trans rfl; have hfga_0 := blk_frozen HA_ga.out 0; have hcga_1 : w8.cell? ⟨ga, 1, none⟩ = some (.int .u32 0) := (blk_cell HA_ga.out 1).trans rfl; have hfga_1 := blk_frozen HA_ga.out 1; have hcga_2 : w8.cell? ⟨ga, 2, none⟩ = some (.int .u32 0) := (blk_cell HA_ga.out 2).trans rfl; have hfga_2 := blk_frozen HA_ga.out 2) | ((with_reducible refine gate_store (t := 67) (p := 9) rfl ?_); refine store_event (t := 67) (p := 9) (v := ?vo_ga9) (w1 := (((w8.setCell ⟨ga, 0, none⟩ (.int .u32 p.f0)).setCell ⟨ga, 1, none⟩ (.int .u32 p.f1)).setCell ⟨ga, 2, none⟩ (.int .u32 p.f2))) ?hg ?ho ?hn ?hr ?_; (case ho => rfl); (case hg => rfl); (case hn => rfl); (case hr => first | (go_simp; done) | (go_simp; rfl)); intro w9 hw; have hb := AM (HN_ga.out.setCell (p := ⟨ga, 0, none⟩) (Nat.le_of_eq HG_ga.out.symm) (.int .u32 p.f0)); replace hb := AM (hb.out.setCell (p := ⟨ga, 1, none⟩) (Nat.le_of_eq HG_ga.out.symm) (.int .u32 p.f1)); replace hb := AM (hb.out.setCell (p := ⟨ga, 2, none⟩) (Nat.le_of_eq HG_ga.out.symm) (.int .u32 p.f2)); have hp := AM (blk_put (cs' := #[.int .u32 p.f0, .int .u32 p.f1, .int .u32 p.f2]) (blk_put (cs' := #[.int .u32 p.f0, .int .u32 p.f1, .int .u32 0]) (blk_put (cs' := #[.int .u32 p.f0, .int .u32 0, .int .u32 0]) HA_ga.out 0 (.int .u32 p.f0) rfl) 1 (.int .u32 p.f1) rfl) 2 (.int .u32 p.f2) rfl); rw [← hw] at hb hp; clear hw; have HP_ga := hp; clear hp HA_ga; have HS9 := AM (HS7.out.below hb.out); clear hb HN_ga HG_ga hcga_0 hfga_0 hcga_1 hfga_1 hcga_2 hfga_2; have hdga_0 : w9.cell? ⟨ga, 0, none⟩ = some (.int .u32 p.f0) := (blk_cell HP_ga.out 0).trans rfl; have hega_0 := blk_frozen HP_ga.out 0; have hdga_1 : w9.cell? ⟨ga, 1, none⟩ = some (.int .u32 p.f1) := (blk_cell HP_ga.out 1).trans rfl; have hega_1 := blk_frozen HP_ga.out 1; have hdga_2 : w9.cell? ⟨ga, 2, none⟩ = some (.int .u32 p.f2) := (blk_cell HP_ga.out 2).trans rfl; have hega_2 := blk_frozen HP_ga.out 2) | ((with_reducible refine gate_callee (f := 67) rfl ?_); refine goesL_ (some 59) rfl rfl Tryd.func67 (by kernel_rfl) rfl #[.pointer (some ⟨g, 0, none⟩)] rfl hM ?_; (with_reducible refine (point_calls g b (a + 12) q _ (by have := HZ.out; omega) w0 _ HS9.out.pi.hI HS9.out.pi.hB HOB.out HQ2.out).mono ?_); rintro e w10 ⟨rfl, hi, hb, hk⟩; have HS10 := AM (HS9.out.call hi hb hk); have HP_ga := AM (hk.blk HP_ga.out (HS9.out.pi.hI.ne_blk HP_ga.out (by decide)).symm (by simp)); clear hi hb hk hdga_0 hega_0 hdga_1 hega_1 hdga_2 hega_2; refine ⟨_, rfl, ?_⟩) | ((with_reducible refine gate_dst (N := 10) rfl ?_); refine box_event ?hg (N := 10) ?hd (cs := #[.int .u32 0, .int .u32 0, .int .u32 0]) (t := 67) ?hr ?_; (case hd => rfl); (case hg => rfl); (case hr => first | (go_simp; done) | (go_simp; rfl)); intro gq hg w11 hbox hb; have HA_gq := AM hbox; have HG_gq := AM hg; have HN_gq := AM hb; clear hb hbox hg; have hcgq_0 : w11.cell? ⟨gq, 0, none⟩ = some (.int .u32 0) := (blk_cell HA_gq.out 0).trans rfl; have hfgq_0 := blk_frozen HA_gq.out 0; have hcgq_1 : w11.cell? ⟨gq, 1, none⟩ = some (.int .u32 0) := (blk_cell HA_gq.out 1).trans rfl; have hfgq_1 := blk_frozen HA_gq.out 1; have hcgq_2 : w11.cell? ⟨gq, 2, none⟩ = some (.int .u32 0) := (blk_cell HA_gq.out 2).trans rfl; have hfgq_2 := blk_frozen HA_gq.out 2) | ((with_reducible refine gate_store (t := 67) (p := 10) rfl ?_); refine store_event (t := 67) (p := 10) (v := ?vo_gq10) (w1 := (((w11.setCell ⟨gq, 0, none⟩ (.int .u32 q.f0)).setCell ⟨gq, 1, none⟩ (.int .u32 q.f1)).setCell ⟨gq, 2, none⟩ (.int .u32 q.f2))) ?hg ?ho ?hn ?hr ?_; (case ho => rfl); (case hg => rfl); (case hn => rfl); (case hr => first | (go_simp; done) | (go_simp; rfl)); intro w12 hw; have hb := AM (HN_gq.out.setCell (p := ⟨gq, 0, none⟩) (Nat.le_of_eq HG_gq.out.symm) (.int .u32 q.f0)); replace hb := AM (hb.out.setCell (p := ⟨gq, 1, none⟩) (Nat.le_of_eq HG_gq.out.symm) (.int .u32 q.f1)); replace hb := AM (hb.out.setCell (p := ⟨gq, 2, none⟩) (Nat.le_of_eq HG_gq.out.symm) (.int .u32 q.f2)); have hp := AM (blk_put (cs' := #[.int .u32 q.f0, .int .u32 q.f1, .int .u32 q.f2]) (blk_put (cs' := #[.int .u32 q.f0, .int .u32 q.f1, .int .u32 0]) (blk_put (cs' := #[.int .u32 q.f0, .int .u32 0, .int .u32 0]) HA_gq.out 0 (.int .u32 q.f0) rfl) 1 (.int .u32 q.f1) rfl) 2 (.int .u32 q.f2) rfl); rw [← hw] at hb hp; clear hw; have HP_gq := hp; clear hp HA_gq; have HS12 := AM (HS10.out.below hb.out); have HP_ga := AM (blk_below HP_ga.out hb.out); clear hb HN_gq HG_gq hcgq_0 hfgq_0 hcgq_1 hfgq_1 hcgq_2 hfgq_2; have hdgq_0 : w12.cell? ⟨gq, 0, none⟩ = some (.int .u32 q.f0) := (blk_cell HP_gq.out 0).trans rfl; have hegq_0 := blk_frozen HP_gq.out 0; have hdgq_1 : w12.cell? ⟨gq, 1, none⟩ = some (.int .u32 q.f1) := (blk_cell HP_gq.out 1).trans rfl; have hegq_1 := blk_frozen HP_gq.out 1; have hdgq_2 : w12.cell? ⟨gq, 2, none⟩ = some (.int .u32 q.f2) := (blk_cell HP_gq.out 2).trans rfl; have hegq_2 := blk_frozen HP_gq.out 2))
           have HD := AM (SI.drew HS12.out); have PA := AM (blk_drew HP_ga.out); have PQ := AM (blk_drew HP_gq.out)
           clear HS12 HP_ga HP_gq hdgq_0 hegq_0 hdgq_1 hegq_1 hdgq_2 hegq_2 HSI HS7 HS9 HS10 HQ1 HQ2
           refine start_ (n := 11) (S := fun w' => w'.cell? ⟨gS, 0, none⟩ = some v0 ∧ w'.cell? ⟨ga, 0, none⟩ = some (.int .u32 p.f0) ∧ w'.cell? ⟨ga, 1, none⟩ = some (.int .u32 p.f1) ∧ w'.cell? ⟨ga, 2, none⟩ = some (.int .u32 p.f2) ∧ w'.cell? ⟨gq, 0, none⟩ = some (.int .u32 q.f0) ∧ w'.cell? ⟨gq, 1, none⟩ = some (.int .u32 q.f1) ∧ w'.cell? ⟨gq, 2, none⟩ = some (.int .u32 q.f2)) (ds := [10]) #[false, false, false, false, false, false, false, false, false, false, false] (by kernel_rfl) rfl rfl ⟨(blk_cell HD.out.box 0).trans rfl, (blk_cell PA.out 0).trans rfl, (blk_cell PA.out 1).trans rfl, (blk_cell PA.out 2).trans rfl, (blk_cell PQ.out 0).trans rfl, (blk_cell PQ.out 1).trans rfl, (blk_cell PQ.out 2).trans rfl⟩ (fun hHeld => ?_)
           generalize w12.drew = w13 at HD PA PQ hHeld ⊢
           refine pure_ (i := 0) (N := some 60) (v := ?_) (a' := ?_) #[true, false, false, false, false, false, false, false, false, false, false] rfl rfl (by kernel_rfl) (fun _ _ _ h => h) (Or.inl ⟨by rfl, ?_⟩) ?_ ?_
           rotate_left
           ·intro w'
            go_simp
            with_reducible rfl
           rotate_left
           ·simp only [Act.put, sa, sb, sc, i64_w, i32_w]
            rfl
           refine pure_ (i := 4) (N := some 64) (v := ?_) (a' := ?_) #[true, false, false, false, true, false, false, false, false, false, false] rfl rfl (by kernel_rfl) (fun _ _ _ h => h) (Or.inl ⟨by rfl, ?_⟩) ?_ ?_
           rotate_left
           ·intro w'
            go_simp
            with_reducible rfl
           rotate_left
           ·simp only [Act.put, sa, sb, sc, i64_w, i32_w]
            rfl
           refine take_ (i := 1) (N := some 61) (v := ?_) (a' := ?_) #[true, true, false, false, true, false, false, false, false, false, false] rfl rfl (by kernel_rfl) (fun _ _ _ h => h) (Or.inl ⟨by rfl, ?_⟩) hHeld ?_ ?_
           rotate_left
           ·rintro w' ⟨s0, s1, s2, s3, s4, s5, s6⟩
            go_simp
            with_reducible rfl
           rotate_left
           ·simp only [Act.put, sa, sb, sc, i64_w, i32_w]
            rfl
           refine take_ (i := 2) (N := some 62) (v := ?_) (a' := ?_) #[true, true, true, false, true, false, false, false, false, false, false] rfl rfl (by kernel_rfl) (fun _ _ _ h => h) (Or.inl ⟨by rfl, ?_⟩) hHeld ?_ ?_
           rotate_left
           ·rintro w' ⟨s0, s1, s2, s3, s4, s5, s6⟩
            go_simp
            with_reducible rfl
           rotate_left
           ·simp only [Act.put, sa, sb, sc, i64_w, i32_w]
            rfl
           refine take_ (i := 3) (N := some 63) (v := ?_) (a' := ?_) #[true, true, true, true, true, false, false, false, false, false, false] rfl rfl (by kernel_rfl) (fun _ _ _ h => h) (Or.inl ⟨by rfl, ?_⟩) hHeld ?_ ?_
           rotate_left
           ·rintro w' ⟨s0, s1, s2, s3, s4, s5, s6⟩
            go_simp
            with_reducible rfl
           rotate_left
           ·simp only [Act.put, sa, sb, sc, i64_w, i32_w]
            rfl
           refine one_ (i := 5) (N := some 65) #[true, true, true, true, true, true, false, false, false, false, false] rfl rfl (by kernel_rfl) (by decide) (fun K hK => ?_)
           refine goes_ Tryd.func67 (by kernel_rfl) rfl #[.pointer (some ⟨g, 0, none⟩)] (by rfl) rfl rfl hM ?_
           with_reducible refine (point_calls g b (a + 24) y _ (by have := HZ.out; omega) w0 _ HD.out.pi.hI HD.out.pi.hB HOB.out HQ3.out).mono ?_
           rintro e9 w14 ⟨rfl, hi, hb, hk⟩
           refine ⟨_, rfl, ?_⟩
           have HE := AM (HD.out.call hi hb hk)
           replace PA := AM (hk.blk PA.out (HD.out.pi.hI.ne_blk PA.out (by decide)).symm (by simp))
           replace PQ := AM (hk.blk PQ.out (HD.out.pi.hI.ne_blk PQ.out (by decide)).symm (by simp))
           clear hi hb hk HD
           refine hK.out _ _ ⟨(blk_cell HE.out.box 0).trans rfl, (blk_cell PA.out 0).trans rfl, (blk_cell PA.out 1).trans rfl, (blk_cell PA.out 2).trans rfl, (blk_cell PQ.out 0).trans rfl, (blk_cell PQ.out 1).trans rfl, (blk_cell PQ.out 2).trans rfl⟩ (fun hHeld => ?_)
           clear hK K
           refine norm_ (a' := ?_) ?_ ?_
           rotate_left
           ·show Act.put _ (some 65) _ = _
            simp only [Act.put, sa, sb, sc, i64_w, i32_w]
            rfl
           refine pure_ (i := 6) (N := some 66) (v := ?_) (a' := ?_) #[true, true, true, true, true, true, true, false, false, false, false] rfl rfl (by kernel_rfl) (fun _ _ _ h => h) (Or.inl ⟨by rfl, ?_⟩) ?_ ?_
           rotate_left
           ·intro w'
            go_simp
            with_reducible rfl
           rotate_left
           ·simp only [Act.put, sa, sb, sc, i64_w, i32_w]
            rfl
           refine one_ (i := 7) (N := some 67) #[true, true, true, true, true, true, true, true, false, false, false] rfl rfl (by kernel_rfl) (by decide) (fun K hK => ?_)
           refine value_ (w1 := ?_) (v := ?_) (by rfl) rfl ?_ ?_
           rotate_left 2
           ·go_simp
            constructor
            ·rfl
            rfl
           refine hK.out _ _ ⟨(blk_cell (blk_alloc HE.out.box _) 0).trans rfl, (blk_cell (blk_alloc PA.out _) 0).trans rfl, (blk_cell (blk_alloc PA.out _) 1).trans rfl, (blk_cell (blk_alloc PA.out _) 2).trans rfl, (blk_cell (blk_alloc PQ.out _) 0).trans rfl, (blk_cell (blk_alloc PQ.out _) 1).trans rfl, (blk_cell (blk_alloc PQ.out _) 2).trans rfl⟩ (fun hHeld => ?_)
           clear hK K
           refine norm_ (a' := ?_) ?_ ?_
           rotate_left
           ·show Act.put _ (some 67) _ = _
            simp only [Act.put, sa, sb, sc, i64_w, i32_w]
            rfl
           refine one_ (i := 8) (N := some 68) #[true, true, true, true, true, true, true, true, true, false, false] rfl rfl (by kernel_rfl) (by decide) (fun K hK => ?_)
           refine Kd.R_append_step k70 (w0 := w0) w0.heap.size (by rfl) (.tmp 61) (.tmp 67) 36 70 (.agg #[.int .u32 0, .int .u32 0, .int .u32 0, .int .u32 0, .int .u32 0, .int .u32 0, .int .u32 0, .int .u32 0, .int .u32 0]) 36 rfl Tryd.underlying36 info70 rfl (by decide) (by omega) v0 T (⟨p, q, y⟩ : S70) [.int .u32 p.f0, .int .u32 p.f1, .int .u32 p.f2, .int .u32 q.f0, .int .u32 q.f1, .int .u32 q.f2, .int .u32 y.f0, .int .u32 y.f1, .int .u32 y.f2] (fun k => w.heap.size ≤ k) (fun _ => False) rfl rfl ?aP (fun _ hk => hk.elim) ?aF ?aO ?aB ?aS ?aL ?_
           (case aP => exact k70_mkM _ _ _ _)
           (case aF => exact (fun k hk => Nat.le_trans HE.out.wsize hk))
           (case aO => exact HE.out.r0)
           (case aB => exact HE.out.pi.hB)
           (case aS => exact HE.out.size)
           (case aL => have := HT.out; omega)
           intro v18 w18 ho hb hg hat
           obtain ⟨Ao, co, eo⟩ := Kd.R_slice ho
           subst eo
           obtain ⟨n18, hn18⟩ : ∃ n, n = (T ++ [(⟨p, q, y⟩ : S70)]).length := ⟨_, rfl⟩
           rw [← hn18] at ho ⊢
           replace hn18 := AM hn18
           obtain ⟨hbx, HN⟩ := SI.push0 HE.out ho hb hg
           replace PA := AM (blk_grown PA.out hg (Kd.R_ne HE.out.r0 PA.out (by decide)))
           replace PQ := AM (blk_grown PQ.out hg (Kd.R_ne HE.out.r0 PQ.out (by decide)))
           clear ho hb hg hat HE
           refine hK.out _ _ ⟨(blk_cell hbx 0).trans rfl, (blk_cell PA.out 0).trans rfl, (blk_cell PA.out 1).trans rfl, (blk_cell PA.out 2).trans rfl, (blk_cell PQ.out 0).trans rfl, (blk_cell PQ.out 1).trans rfl, (blk_cell PQ.out 2).trans rfl⟩ (fun hHeld => ?_)
           clear hK K
           refine norm_ (a' := ?_) ?_ ?_
           rotate_left
           ·show Act.put _ (some 68) _ = _
            simp only [Act.put, sa, sb, sc, i64_w, i32_w]
            rfl
           refine pure_ (i := 9) (N := some 69) (v := ?_) (a' := ?_) #[true, true, true, true, true, true, true, true, true, true, false] rfl rfl (by kernel_rfl) (fun _ _ _ h => h) (Or.inl ⟨by rfl, ?_⟩) ?_ ?_
           rotate_left
           ·intro w'
            go_simp
            with_reducible rfl
           rotate_left
           ·simp only [Act.put, sa, sb, sc, i64_w, i32_w]
            rfl
           refine last_ (i := 10) (N := none) #[true, true, true, true, true, true, true, true, true, true, true] rfl rfl (by kernel_rfl) (by decide) (fun K hK => ?_)
           have hs18 := (blk_cell hbx 0).trans rfl
           have hfs18 := blk_frozen hbx 0
           refine skip_ (w1 := ?_) (by rfl) rfl ?_ ?_
           rotate_left
           ·go_simp
            rfl
           refine hK.out _ _ ?_
           clear hK K
           refine done_ (by kernel_rfl) ?_
           clear hHeld PA PQ hbx hs18 hfs18
           go_wp2
           exact ih2 (j + 1) (a + 36) (T ++ [(⟨p, q, y⟩ : S70)]) _ _ _ _ _ _ _ _ _ _ _ _ _ _ _ _ _ _ _ _ _ _ _ _ _ _ _ _ _ _ _ _ _ _ _ _ _ _ _ _ _ _ _ _ _ _ _ _ _ _ _ _ _ _ _ _ _ _ _ _ _ _ _ _ _ _ _ _ _ _ _ _ _ _ _ _ _ _ _ _ _ _ _ _ _ _ _ _ _ _ _ _ _ _ _ _ _ _ _ _ _ _ _ _ _ _ _ _ _ _ _ _ _ _ _ _ _ _ _ _ (by omega) (by omega) (AM (by rw [List.length_append, HT.out]; rfl)) HX (AM (by omega)) (AM HN)
      exact key2 t 0 9 [] (.slice none 0 0) _ w6 _ _ _ _ _ _ _ _ _ _ _ _ _ _ _ _ _ _ _ _ _ _ _ _ _ _ _ _ _ _ _ _ _ _ _ _ _ _ _ _ _ _ _ _ _ _ _ _ _ _ _ _ _ _ _ _ _ _ _ _ _ _ _ _ _ _ _ _ _ _ _ _ _ _ _ _ _ _ _ _ _ _ _ _ _ _ _ _ _ _ _ _ _ _ _ _ _ _ _ _ _ _ _ _ _ _ _ _ _ _ _ _ _ _ _ _ _ (by omega) (by omega) (AM rfl) HX (AM rfl) HSI
  | cons c cs ih =>
   intro j W u1 u3 u4 u5 u6 u7 u8 u9 u10 u11 u12 u13 u17 u18 u19 u20 u21 u22 u23 u24 u25 u26 u27 u28 u29 u30 u31 u32 u33 u34 u35 u36 u37 u38 u39 u40 u41 u42 u43 u44 u45 u46 u47 u48 u49 u50 u51 u52 u53 u54 u55 u56 u57 u58 u59 u60 u61 u62 u63 u64 u65 u66 u67 u68 u69 u70 u71 u72 u73 u74 u75 u76 u77 u78 u79 u80 u81 u82 u83 u84 u85 u86 u87 u88 u89 u90 u91 u92 u93 u94 u95 u96 u97 u98 u99 u100 u101 u102 u103 u104 u105 u106 u107 u108 u109 u110 u111 u112 u113 u114 u115 u116 u117 u118 u119 u120 u121 u122 u123 hd hj HX HP HM
   obtain ⟨hcj, hd', hj4⟩ := mag_cell hd
   have hj2 : cs.length + (j + 1) = 4 := by simp only [List.length_cons] at hj; omega
   have hcl : W.cell? ⟨gl, j, none⟩ = some (.int .u8 c) := by
    have h := HM.out
    simp only [World.cell?, h]
    simpa using hcj
   clear hcj hd hj
   have hj4I : (j : Int) < 4 := by omega
   have hj4d : decide ((j : Int) < 4) = true := decide_eq_true hj4I
   have ⟨A, c0, hc0, hc1⟩ := isS_cells HP.out.hI
   have hx := HX.out
   clear HX
   unfold magF at hx
   rw [rounds_succ]
   by_cases h1 : b.length ≤ j
   ·rw [if_pos h1] at hx
    have HX := AM hx
    clear hx
    have h1d : decide (b.length ≤ j) = true := decide_eq_true h1
    have h1I : (b.length : Int) ≤ (j : Int) := by omega
    go_wp2_with (first | ((with_reducible refine gate_callee (f := 65) rfl ?_); refine goesLX_ rfl Tryd.func65 (by kernel_rfl) rfl #[.pointer (some ⟨g, 0, none⟩), .int .i64 5, .int .i64 (j : Int)] rfl hM ?_; refine (stop_flt g 5 (j : Int) w0 _ HP.out.hB).mono ?_; rintro e w9 hF; obtain ⟨gf, rfl, hF2⟩ := hF; refine ⟨_, rfl, ?_⟩))
    exact ⟨rfl, sceneR_flt HX.out HP.out.hK hF2⟩
   ·rw [if_neg h1] at hx
    have h1d : decide (b.length ≤ j) = false := decide_eq_false h1
    have h1I : ¬ ((b.length : Int) ≤ (j : Int)) := by omega
    have h2I : (j : Int) < (b.length : Int) := by omega
    obtain ⟨ad, hA, hcb⟩ := isS_byte HP.out.hI HP.out.hB (j : Int) (by omega) h2I hc0
    rw [Int.toNat_natCast] at hcb
    have hrd : rd b (j : Int) = bG b j := by simp [rd, bG]
    rw [hrd] at hcb
    subst hA
    by_cases h2 : bG b j = c
    ·rw [if_pos h2] at hx
     have HX := AM hx
     clear hx
     have h2a : (bG b j == c) = true := beq_iff_eq.mpr h2
     have H2 := AM h2
     clear h2 hrd
     go_wp2_with (fail)
     exact ih (j + 1) W _ _ _ _ _ _ _ _ _ _ _ _ _ _ _ _ _ _ _ _ _ _ _ _ _ _ _ _ _ _ _ _ _ _ _ _ _ _ _ _ _ _ _ _ _ _ _ _ _ _ _ _ _ _ _ _ _ _ _ _ _ _ _ _ _ _ _ _ _ _ _ _ _ _ _ _ _ _ _ _ _ _ _ _ _ _ _ _ _ _ _ _ _ _ _ _ _ _ _ _ _ _ _ _ _ _ _ _ _ _ _ _ _ _ _ _ _ _ _ hd' hj2 HX HP HM
    ·rw [if_neg h2] at hx
     have HX := AM hx
     clear hx
     have h2a : (bG b j == c) = false := beq_eq_false_iff_ne.mpr h2
     clear hrd
     go_wp2_with (first | ((with_reducible refine gate_callee (f := 65) rfl ?_); refine goesLX_ rfl Tryd.func65 (by kernel_rfl) rfl #[.pointer (some ⟨g, 0, none⟩), .int .i64 4, .int .i64 (j : Int)] rfl hM ?_; refine (stop_flt g 4 (j : Int) w0 _ HP.out.hB).mono ?_; rintro e w9 hF; obtain ⟨gf, rfl, hF2⟩ := hF; refine ⟨_, rfl, ?_⟩))
     exact ⟨rfl, sceneR_flt HX.out HP.out.hK hF2⟩
 exact key [83, 67, 69, 78] 0 w2 _ _ _ _ _ _ _ _ _ _ _ _ _ _ _ _ _ _ _ _ _ _ _ _ _ _ _ _ _ _ _ _ _ _ _ _ _ _ _ _ _ _ _ _ _ _ _ _ _ _ _ _ _ _ _ _ _ _ _ _ _ _ _ _ _ _ _ _ _ _ _ _ _ _ _ _ _ _ _ _ _ _ _ _ _ _ _ _ _ _ _ _ _ _ _ _ _ _ _ _ _ _ _ _ _ _ _ _ _ _ _ _ _ _ _ _ _ _ _ rfl rfl HX HP2 (AM HM.out)
/-! ### what is deferred -/
theorem catch_idle (p q : Addr) (w : World) :
  CallsD Tryd.prog 53 #[.pointer (some p), .pointer (some q)] .returning w fun e u' w' => e = .returned (.tuple #[]) ∧ u' = .returning ∧ w' = w := by
 refine callsD_of_wpS Tryd.func53 rfl fun c₀ cs hu => ?_
 simp only [Tryd.ntmps53, List.size_toArray, List.length_cons, List.length_nil, Nat.reduceAdd, Nat.reduceSub, Array.replicate_succ, Array.replicate_zero, List.push_toArray, List.append_toArray, List.nil_append, List.cons_append]
 apply wpS_seq
 apply wpS_region
 simp [wpOpsS, go_sem, recoverD, hu, Tryd.ntmps53, Exit.thenS]
 refine wpS_of_wp ?_
 go_wp2
 cases c₀
 simp_all [bodyPostS, results, Tryd.results53]
theorem catch_fault (gs ge gf : Nat) (older : List PanicEntry) (w : World) (v0 v1 v2 v3 : Value) (hs : w.heap[gs]? = some (.cells #[v0, v1, v2] 40 (0, 0))) (he : w.heap[ge]? = some (.cells #[v3] 74 (0, 0))) :
  CallsD Tryd.prog 53 #[.pointer (some ⟨gs, 0, none⟩), .pointer (some ⟨ge, 0, none⟩)] (.panicking ({ v := .iface 77 (.pointer (some ⟨gf, 0, none⟩)), recovered := false } :: older)) w fun e u' w' =>
   e = .returned (.tuple #[]) ∧ u' = .panicking ({ v := .iface 77 (.pointer (some ⟨gf, 0, none⟩)), recovered := true } :: older) ∧
    w' = (((w.setCell ⟨gs, 0, none⟩ (.slice none 0 0)).setCell ⟨gs, 1, none⟩ (.slice none 0 0)).setCell ⟨gs, 2, none⟩ (.slice none 0 0)).setCell ⟨ge, 0, none⟩ (.iface 77 (.pointer (some ⟨gf, 0, none⟩))) := by
 have hc0 : w.cell? ⟨gs, 0, none⟩ = some v0 := (blk_cell hs 0).trans rfl
 have hc1 : w.cell? ⟨gs, 1, none⟩ = some v1 := (blk_cell hs 1).trans rfl
 have hc2 : w.cell? ⟨gs, 2, none⟩ = some v2 := (blk_cell hs 2).trans rfl
 have hc3 : w.cell? ⟨ge, 0, none⟩ = some v3 := (blk_cell he 0).trans rfl
 have hf0 := blk_frozen hs 0; have hf1 := blk_frozen hs 1; have hf2 := blk_frozen hs 2; have hf3 := blk_frozen he 0
 have hta : ∀ (T : TypeId) (v : Value) (w : World), (Instr.typeAssert (.iface 77 v) T 77 true).run Tryd.prog w = .ok (.tuple #[v, .bool true]) w := fun _ _ _ => by kernel_rfl
 have hne : ge ≠ gs := (blk_ne he hs (by decide))
 clear hs he
 refine callsD_of_wpS Tryd.func53 rfl fun c₀ cs hu => ?_
 simp only [Tryd.ntmps53, List.size_toArray, List.length_cons, List.length_nil, Nat.reduceAdd, Nat.reduceSub, Array.replicate_succ, Array.replicate_zero, List.push_toArray, List.append_toArray, List.nil_append, List.cons_append]
 apply wpS_seq
 apply wpS_region
 simp [wpOpsS, go_sem, recoverD, hu, Tryd.ntmps53, Exit.thenS]
 refine wpS_of_wp ?_
 go_wp2
 refine ⟨rfl, _, rfl, .tuple #[], ?_, rfl, rfl, rfl⟩
 simp [results, Tryd.results53]
/-! ### readScene -/
def ReadR (w w' : World) (x : Except ER SCR) (e : Ending) : Prop :=
 match x with
 | .ok r => ∃ v0 v1 v2 : Value, e = .returned (.tuple #[.agg #[v0, v1, v2], .nilIface]) ∧ Kd.R k70 70 w' w.heap.size (fun _ => True) v0 r.1 ∧ Kd.R k72 72 w' w.heap.size (fun _ => True) v1 r.2.1 ∧ Kd.R k67 67 w' w.heap.size (fun _ => True) v2 r.2.2 ∧ Below w.heap.size w w'
 | .error er => ∃ gf, e = .returned (.tuple #[.agg #[.slice none 0 0, .slice none 0 0, .slice none 0 0], .iface 77 (.pointer (some ⟨gf, 0, none⟩))]) ∧ w'.heap[gf]? = some (.cells #[.int .i64 er.1, .int .i64 er.2] 81 (0, 0)) ∧ w.heap.size ≤ gf ∧ Below w.heap.size w w'
theorem read_vals {tmps : Array Value} {w : World} {gs ge : Nat} {v0 v1 v2 u : Value} (h2 : tmps.getD 2 undef = .pointer (some ⟨gs, 0, none⟩)) (h3 : tmps.getD 3 undef = .pointer (some ⟨ge, 0, none⟩)) (hs : w.heap[gs]? = some (.cells #[v0, v1, v2] 40 (0, 0))) (he : w.heap[ge]? = some (.cells #[u] 74 (0, 0))) :
  (results Tryd.f34 tmps).run Tryd.prog w = .ok (.tuple #[.agg #[v0, v1, v2], u]) w := by
 have h2' : tmps[2]?.getD undef = .pointer (some ⟨gs, 0, none⟩) := by simpa using h2
 have h3' : tmps[3]?.getD undef = .pointer (some ⟨ge, 0, none⟩) := by simpa using h3
 have hc : w.cell? ⟨ge, 0, none⟩ = some u := (blk_cell he 0).trans rfl
 have hl : (loadVar 74 ⟨ge, 0, none⟩).run Tryd.prog w = .ok u w := by
  simp [loadVar, isAgg, underlying, Tryd.underlying74, hc, Result.andThen]
 simp [results, Tryd.results34, h2', h3', asAddr, run_loadVar_row w gs 40 40 #[v0, v1, v2] (0, 0) _ hs Tryd.underlying40 rfl (by kernel_rfl), hl, Result.andThen]
theorem read_end {w w4 : World} {gs ge : Nat} {v0 v1 v2 u : Value} {c0 c1 c2 c3 : Value} (hs : w4.heap[gs]? = some (.cells #[c0, c1, c2] 40 (0, 0))) (he : w4.heap[ge]? = some (.cells #[c3] 74 (0, 0))) (hne : gs ≠ ge) (hB : Below w.heap.size w w4) (h1 : w.heap.size ≤ gs) (h2 : w.heap.size ≤ ge) :
  ((((w4.setCell ⟨gs, 0, none⟩ v0).setCell ⟨gs, 1, none⟩ v1).setCell ⟨gs, 2, none⟩ v2).setCell ⟨ge, 0, none⟩ u).heap[gs]? = some (.cells #[v0, v1, v2] 40 (0, 0)) ∧
  ((((w4.setCell ⟨gs, 0, none⟩ v0).setCell ⟨gs, 1, none⟩ v1).setCell ⟨gs, 2, none⟩ v2).setCell ⟨ge, 0, none⟩ u).heap[ge]? = some (.cells #[u] 74 (0, 0)) ∧
  Below w.heap.size w ((((w4.setCell ⟨gs, 0, none⟩ v0).setCell ⟨gs, 1, none⟩ v1).setCell ⟨gs, 2, none⟩ v2).setCell ⟨ge, 0, none⟩ u) ∧
  ∀ k, k ≠ gs → k ≠ ge → ((((w4.setCell ⟨gs, 0, none⟩ v0).setCell ⟨gs, 1, none⟩ v1).setCell ⟨gs, 2, none⟩ v2).setCell ⟨ge, 0, none⟩ u).heap[k]? = w4.heap[k]? := by
 have e0 := blk_put (cs' := #[v0, c1, c2]) hs 0 v0 rfl
 have e1 := blk_put (cs' := #[v0, v1, c2]) e0 1 v1 rfl
 have e2 := blk_put (cs' := #[v0, v1, v2]) e1 2 v2 rfl
 have f0 := blk_far he (p := ⟨gs, 0, none⟩) hne.symm v0
 have f1 := blk_far f0 (p := ⟨gs, 1, none⟩) hne.symm v1
 have f2 := blk_far f1 (p := ⟨gs, 2, none⟩) hne.symm v2
 refine ⟨blk_far e2 (p := ⟨ge, 0, none⟩) hne u, blk_put (cs' := #[u]) f2 0 u rfl, (((hB.setCell (p := ⟨gs, 0, none⟩) h1 _).setCell (p := ⟨gs, 1, none⟩) h1 _).setCell (p := ⟨gs, 2, none⟩) h1 _).setCell (p := ⟨ge, 0, none⟩) h2 _, fun k hk1 hk2 => ?_⟩
 rw [Below.heap_setCell _ _ _ _ hk2, Below.heap_setCell _ _ _ _ hk1, Below.heap_setCell _ _ _ _ hk1, Below.heap_setCell _ _ _ _ hk1]
theorem readScene_calls (A : Option Addr) (c : Nat) (b : List Int) (x : Except ER SCR) (w : World) (hC : Kd.C (Kd.int .u8) w A b.length b) (hb : OkB b) (hx : sceneE b = x) :
  Calls Tryd.prog 34 #[.slice A b.length c] w fun e w' => ReadR w w' x e := by
 have HC := AM hC; have HOB := AM hb; have HX := AM hx
 clear hC hb hx
 have hu40 := Tryd.underlying40
 have hmf : ∀ (fn : Fn) (first cap : Array Value) (w : World), (Instr.makeFunc fn first cap).run Tryd.prog w = .ok (.func fn first cap) w := fun _ _ _ _ => rfl
 cases x with
 | ok r =>
  obtain ⟨T, R, L⟩ := r
  go_enter_defers Tryd.func34, Tryd.ntmps34
  go_wp2_with (first | ((with_reducible refine gate_dst (N := 2) rfl ?_); refine box_event ?hg (N := 2) ?hd (cs := #[.slice none 0 0, .slice none 0 0, .slice none 0 0]) (t := 40) ?hr ?_; (case hd => rfl); (case hg => rfl); (case hr => first | (go_simp; done) | (go_simp; rfl)); intro gs hg w1 hbox hb; have HBS := AM hbox; have HB1 := AM hb; have HGS := AM hg; clear hbox hb hg) | ((with_reducible refine gate_dst (N := 3) rfl ?_); refine box_event ?hg (N := 3) ?hd (cs := #[.nilIface]) (t := 74) ?hr ?_; (case hd => rfl); (case hg => rfl); (case hr => first | (go_simp; done) | (go_simp; rfl)); intro ge hg w2 hbox hb; have HBE := AM hbox; have HB2 := AM (below_step HB1.out hb); have HGE := AM (show w.heap.size ≤ ge from by rw [hg]; exact HB1.out.size); have HNE := AM (show gs ≠ ge from by rw [hg]; exact Nat.ne_of_lt (blk_lt HBS.out)); replace HBS := AM (blk_below HBS.out hb); clear hbox hb hg) | ((with_reducible refine gate_dst (N := 7) rfl ?_); refine box_event ?hg (N := 7) ?hd (cs := #[.slice A b.length c, .int .i64 0]) (t := 98) ?hr ?_; (case hd => rfl); (case hg => rfl); (case hr => first | (go_simp; done) | (go_simp; rfl)); intro gB hg w3 hbox hb; have HIB := AM (show IsS98 w w3 gB b 0 from ⟨A, c, hbox, by rw [hg]; exact HB2.out.size, HC.out⟩); have HB3 := AM (below_step HB2.out hb); replace HBS := AM (blk_below HBS.out hb); replace HBE := AM (blk_below HBE.out hb); have HW2 := AM hb; clear hbox hb hg) | ((with_reducible refine gate_callee (f := 54) rfl ?_); refine goesL_ (some 8) rfl rfl Tryd.func54 (by kernel_rfl) rfl #[.pointer (some ⟨gB, 0, none⟩)] rfl hM ?_; refine (scene_calls gB b _ w _ HIB.out HB3.out HOB.out HX.out).mono ?_; rintro e w4 hR; obtain ⟨v0, v1, v2, rfl, hr0, hr1, hr2, hb, hk⟩ := hR; have HBS4 := AM (hk.blk HBS.out (HIB.out.ne_blk HBS.out (by decide)).symm (by simp)); have HBE4 := AM (hk.blk HBE.out (HIB.out.ne_blk HBE.out (by decide)).symm (by simp)); have HR0 := AM (Kd.R_mono (ok' := fun _ => True) (Kd.R_types hr0 HBS4.out (by decide)) (fun _ _ => trivial)); have HR1 := AM (Kd.R_mono (ok' := fun _ => True) hr1 (fun _ _ => trivial)); have HR2 := AM (Kd.R_mono (ok' := fun _ => True) hr2 (fun _ _ => trivial)); have HB4 := AM hb; clear hr0 hr1 hr2 hb hk HIB HBS HBE HB3; obtain ⟨A0, c0, e0⟩ := Kd.R_slice HR0.out; obtain ⟨A1, c1, e1⟩ := Kd.R_slice HR1.out; obtain ⟨A2, c2, e2⟩ := Kd.R_slice HR2.out; subst e0; subst e1; subst e2; have hs0 : w4.cell? ⟨gs, 0, none⟩ = some (.slice none 0 0) := (blk_cell HBS4.out 0).trans rfl; have hs1 : w4.cell? ⟨gs, 1, none⟩ = some (.slice none 0 0) := (blk_cell HBS4.out 1).trans rfl; have hs2 : w4.cell? ⟨gs, 2, none⟩ = some (.slice none 0 0) := (blk_cell HBS4.out 2).trans rfl; have hf0 := blk_frozen HBS4.out 0; have hf1 := blk_frozen HBS4.out 1; have hf2 := blk_frozen HBS4.out 2; have he0 : w4.cell? ⟨ge, 0, none⟩ = some .nilIface := (blk_cell HBE4.out 0).trans rfl; have hf3 := blk_frozen HBE4.out 0; have hne := HNE.out; refine ⟨_, rfl, ?_⟩))
  refine leaves_cons (f := 53) (args := #[.pointer (some ⟨gs, 0, none⟩), .pointer (some ⟨ge, 0, none⟩)]) (by simp) (by simp [go_sem]) ?_
  refine (catch_idle _ _ _).mono ?_
  rintro e u' w'' ⟨rfl, rfl, rfl⟩
  obtain ⟨k1, k2, k3, k4⟩ := read_end (w := w) (v0 := .slice A0 T.length c0) (v1 := .slice A1 R.length c1) (v2 := .slice A2 L.length c2) (u := .nilIface) HBS4.out HBE4.out HNE.out HB4.out (Nat.le_of_eq HGS.out.symm) HGE.out
  refine ⟨_, read_vals (by rfl) (by rfl) k1 k2, _, _, _, rfl, Kd.R_mono (Kd.R_step (Kd.R_types (Kd.R_types HR0.out HBS4.out (by decide)) HBE4.out (by decide)) (fun k hk _ => k4 k hk.1.2 hk.2)) (fun _ _ => trivial), Kd.R_mono (Kd.R_step (Kd.R_types (Kd.R_types HR1.out HBS4.out (by decide)) HBE4.out (by decide)) (fun k hk _ => k4 k hk.1.2 hk.2)) (fun _ _ => trivial), Kd.R_mono (Kd.R_step (Kd.R_types (Kd.R_types HR2.out HBS4.out (by decide)) HBE4.out (by decide)) (fun k hk _ => k4 k hk.1.2 hk.2)) (fun _ _ => trivial), k3⟩
 | error er =>
  go_enter_defers Tryd.func34, Tryd.ntmps34
  go_wp2_with (first | ((with_reducible refine gate_dst (N := 2) rfl ?_); refine box_event ?hg (N := 2) ?hd (cs := #[.slice none 0 0, .slice none 0 0, .slice none 0 0]) (t := 40) ?hr ?_; (case hd => rfl); (case hg => rfl); (case hr => first | (go_simp; done) | (go_simp; rfl)); intro gs hg w1 hbox hb; have HBS := AM hbox; have HB1 := AM hb; have HGS := AM hg; clear hbox hb hg) | ((with_reducible refine gate_dst (N := 3) rfl ?_); refine box_event ?hg (N := 3) ?hd (cs := #[.nilIface]) (t := 74) ?hr ?_; (case hd => rfl); (case hg => rfl); (case hr => first | (go_simp; done) | (go_simp; rfl)); intro ge hg w2 hbox hb; have HBE := AM hbox; have HB2 := AM (below_step HB1.out hb); have HGE := AM (show w.heap.size ≤ ge from by rw [hg]; exact HB1.out.size); have HNE := AM (show gs ≠ ge from by rw [hg]; exact Nat.ne_of_lt (blk_lt HBS.out)); replace HBS := AM (blk_below HBS.out hb); clear hbox hb hg) | ((with_reducible refine gate_dst (N := 7) rfl ?_); refine box_event ?hg (N := 7) ?hd (cs := #[.slice A b.length c, .int .i64 0]) (t := 98) ?hr ?_; (case hd => rfl); (case hg => rfl); (case hr => first | (go_simp; done) | (go_simp; rfl)); intro gB hg w3 hbox hb; have HIB := AM (show IsS98 w w3 gB b 0 from ⟨A, c, hbox, by rw [hg]; exact HB2.out.size, HC.out⟩); have HB3 := AM (below_step HB2.out hb); replace HBS := AM (blk_below HBS.out hb); replace HBE := AM (blk_below HBE.out hb); have HW2 := AM hb; clear hbox hb hg) | ((with_reducible refine gate_callee (f := 54) rfl ?_); refine goesLX_ rfl Tryd.func54 (by kernel_rfl) rfl #[.pointer (some ⟨gB, 0, none⟩)] rfl hM ?_; refine (scene_calls gB b _ w _ HIB.out HB3.out HOB.out HX.out).mono ?_; rintro e w4 hR; obtain ⟨gf, rfl, hF, hg, hb, hk⟩ := hR; have HF := AM hF; have HGF := AM (Nat.le_trans HB3.out.size hg); have HBS4 := AM (hk.blk HBS.out (HIB.out.ne_blk HBS.out (by decide)).symm (by simp)); have HBE4 := AM (hk.blk HBE.out (HIB.out.ne_blk HBE.out (by decide)).symm (by simp)); have HNF := AM (show gs ≠ gf from by have := blk_lt HBS.out; omega); have HNG := AM (show ge ≠ gf from by have := blk_lt HBE.out; omega); have HB4 := AM hb; clear hF hg hb hk HIB HBS HBE HB3; refine ⟨_, rfl, ?_⟩))
  refine leaves_cons (f := 53) (args := #[.pointer (some ⟨gs, 0, none⟩), .pointer (some ⟨ge, 0, none⟩)]) (by simp) (by simp [go_sem]) ?_
  refine (catch_fault gs ge gf [] w4 _ _ _ _ HBS4.out HBE4.out).mono ?_
  rintro e u' w'' ⟨rfl, rfl, rfl⟩
  obtain ⟨k1, k2, k3, k4⟩ := read_end (w := w) (v0 := .slice none 0 0) (v1 := .slice none 0 0) (v2 := .slice none 0 0) (u := .iface 77 (.pointer (some ⟨gf, 0, none⟩))) HBS4.out HBE4.out HNE.out HB4.out (Nat.le_of_eq HGS.out.symm) HGE.out
  exact ⟨_, read_vals (by rfl) (by rfl) k1 k2, gf, rfl, (k4 gf HNF.out.symm HNG.out.symm).trans HF.out, HGF.out, k3⟩
section
open Go.Extern.Stop Go.Stop Go.Extern
/-- errors.As(nil, target). -/
theorem as_nil (t : Value) (w : World) :
  Calls Tryd.prog 35 #[.nilIface, t] w fun e w' => e = .returned (.bool false) ∧ w' = w := by
 go_enter Tryd.func35, Tryd.ntmps35
 go_wp2
 go_ret
 exact ⟨rfl, rfl⟩

theorem asf_valueOf27 (t : Addr) (w : World) : (ReflectliteValue.unpack (.iface 79 (.pointer (some t)))).run Tryd.prog w
  = .ok (.agg #[.pointer (some ⟨5, 79, none⟩), .pointer (some ⟨w.heap.size, 0, none⟩), .int .u64 150]) (w.alloc (.cells #[.pointer (some t)] 79)) := by kernel_rfl
theorem asf_type27 (a : Addr) (w : World) : (ReflectliteValue.methodAny (ReflectliteValue.valueError "reflectlite.Value.Type" 0) (fun t _ _ _ => ReflectliteType.toType t) #[.agg #[.pointer (some ⟨5, 79, none⟩), .pointer (some a), .int .u64 150]]).run Tryd.prog w
  = .ok (.iface 124 (.agg #[.pointer (some ⟨5, 79, none⟩)])) w := by kernel_rfl
theorem asf_methodKind (h : Value) (w : World) : (Go.method 290 124 (.agg #[h]) "Kind").run Tryd.prog w = .ok (106, h) w := by kernel_rfl
theorem asf_kind27 (w : World) : ((ReflectliteType.abiMethod fun t => (fun a : Nat => Value.int IntKind.u8 (a : Int)) <$> Rtype.kind t) #[.pointer (some ⟨5, 79, none⟩)]).run Tryd.prog w = .ok (.int .u8 22) w := by kernel_rfl
theorem asf_kind25 (w : World) : ((ReflectliteType.abiMethod fun t => (fun a : Nat => Value.int IntKind.u8 (a : Int)) <$> Rtype.kind t) #[.pointer (some ⟨5, 77, none⟩)]).run Tryd.prog w = .ok (.int .u8 22) w := by kernel_rfl

theorem rlm (z : Sem Value) (f : TypeId → Addr → Nat → Nat → Sem Value) (v : Value) :
  ReflectliteValue.method z f #[v] = (do match ← ReflectliteValue.parts v with | none => z | some (t, a, fl) => f t a fl (fl % 32)) := rfl
theorem asf_parts27 (a : Addr) (w : World) : (ReflectliteValue.parts (.agg #[.pointer (some ⟨5, 79, none⟩), .pointer (some a), .int .u64 150])).run Tryd.prog w = .ok (some (79, a, 150)) w := by kernel_rfl
/-- (Value).IsNil at the Value of a **p.E that is not nil. -/
theorem asf_isNil27 (a p : Addr) (W : World) (ha : W.cell? a = some (.pointer (some p))) :
  (ReflectliteValue.method (ReflectliteValue.valueError "reflectlite.Value.IsNil" 0) ReflectliteValue.isNil #[.agg #[.pointer (some ⟨5, 79, none⟩), .pointer (some a), .int .u64 150]]).run Tryd.prog W = .ok (.bool false) W := by
 rw [rlm]
 simp only [Sem.run_bind, asf_parts27, Result.andThen]
 simp [ReflectliteValue.isNil, loadVar, isAgg, underlying, Tryd.underlying79, ha, Result.andThen]

theorem asf_methodElem (h : Value) (w : World) : (Go.method 290 124 (.agg #[h]) "Elem").run Tryd.prog w = .ok (119, .agg #[h]) w := by kernel_rfl
theorem asf_methodImplements (h : Value) (w : World) : (Go.method 290 124 (.agg #[h]) "Implements").run Tryd.prog w = .ok (120, .agg #[h]) w := by kernel_rfl
theorem asf_methodAssignableTo (h : Value) (w : World) : (Go.method 290 124 (.agg #[h]) "AssignableTo").run Tryd.prog w = .ok (117, .agg #[h]) w := by kernel_rfl
theorem asf_elem27 (w : World) : (ReflectliteType.method ReflectliteType.elem #[.agg #[.pointer (some ⟨5, 79, none⟩)]]).run Tryd.prog w = .ok (.iface 124 (.agg #[.pointer (some ⟨5, 77, none⟩)])) w := by kernel_rfl
theorem asf_implements25 (w : World) : (ReflectliteType.relation "Implements" ReflectliteType.implements_ #[.agg #[.pointer (some ⟨5, 77, none⟩)], .iface 124 (.agg #[.pointer (some ⟨5, 74, none⟩)])]).run Tryd.prog w = .ok (.bool true) w := by kernel_rfl
theorem asf_typeOf25 (v : Value) (w : World) : (ReflectliteType.typeOf #[.iface 77 v]).run Tryd.prog w = .ok (.iface 124 (.agg #[.pointer (some ⟨5, 77, none⟩)])) w := by kernel_rfl
theorem asf_assignable25 (w : World) : (ReflectliteType.relation "AssignableTo" ReflectliteType.assignableTo #[.agg #[.pointer (some ⟨5, 77, none⟩)], .iface 124 (.agg #[.pointer (some ⟨5, 77, none⟩)])]).run Tryd.prog w = .ok (.bool true) w := by kernel_rfl
theorem asf_valueOf25 (e : Addr) (w : World) : (ReflectliteValue.unpack (.iface 77 (.pointer (some e)))).run Tryd.prog w
  = .ok (.agg #[.pointer (some ⟨5, 77, none⟩), .pointer (some ⟨w.heap.size, 0, none⟩), .int .u64 150]) (w.alloc (.cells #[.pointer (some e)] 77)) := by kernel_rfl

theorem asf_elemOf27 (w : World) : (Rtype.elem? 79).run Tryd.prog w = .ok (some 77) w := by kernel_rfl
theorem asf_mk25 (p : Addr) (w : World) : (ReflectliteValue.mk 77 p ReflectliteValue.flagAddr).run Tryd.prog w = .ok (.agg #[.pointer (some ⟨5, 77, none⟩), .pointer (some p), .int .u64 406]) w := by kernel_rfl
/-- (Value).Elem at the Value of a **p.E that is not nil: the Value of the *p.E variable that it points to, addressable. -/
theorem asf_elemV27 (a p : Addr) (W : World) (ha : W.cell? a = some (.pointer (some p))) :
  (ReflectliteValue.method (ReflectliteValue.valueError "reflectlite.Value.Elem" 0) ReflectliteValue.elem #[.agg #[.pointer (some ⟨5, 79, none⟩), .pointer (some a), .int .u64 150]]).run Tryd.prog W
   = .ok (.agg #[.pointer (some ⟨5, 77, none⟩), .pointer (some p), .int .u64 406]) W := by
 rw [rlm]
 simp only [Sem.run_bind, asf_parts27, Result.andThen]
 simp [ReflectliteValue.elem, loadVar, isAgg, underlying, Tryd.underlying79, ha, Result.andThen, asf_elemOf27, asf_mk25]
theorem rls (v x : Value) : ReflectliteValue.set #[v, x] = (do
  let (some (dst, a, fl), some (src, b, _)) := (← ReflectliteValue.parts v, ← ReflectliteValue.parts x)
   | unsupported (.noEntry "extern/(internal/reflectlite.Value).Set.zeroValue")
  if fl / ReflectliteValue.flagAddr % 2 == 0 then unsupported (.noEntry "extern/(internal/reflectlite.Value).Set.unaddressable")
  let val ← loadVar src b
  if ← Rtype.directlyAssignable dst src then storeVar dst a val
  else if ← Rtype.implements dst src then
   if (← Rtype.kind src) == 20 then
    match val with
    | .nilIface => unsupported (.noEntry "extern/reflectlite: a nil value of one interface type handed on as a value of another")
    | _ => storeVar dst a val
   else storeVar dst a (.iface src val)
  else panicString ("reflectlite.Set: value of type " ++ (← Rtype.spelt src) ++ " is not assignable to type " ++ (← Rtype.spelt dst))
  pure (.tuple #[])) := rfl
theorem asf_parts25a (a : Addr) (w : World) : (ReflectliteValue.parts (.agg #[.pointer (some ⟨5, 77, none⟩), .pointer (some a), .int .u64 406])).run Tryd.prog w = .ok (some (77, a, 406)) w := by kernel_rfl
theorem asf_parts25 (a : Addr) (w : World) : (ReflectliteValue.parts (.agg #[.pointer (some ⟨5, 77, none⟩), .pointer (some a), .int .u64 150])).run Tryd.prog w = .ok (some (77, a, 150)) w := by kernel_rfl
theorem asf_direct25 (w : World) : (Rtype.directlyAssignable 77 77).run Tryd.prog w = .ok true w := by kernel_rfl
theorem asf_size25 (w : World) : (sizeOf 77).run Tryd.prog w = .ok 1 w := by kernel_rfl
/-- (Value).Set: the *p.E variable at 'ta' gets what the Value's own variable 'b' holds. -/
theorem asf_set25 (ta b e : Addr) (old : Value) (W : World) (hb : W.cell? b = some (.pointer (some e))) (ht : W.cell? ta = some old) (hf : W.frozen? ta = false) :
  (ReflectliteValue.set #[.agg #[.pointer (some ⟨5, 77, none⟩), .pointer (some ta), .int .u64 406], .agg #[.pointer (some ⟨5, 77, none⟩), .pointer (some b), .int .u64 150]]).run Tryd.prog W
   = .ok (.tuple #[]) (W.setCell ta (.pointer (some e))) := by
 rw [rls]
 simp only [Sem.run_bind, asf_parts25a, asf_parts25, Result.andThen]
 simp [ReflectliteValue.flagAddr, loadVar, isAgg, underlying, Tryd.underlying77, hb, Result.andThen, asf_direct25, storeVar, Value.cells, storeCells, Addr.add]
 rw [run_store Tryd.prog W ta _ _ (by rfl)]
 simp [ht, hf]

set_option maxHeartbeats 4000000 in
theorem as_hit (e t : Addr) (old : Value) (w : World) (hg : w.cell? ⟨0, 0, none⟩ = some (.iface 124 (.agg #[.pointer (some ⟨5, 74, none⟩)]))) (ht0 : w.cell? t = some old) (hf0 : w.frozen? t = false) :
  Calls Tryd.prog 35 #[.iface 77 (.pointer (some e)), .iface 79 (.pointer (some t))] w fun ev w' => ev = .returned (.bool true) ∧ w' = ((((w.alloc (.cells #[.pointer (some t)] 79)).alloc (.cells #[.pointer (some ⟨5, 79, none⟩), .pointer (some ⟨w.heap.size, 0, none⟩), .int .u64 150] 103)).alloc (.cells #[.pointer (some ⟨5, 79, none⟩), .pointer (some ⟨w.heap.size, 0, none⟩), .int .u64 150] 103)).alloc (.cells #[.pointer (some e)] 77)).setCell t (.pointer (some e)) := by
 have h6 := @run_callFunc_extern Tryd.prog 55 _ (fun args => ReflectliteValue.unpack (args.getD 0 (.tuple #[]))) Tryd.func55 (by kernel_rfl) (by kernel_rfl) (by kernel_rfl) (by kernel_rfl)
 have h7 := @run_callFunc_extern Tryd.prog 56 _ (ReflectliteValue.methodAny (ReflectliteValue.valueError "reflectlite.Value.Type" 0) (fun t _ _ _ => ReflectliteType.toType t)) Tryd.func56 (by kernel_rfl) (by kernel_rfl) (by kernel_rfl) (by kernel_rfl)
 have h8 := @run_callFunc_extern Tryd.prog 57 _ (ReflectliteValue.method (ReflectliteValue.valueError "reflectlite.Value.IsNil" 0) ReflectliteValue.isNil) Tryd.func57 (by kernel_rfl) (by kernel_rfl) (by kernel_rfl) (by kernel_rfl)
 have h27 := @run_callFunc_extern Tryd.prog 106 _ (ReflectliteType.abiMethod fun t => do pure (.int .u8 (← Rtype.kind t))) Tryd.func106 (by kernel_rfl) (by kernel_rfl) (by kernel_rfl) (by kernel_rfl)
 have h37 := @run_callFunc_extern Tryd.prog 119 _ (ReflectliteType.method ReflectliteType.elem) Tryd.func119 (by kernel_rfl) (by kernel_rfl) (by kernel_rfl) (by kernel_rfl)
 have h38 := @run_callFunc_extern Tryd.prog 120 _ (ReflectliteType.relation "Implements" ReflectliteType.implements_) Tryd.func120 (by kernel_rfl) (by kernel_rfl) (by kernel_rfl) (by kernel_rfl)
 have h10 := @run_callFunc_extern Tryd.prog 69 _ ReflectliteType.typeOf Tryd.func69 (by kernel_rfl) (by kernel_rfl) (by kernel_rfl) (by kernel_rfl)
 have h35 := @run_callFunc_extern Tryd.prog 117 _ (ReflectliteType.relation "AssignableTo" ReflectliteType.assignableTo) Tryd.func117 (by kernel_rfl) (by kernel_rfl) (by kernel_rfl) (by kernel_rfl)
 have h11 := @run_callFunc_extern Tryd.prog 70 _ (ReflectliteValue.method (ReflectliteValue.valueError "reflectlite.Value.Elem" 0) ReflectliteValue.elem) Tryd.func70 (by kernel_rfl) (by kernel_rfl) (by kernel_rfl) (by kernel_rfl)
 have h12 := @run_callFunc_extern Tryd.prog 71 _ ReflectliteValue.set Tryd.func71 (by kernel_rfl) (by kernel_rfl) (by kernel_rfl) (by kernel_rfl)
 have tO := asf_typeOf25
 have mA := asf_methodAssignableTo
 have a25 := asf_assignable25
 have v25 := asf_valueOf25
 have f6 := asf_valueOf27
 have f7 := asf_type27
 have mK := asf_methodKind
 have mE := asf_methodElem
 have mI := asf_methodImplements
 have k27 := asf_kind27
 have k25 := asf_kind25
 have e27 := asf_elem27
 have i25 := asf_implements25
 have n8 := asf_isNil27 ⟨w.heap.size, 0, none⟩ t ((w.alloc (.cells #[.pointer (some t)] 79)).alloc (.cells #[.pointer (some ⟨5, 79, none⟩), .pointer (some ⟨w.heap.size, 0, none⟩), .int .u64 150] 103)) (by simp)
 have hlt := World.block_lt_of_cell? w _ hg
 have hg2 : ((w.alloc (.cells #[.pointer (some t)] 79)).alloc (.cells #[.pointer (some ⟨5, 79, none⟩), .pointer (some ⟨w.heap.size, 0, none⟩), .int .u64 150] 103)).cell? ⟨0, 0, none⟩ = some (.iface 124 (.agg #[.pointer (some ⟨5, 74, none⟩)])) := by
  rw [World.cell?_alloc_lt _ _ ⟨0, 0, none⟩ (by first | (simp; done) | (have := hlt; simp at this ⊢; omega)), World.cell?_alloc_lt _ _ ⟨0, 0, none⟩ hlt]; exact hg
 have htl : t.block < w.heap.size := by
  rcases Nat.lt_or_ge t.block w.heap.size with h | h
  ·exact h
  ·simp [World.cell?, Array.getElem?_eq_none h] at ht0
 have el := asf_elemV27 ⟨w.heap.size, 0, none⟩ t (((w.alloc (.cells #[.pointer (some t)] 79)).alloc (.cells #[.pointer (some ⟨5, 79, none⟩), .pointer (some ⟨w.heap.size, 0, none⟩), .int .u64 150] 103)).alloc (.cells #[.pointer (some ⟨5, 79, none⟩), .pointer (some ⟨w.heap.size, 0, none⟩), .int .u64 150] 103)) (by rw [World.cell?_alloc_lt _ _ ⟨w.heap.size, 0, none⟩ (by simp; omega)]; simp)
 have st := asf_set25 t ⟨w.heap.size + 1 + 1 + 1, 0, none⟩ e old ((((w.alloc (.cells #[.pointer (some t)] 79)).alloc (.cells #[.pointer (some ⟨5, 79, none⟩), .pointer (some ⟨w.heap.size, 0, none⟩), .int .u64 150] 103)).alloc (.cells #[.pointer (some ⟨5, 79, none⟩), .pointer (some ⟨w.heap.size, 0, none⟩), .int .u64 150] 103)).alloc (.cells #[.pointer (some e)] 77))
  (by rw [World.cell?_alloc_at _ _ _ _ (by simp)]; rfl)
  (by rw [World.cell?_alloc_lt _ _ t (by simp; omega), World.cell?_alloc_lt _ _ t (by simp; omega), World.cell?_alloc_lt _ _ t (by simp; omega), World.cell?_alloc_lt _ _ t htl]; exact ht0)
  (by rw [World.frozen?_alloc_old _ _ t (by simp; omega), World.frozen?_alloc_old _ _ t (by simp; omega), World.frozen?_alloc_old _ _ t (by simp; omega), World.frozen?_alloc_old _ _ t (Nat.ne_of_lt htl)]; exact hf0)
 go_enter Tryd.func35, Tryd.ntmps35
 go_wp2
 refine wp_loop_rounds 1 ?_
 rw [rounds_succ]
 go_wp2
 go_ret
 exact ⟨rfl, rfl⟩
end
/-! ### DecodeScene -/
def HandleW (w : World) : Prop := w.cell? ⟨0, 0, none⟩ = some (.iface 124 (.agg #[.pointer (some ⟨5, 74, none⟩)]))
theorem handle_below {w w' : World} (h : HandleW w) (hb : Below w.heap.size w w') : HandleW w' := (hb.cell (World.block_lt_of_cell? w _ h)).trans h
theorem as_box (gf gF : Nat) (w w0 : World) (B : Nat) (hg : HandleW w) (hF : w.heap[gF]? = some (.cells #[.pointer none] 77 (0, 0))) (hB : Below B w0 w) (hle : B ≤ gF) :
  Calls Tryd.prog 35 #[.iface 77 (.pointer (some ⟨gf, 0, none⟩)), .iface 79 (.pointer (some ⟨gF, 0, none⟩))] w fun ev w' => ev = .returned (.bool true) ∧ w'.heap[gF]? = some (.cells #[.pointer (some ⟨gf, 0, none⟩)] 77 (0, 0)) ∧ (∀ k, k < w.heap.size → k ≠ gF → w'.heap[k]? = w.heap[k]?) ∧ Below B w0 w' := by
 have hlt := blk_lt hF
 refine (as_hit ⟨gf, 0, none⟩ ⟨gF, 0, none⟩ (.pointer none) w hg ((blk_cell hF 0).trans rfl) (blk_frozen hF 0)).mono ?_
 rintro ev w' ⟨rfl, rfl⟩
 refine ⟨rfl, ?_, fun k hk hne => ?_, ?_⟩
 ·exact blk_put (cs := #[.pointer none]) (blk_alloc (blk_alloc (blk_alloc (blk_alloc hF _) _) _) _) 0 _ rfl
 ·refine (Below.heap_setCell _ ⟨gF, 0, none⟩ _ k hne).trans ?_
  rw [Below.heap_alloc _ _ k (by simp; omega), Below.heap_alloc _ _ k (by simp; omega), Below.heap_alloc _ _ k (by simp; omega), Below.heap_alloc _ _ k hk]
 ·exact (((((hB.alloc (by omega) _).alloc (by simp; omega) _).alloc (by simp; omega) _).alloc (by simp; omega) _).setCell (p := ⟨gF, 0, none⟩) hle _)
def decE (b : List Int) : List S70 × List S72 × List S67 × Int × Int :=
 match sceneE b with
 | .ok r => (r.1, r.2.1, r.2.2, 0, 0)
 | .error e => ([], [], [], e.1, e.2)
def impl_DecodeScene.f (l0 : List Int) : Option (List S70 × List S72 × List S67 × Int × Int) := if okB l0 = true then some (decE l0) else none
theorem impl_DecodeScene.calls (A0 : Option Addr) (c0 : Nat) (l0 : List Int) (r1 : List S70) (r2 : List S72) (r3 : List S67) (r4 r5 : Int) (w : World) (hh : HandleW w) (hr0 : Kd.C (Kd.int .u8) w A0 l0.length l0) (hc0 : l0.length ≤ c0) (h : impl_DecodeScene.f l0 = some (r1, r2, r3, r4, r5)) :
  Calls Tryd.prog 16 #[.slice A0 l0.length c0] w fun e w' => ∃ v0_ v1_ v2_ : Value, e = .returned (.tuple #[.agg #[v0_, v1_, v2_], .int .i64 r4, .int .i64 r5]) ∧ Kd.R k70 70 w' w.heap.size (fun _ => True) v0_ r1 ∧ Kd.R k72 72 w' w.heap.size (fun _ => True) v1_ r2 ∧ Kd.R k67 67 w' w.heap.size (fun _ => True) v2_ r3 ∧ Below w.heap.size w w' := by
 have hu40 := Tryd.underlying40; have hu81 := Tryd.underlying81
 have HC := AM hr0; have HH := AM hh
 clear hr0 hh
 unfold impl_DecodeScene.f at h
 by_cases hok : okB l0 = true
 rotate_left
 ·rw [if_neg hok] at h
  cases h
 rw [if_pos hok] at h
 have HOB := AM (okB_spec hok)
 replace h := Option.some.inj h
 unfold decE at h
 clear hok
 cases hx : sceneE l0 with
 | ok r =>
  rw [hx] at h
  obtain ⟨T, R, L⟩ := r
  have HX := AM hx
  clear hx
  injection h with h1 h
  injection h with h2 h
  injection h with h3 h
  injection h with h4 h5
  dsimp only at h1 h2 h3
  subst h1
  subst h2
  subst h3
  subst h4
  subst h5
  go_enter Tryd.func16, Tryd.ntmps16
  go_wp2_with (first | ((with_reducible refine gate_dst (N := 2) rfl ?_); refine box_event ?hg (N := 2) ?hd (cs := #[.slice none 0 0, .slice none 0 0, .slice none 0 0]) (t := 40) ?hr ?_; (case hd => rfl); (case hg => rfl); (case hr => first | (go_simp; done) | (go_simp; rfl)); intro gR hg w1 hbox hb; have HBR := AM hbox; have HB1 := AM hb; have HGR := AM hg; clear hbox hb hg) | ((with_reducible refine gate_callee (f := 34) rfl ?_); refine goesL_ (some 10) rfl rfl Tryd.func34 (by kernel_rfl) rfl #[.slice A0 l0.length c0] rfl hM ?_; refine (readScene_calls A0 c0 l0 _ w1 (Kd.C_below HC.out HB1.out) HOB.out HX.out).mono ?_; rintro e w2 hR; obtain ⟨v0, v1, v2, rfl, hr0, hr1, hr2, hb⟩ := hR; replace HBR := AM (blk_below HBR.out hb); have HR0 := AM (Kd.R_lower hr0 HB1.out.size); have HR1 := AM (Kd.R_lower hr1 HB1.out.size); have HR2 := AM (Kd.R_lower hr2 HB1.out.size); have HB2 := AM (below_step HB1.out hb); clear hr0 hr1 hr2 hb; obtain ⟨A1, c1, e1⟩ := Kd.R_slice HR0.out; obtain ⟨A2, c2, e2⟩ := Kd.R_slice HR1.out; obtain ⟨A3, c3, e3⟩ := Kd.R_slice HR2.out; subst e1; subst e2; subst e3; refine ⟨_, rfl, ?_⟩) | ((with_reducible refine gate_dst (N := 5) rfl ?_); refine box_event ?hg (N := 5) ?hd (cs := #[.slice none 0 0, .slice none 0 0, .slice none 0 0]) (t := 40) ?hr ?_; (case hd => rfl); (case hg => rfl); (case hr => first | (go_simp; done) | (go_simp; rfl)); intro gS hg w3 hbox hb; have HBS := AM hbox; have HNS := AM (show gR ≠ gS from by have := blk_lt HBR.out; omega); have HGS := AM (show w.heap.size ≤ gS from by rw [hg]; exact HB2.out.size); replace HBR := AM (blk_below HBR.out hb); replace HR0 := AM (Kd.R_below HR0.out hb); replace HR1 := AM (Kd.R_below HR1.out hb); replace HR2 := AM (Kd.R_below HR2.out hb); have HB3 := AM (below_step HB2.out hb); have hcs_0 : w3.cell? ⟨gS, 0, none⟩ = some (.slice none 0 0) := (blk_cell HBS.out 0).trans rfl; have hfs_0 := blk_frozen HBS.out 0; have hcs_1 : w3.cell? ⟨gS, 1, none⟩ = some (.slice none 0 0) := (blk_cell HBS.out 1).trans rfl; have hfs_1 := blk_frozen HBS.out 1; have hcs_2 : w3.cell? ⟨gS, 2, none⟩ = some (.slice none 0 0) := (blk_cell HBS.out 2).trans rfl; have hfs_2 := blk_frozen HBS.out 2; clear hbox hb hg) | ((with_reducible refine gate_store (t := 40) (p := 5) rfl ?_); refine store_event (t := 40) (p := 5) (v := ?vo_ok) (w1 := (((w3.setCell ⟨gS, 0, none⟩ (.slice A1 T.length c1)).setCell ⟨gS, 1, none⟩ (.slice A2 R.length c2)).setCell ⟨gS, 2, none⟩ (.slice A3 L.length c3))) ?hg ?ho ?hn ?hr ?_; (case ho => rfl); (case hg => rfl); (case hn => rfl); (case hr => first | (go_simp; done) | (go_simp; rfl)); intro w4 hw; have hp := AM (blk_put (cs' := #[.slice A1 T.length c1, .slice A2 R.length c2, .slice A3 L.length c3]) (blk_put (cs' := #[.slice A1 T.length c1, .slice A2 R.length c2, .slice none 0 0]) (blk_put (cs' := #[.slice A1 T.length c1, .slice none 0 0, .slice none 0 0]) HBS.out 0 (.slice A1 T.length c1) rfl) 1 (.slice A2 R.length c2) rfl) 2 (.slice A3 L.length c3) rfl); have hq := AM (blk_far (blk_far (blk_far HBR.out (p := ⟨gS, 0, none⟩) HNS.out (.slice A1 T.length c1)) (p := ⟨gS, 1, none⟩) HNS.out (.slice A2 R.length c2)) (p := ⟨gS, 2, none⟩) HNS.out (.slice A3 L.length c3)); have hb := AM (((HB3.out.setCell (p := ⟨gS, 0, none⟩) HGS.out (.slice A1 T.length c1)).setCell (p := ⟨gS, 1, none⟩) HGS.out (.slice A2 R.length c2)).setCell (p := ⟨gS, 2, none⟩) HGS.out (.slice A3 L.length c3)); have HMV := AM (And.intro (Kd.R_set (Kd.R_set (Kd.R_set HR0.out HBS.out (by decide) 0 (.slice A1 T.length c1)) (blk_put (cs' := #[.slice A1 T.length c1, .slice none 0 0, .slice none 0 0]) HBS.out 0 (.slice A1 T.length c1) rfl) (by decide) 1 (.slice A2 R.length c2)) (blk_put (cs' := #[.slice A1 T.length c1, .slice A2 R.length c2, .slice none 0 0]) (blk_put (cs' := #[.slice A1 T.length c1, .slice none 0 0, .slice none 0 0]) HBS.out 0 (.slice A1 T.length c1) rfl) 1 (.slice A2 R.length c2) rfl) (by decide) 2 (.slice A3 L.length c3)) (And.intro (Kd.R_set (Kd.R_set (Kd.R_set HR1.out HBS.out (by decide) 0 (.slice A1 T.length c1)) (blk_put (cs' := #[.slice A1 T.length c1, .slice none 0 0, .slice none 0 0]) HBS.out 0 (.slice A1 T.length c1) rfl) (by decide) 1 (.slice A2 R.length c2)) (blk_put (cs' := #[.slice A1 T.length c1, .slice A2 R.length c2, .slice none 0 0]) (blk_put (cs' := #[.slice A1 T.length c1, .slice none 0 0, .slice none 0 0]) HBS.out 0 (.slice A1 T.length c1) rfl) 1 (.slice A2 R.length c2) rfl) (by decide) 2 (.slice A3 L.length c3)) (Kd.R_set (Kd.R_set (Kd.R_set HR2.out HBS.out (by decide) 0 (.slice A1 T.length c1)) (blk_put (cs' := #[.slice A1 T.length c1, .slice none 0 0, .slice none 0 0]) HBS.out 0 (.slice A1 T.length c1) rfl) (by decide) 1 (.slice A2 R.length c2)) (blk_put (cs' := #[.slice A1 T.length c1, .slice A2 R.length c2, .slice none 0 0]) (blk_put (cs' := #[.slice A1 T.length c1, .slice none 0 0, .slice none 0 0]) HBS.out 0 (.slice A1 T.length c1) rfl) 1 (.slice A2 R.length c2) rfl) (by decide) 2 (.slice A3 L.length c3)))); rw [← hw] at hp hq hb HMV; clear hw HBS HBR HB3 hcs_0 hcs_1 hcs_2 hfs_0 hfs_1 hfs_2; have HBS := hp; have HBR := hq; have HB4 := hb; clear hp hq hb) | ((with_reducible refine gate_dst (N := 7) rfl ?_); refine box_event ?hg (N := 7) ?hd (cs := #[.pointer none]) (t := 77) ?hr ?_; (case hd => rfl); (case hg => rfl); (case hr => first | (go_simp; done) | (go_simp; rfl)); intro gF hg w5 hbox hb; have HBF := AM hbox; have HNR := AM (show gR ≠ gF from by have := blk_lt HBR.out; omega); have HNG := AM (show gS ≠ gF from by have := blk_lt HBS.out; omega); have HGF := AM (show w.heap.size ≤ gF from by rw [hg]; exact HB4.out.size); replace HBR := AM (blk_below HBR.out hb); replace HBS := AM (blk_below HBS.out hb); have HMV := AM (And.intro (Kd.R_below HMV.out.1 hb) (And.intro (Kd.R_below HMV.out.2.1 hb) (Kd.R_below HMV.out.2.2 hb))); have HB5 := AM (below_step HB4.out hb); clear hbox hb hg) | ((with_reducible refine gate_callee (f := 35) rfl ?_); refine goesL_ (some 15) rfl rfl Tryd.func35 (by kernel_rfl) rfl #[.nilIface, .iface 79 (.pointer (some ⟨gF, 0, none⟩))] rfl hM ?_; (with_reducible refine (as_nil _ _).mono ?_); rintro e w6 ⟨rfl, rfl⟩; have hcs_0 : w6.cell? ⟨gS, 0, none⟩ = some (.slice A1 T.length c1) := (blk_cell HBS.out 0).trans rfl; have hcr_0 : w6.cell? ⟨gR, 0, none⟩ = some (.slice none 0 0) := (blk_cell HBR.out 0).trans rfl; have hfr_0 := blk_frozen HBR.out 0; have hcs_1 : w6.cell? ⟨gS, 1, none⟩ = some (.slice A2 R.length c2) := (blk_cell HBS.out 1).trans rfl; have hcr_1 : w6.cell? ⟨gR, 1, none⟩ = some (.slice none 0 0) := (blk_cell HBR.out 1).trans rfl; have hfr_1 := blk_frozen HBR.out 1; have hcs_2 : w6.cell? ⟨gS, 2, none⟩ = some (.slice A3 L.length c3) := (blk_cell HBS.out 2).trans rfl; have hcr_2 : w6.cell? ⟨gR, 2, none⟩ = some (.slice none 0 0) := (blk_cell HBR.out 2).trans rfl; have hfr_2 := blk_frozen HBR.out 2; refine ⟨_, rfl, ?_⟩))
  have k0 := blk_put (cs' := #[.slice A1 T.length c1, .slice none 0 0, .slice none 0 0]) HBR.out 0 (.slice A1 T.length c1) rfl
  have k1 := blk_put (cs' := #[.slice A1 T.length c1, .slice A2 R.length c2, .slice none 0 0]) k0 1 (.slice A2 R.length c2) rfl
  have k2 := blk_put (cs' := #[.slice A1 T.length c1, .slice A2 R.length c2, .slice A3 L.length c3]) k1 2 (.slice A3 L.length c3) rfl
  refine bodyPost_ret (results_ctt rfl _ _ gR 40 #[.slice A1 T.length c1, .slice A2 R.length c2, .slice A3 L.length c3] (0, 0) _ rfl k2 Tryd.underlying40 rfl (by kernel_rfl)) rfl ?_
  have hle := Nat.le_of_eq HGR.out.symm
  exact ⟨_, _, _, rfl, Kd.R_set (Kd.R_set (Kd.R_set HMV.out.1 HBR.out (by decide) 0 _) k0 (by decide) 1 _) k1 (by decide) 2 _, Kd.R_set (Kd.R_set (Kd.R_set HMV.out.2.1 HBR.out (by decide) 0 _) k0 (by decide) 1 _) k1 (by decide) 2 _, Kd.R_set (Kd.R_set (Kd.R_set HMV.out.2.2 HBR.out (by decide) 0 _) k0 (by decide) 1 _) k1 (by decide) 2 _, ((HB5.out.setCell (p := ⟨gR, 0, none⟩) hle _).setCell (p := ⟨gR, 1, none⟩) hle _).setCell (p := ⟨gR, 2, none⟩) hle _⟩
 | error er =>
  rw [hx] at h
  obtain ⟨ec, ea⟩ := er
  have HX := AM hx
  clear hx
  injection h with h1 h
  injection h with h2 h
  injection h with h3 h
  injection h with h4 h5
  subst h1
  subst h2
  subst h3
  subst h4
  subst h5
  go_enter Tryd.func16, Tryd.ntmps16
  go_wp2_with (first | ((with_reducible refine gate_dst (N := 2) rfl ?_); refine box_event ?hg (N := 2) ?hd (cs := #[.slice none 0 0, .slice none 0 0, .slice none 0 0]) (t := 40) ?hr ?_; (case hd => rfl); (case hg => rfl); (case hr => first | (go_simp; done) | (go_simp; rfl)); intro gR hg w1 hbox hb; have HBR := AM hbox; have HB1 := AM hb; have HGR := AM hg; clear hbox hb hg) | ((with_reducible refine gate_callee (f := 34) rfl ?_); refine goesL_ (some 10) rfl rfl Tryd.func34 (by kernel_rfl) rfl #[.slice A0 l0.length c0] rfl hM ?_; refine (readScene_calls A0 c0 l0 _ w1 (Kd.C_below HC.out HB1.out) HOB.out HX.out).mono ?_; rintro e w2 hR; obtain ⟨gf, rfl, hF, hgf, hb⟩ := hR; have HNfR := AM (show gf ≠ gR from by have := blk_lt HBR.out; omega); replace HBR := AM (blk_below HBR.out hb); have HF := AM hF; have HB2 := AM (below_step HB1.out hb); clear hF hgf hb; refine ⟨_, rfl, ?_⟩) | ((with_reducible refine gate_dst (N := 5) rfl ?_); refine box_event ?hg (N := 5) ?hd (cs := #[.slice none 0 0, .slice none 0 0, .slice none 0 0]) (t := 40) ?hr ?_; (case hd => rfl); (case hg => rfl); (case hr => first | (go_simp; done) | (go_simp; rfl)); intro gS hg w3 hbox hb; have HBS := AM hbox; have HNS := AM (show gR ≠ gS from by have := blk_lt HBR.out; omega); have HGS := AM (show w.heap.size ≤ gS from by rw [hg]; exact HB2.out.size); replace HBR := AM (blk_below HBR.out hb); have HNF := AM (show gf ≠ gS from by have := blk_lt HF.out; omega); replace HF := AM (blk_below HF.out hb); have HB3 := AM (below_step HB2.out hb); have hcs_0 : w3.cell? ⟨gS, 0, none⟩ = some (.slice none 0 0) := (blk_cell HBS.out 0).trans rfl; have hfs_0 := blk_frozen HBS.out 0; have hcs_1 : w3.cell? ⟨gS, 1, none⟩ = some (.slice none 0 0) := (blk_cell HBS.out 1).trans rfl; have hfs_1 := blk_frozen HBS.out 1; have hcs_2 : w3.cell? ⟨gS, 2, none⟩ = some (.slice none 0 0) := (blk_cell HBS.out 2).trans rfl; have hfs_2 := blk_frozen HBS.out 2; clear hbox hb hg) | ((with_reducible refine gate_store (t := 40) (p := 5) rfl ?_); refine store_event (t := 40) (p := 5) (v := ?vo_er) (w1 := (((w3.setCell ⟨gS, 0, none⟩ (.slice none 0 0)).setCell ⟨gS, 1, none⟩ (.slice none 0 0)).setCell ⟨gS, 2, none⟩ (.slice none 0 0))) ?hg ?ho ?hn ?hr ?_; (case ho => rfl); (case hg => rfl); (case hn => rfl); (case hr => first | (go_simp; done) | (go_simp; rfl)); intro w4 hw; have hp := AM (blk_put (cs' := #[.slice none 0 0, .slice none 0 0, .slice none 0 0]) (blk_put (cs' := #[.slice none 0 0, .slice none 0 0, .slice none 0 0]) (blk_put (cs' := #[.slice none 0 0, .slice none 0 0, .slice none 0 0]) HBS.out 0 (.slice none 0 0) rfl) 1 (.slice none 0 0) rfl) 2 (.slice none 0 0) rfl); have hq := AM (blk_far (blk_far (blk_far HBR.out (p := ⟨gS, 0, none⟩) HNS.out (.slice none 0 0)) (p := ⟨gS, 1, none⟩) HNS.out (.slice none 0 0)) (p := ⟨gS, 2, none⟩) HNS.out (.slice none 0 0)); have hb := AM (((HB3.out.setCell (p := ⟨gS, 0, none⟩) HGS.out (.slice none 0 0)).setCell (p := ⟨gS, 1, none⟩) HGS.out (.slice none 0 0)).setCell (p := ⟨gS, 2, none⟩) HGS.out (.slice none 0 0)); have hfs : gf ≠ gS := HNF.out; have HMV := AM (((Below.heap_setCell _ ⟨gS, 2, none⟩ (.slice none 0 0) gf hfs).trans ((Below.heap_setCell _ ⟨gS, 1, none⟩ (.slice none 0 0) gf hfs).trans (Below.heap_setCell _ ⟨gS, 0, none⟩ (.slice none 0 0) gf hfs))).trans HF.out); rw [← hw] at hp hq hb HMV; clear hw HBS HBR HB3 hcs_0 hcs_1 hcs_2 hfs_0 hfs_1 hfs_2; have HBS := hp; have HBR := hq; have HB4 := hb; clear hp hq hb) | ((with_reducible refine gate_dst (N := 7) rfl ?_); refine box_event ?hg (N := 7) ?hd (cs := #[.pointer none]) (t := 77) ?hr ?_; (case hd => rfl); (case hg => rfl); (case hr => first | (go_simp; done) | (go_simp; rfl)); intro gF hg w5 hbox hb; have HBF := AM hbox; have HNR := AM (show gR ≠ gF from by have := blk_lt HBR.out; omega); have HNG := AM (show gS ≠ gF from by have := blk_lt HBS.out; omega); have HGF := AM (show w.heap.size ≤ gF from by rw [hg]; exact HB4.out.size); replace HBR := AM (blk_below HBR.out hb); replace HBS := AM (blk_below HBS.out hb); have HNX := AM (show gf ≠ gF from by have := blk_lt HMV.out; omega); replace HMV := AM (blk_below HMV.out hb); have HB5 := AM (below_step HB4.out hb); clear hbox hb hg) | ((with_reducible refine gate_callee (f := 35) rfl ?_); refine goesL_ (some 15) rfl rfl Tryd.func35 (by kernel_rfl) rfl #[.iface 77 (.pointer (some ⟨gf, 0, none⟩)), .iface 79 (.pointer (some ⟨gF, 0, none⟩))] rfl hM ?_; refine (as_box gf gF w5 w w.heap.size (handle_below HH.out HB5.out) HBF.out HB5.out HGF.out).mono ?_; rintro e w6 ⟨rfl, hbf, hk, hb⟩; have HBF6 := AM hbf; have HBR6 := AM ((hk gR (blk_lt HBR.out) HNR.out).trans HBR.out); have HF6 := AM ((hk gf (blk_lt HMV.out) HNX.out).trans HMV.out); have HB6 := AM hb; clear hbf hk hb HBF HBR HMV HBS; refine ⟨_, rfl, ?_⟩))
  replace HBF6 := AM (blk_drew HBF6.out); replace HF6 := AM (blk_drew HF6.out); replace HBR6 := AM (blk_drew HBR6.out); replace HB6 := AM (below_drew1 HB6.out)
  refine start_ (n := 12) (S := fun w' => w'.cell? ⟨gF, 0, none⟩ = some (.pointer (some ⟨gf, 0, none⟩)) ∧ w'.cell? ⟨gf, 0, none⟩ = some (.int .i64 ec) ∧ w'.cell? ⟨gf, 1, none⟩ = some (.int .i64 ea)) (ds := []) #[false, false, false, false, false, false, false, false, false, false, false, false] (by kernel_rfl) rfl rfl ⟨(blk_cell HBF6.out 0).trans rfl, (blk_cell HF6.out 0).trans rfl, (blk_cell HF6.out 1).trans rfl⟩ (fun hHeld => ?_)
  generalize w6.drew = w7 at HBF6 HF6 HBR6 HB6 hHeld ⊢
  refine pure_ (i := 0) (N := some 16) (v := ?_) (a' := ?_) #[true, false, false, false, false, false, false, false, false, false, false, false] rfl rfl (by kernel_rfl) (fun _ _ _ h => h) (Or.inl ⟨by rfl, ?_⟩) ?_ ?_
  rotate_left
  ·intro w'
   go_simp
   with_reducible rfl
  rotate_left
  ·simp only [Act.put, sa, sb, sc, i64_w, i32_w]
   rfl
  refine take_ (i := 1) (N := some 17) (v := ?_) (a' := ?_) #[true, true, false, false, false, false, false, false, false, false, false, false] rfl rfl (by kernel_rfl) (fun _ _ _ h => h) (Or.inl ⟨by rfl, ?_⟩) hHeld ?_ ?_
  rotate_left
  ·rintro w' ⟨s0, s1, s2⟩
   go_simp
   with_reducible rfl
  rotate_left
  ·simp only [Act.put, sa, sb, sc, i64_w, i32_w]
   rfl
  refine pure_ (i := 2) (N := some 18) (v := ?_) (a' := ?_) #[true, true, true, false, false, false, false, false, false, false, false, false] rfl rfl (by kernel_rfl) (fun _ _ _ h => h) (Or.inl ⟨by rfl, ?_⟩) ?_ ?_
  rotate_left
  ·intro w'
   go_simp
   with_reducible rfl
  rotate_left
  ·simp only [Act.put, sa, sb, sc, i64_w, i32_w]
   rfl
  refine pure_ (i := 3) (N := some 19) (v := ?_) (a' := ?_) #[true, true, true, true, false, false, false, false, false, false, false, false] rfl rfl (by kernel_rfl) (fun _ _ _ h => h) (Or.inl ⟨by rfl, ?_⟩) ?_ ?_
  rotate_left
  ·intro w'
   go_simp
   with_reducible rfl
  rotate_left
  ·simp only [Act.put, sa, sb, sc, i64_w, i32_w]
   rfl
  refine take_ (i := 4) (N := some 20) (v := ?_) (a' := ?_) #[true, true, true, true, true, false, false, false, false, false, false, false] rfl rfl (by kernel_rfl) (fun _ _ _ h => h) (Or.inl ⟨by rfl, ?_⟩) hHeld ?_ ?_
  rotate_left
  ·rintro w' ⟨s0, s1, s2⟩
   go_simp
   with_reducible rfl
  rotate_left
  ·simp only [Act.put, sa, sb, sc, i64_w, i32_w]
   rfl
  refine take_ (i := 5) (N := some 21) (v := ?_) (a' := ?_) #[true, true, true, true, true, true, false, false, false, false, false, false] rfl rfl (by kernel_rfl) (fun _ _ _ h => h) (Or.inl ⟨by rfl, ?_⟩) hHeld ?_ ?_
  rotate_left
  ·rintro w' ⟨s0, s1, s2⟩
   go_simp
   with_reducible rfl
  rotate_left
  ·simp only [Act.put, sa, sb, sc, i64_w, i32_w]
   rfl
  refine pure_ (i := 6) (N := some 22) (v := ?_) (a' := ?_) #[true, true, true, true, true, true, true, false, false, false, false, false] rfl rfl (by kernel_rfl) (fun _ _ _ h => h) (Or.inl ⟨by rfl, ?_⟩) ?_ ?_
  rotate_left
  ·intro w'
   go_simp
   with_reducible rfl
  rotate_left
  ·simp only [Act.put, sa, sb, sc, i64_w, i32_w]
   rfl
  refine pure_ (i := 7) (N := some 23) (v := ?_) (a' := ?_) #[true, true, true, true, true, true, true, true, false, false, false, false] rfl rfl (by kernel_rfl) (fun _ _ _ h => h) (Or.inl ⟨by rfl, ?_⟩) ?_ ?_
  rotate_left
  ·intro w'
   go_simp
   with_reducible rfl
  rotate_left
  ·simp only [Act.put, sa, sb, sc, i64_w, i32_w]
   rfl
  refine take_ (i := 8) (N := some 24) (v := ?_) (a' := ?_) #[true, true, true, true, true, true, true, true, true, false, false, false] rfl rfl (by kernel_rfl) (fun _ _ _ h => h) (Or.inl ⟨by rfl, ?_⟩) hHeld ?_ ?_
  rotate_left
  ·rintro w' ⟨s0, s1, s2⟩
   go_simp
   with_reducible rfl
  rotate_left
  ·simp only [Act.put, sa, sb, sc, i64_w, i32_w]
   rfl
  refine one_ (i := 9) (N := none) #[true, true, true, true, true, true, true, true, true, true, false, false] rfl rfl (by kernel_rfl) (by decide) (fun K hK => ?_)
  have hs_0 : w7.cell? ⟨gR, 0, none⟩ = some (.slice none 0 0) := (blk_cell HBR6.out 0).trans rfl
  have hs_1 : w7.cell? ⟨gR, 1, none⟩ = some (.slice none 0 0) := (blk_cell HBR6.out 1).trans rfl
  have hs_2 : w7.cell? ⟨gR, 2, none⟩ = some (.slice none 0 0) := (blk_cell HBR6.out 2).trans rfl
  have hf_0 := blk_frozen HBR6.out 0; have hf_1 := blk_frozen HBR6.out 1; have hf_2 := blk_frozen HBR6.out 2
  refine skip_ (w1 := ?_) (by rfl) rfl ?_ ?_
  rotate_left
  ·go_simp
   rfl
  refine hK.out _ _ ⟨(blk_cell (blk_far (blk_far (blk_far HBF6.out (p := ⟨gR, 0, none⟩) (Ne.symm HNR.out) (.slice none 0 0)) (p := ⟨gR, 1, none⟩) (Ne.symm HNR.out) (.slice none 0 0)) (p := ⟨gR, 2, none⟩) (Ne.symm HNR.out) (.slice none 0 0)) 0).trans rfl, (blk_cell (blk_far (blk_far (blk_far HF6.out (p := ⟨gR, 0, none⟩) (HNfR.out) (.slice none 0 0)) (p := ⟨gR, 1, none⟩) (HNfR.out) (.slice none 0 0)) (p := ⟨gR, 2, none⟩) (HNfR.out) (.slice none 0 0)) 0).trans rfl, (blk_cell (blk_far (blk_far (blk_far HF6.out (p := ⟨gR, 0, none⟩) (HNfR.out) (.slice none 0 0)) (p := ⟨gR, 1, none⟩) (HNfR.out) (.slice none 0 0)) (p := ⟨gR, 2, none⟩) (HNfR.out) (.slice none 0 0)) 1).trans rfl⟩ (fun hHeld => ?_)
  clear hK K
  refine pure_ (i := 10) (N := some 3) (v := ?_) (a' := ?_) #[true, true, true, true, true, true, true, true, true, true, true, false] rfl rfl (by kernel_rfl) (fun _ _ _ h => h) (Or.inl ⟨by rfl, ?_⟩) ?_ ?_
  rotate_left
  ·intro w'
   go_simp
   with_reducible rfl
  rotate_left
  ·simp only [Act.put, sa, sb, sc, i64_w, i32_w]
   rfl
  refine pure_ (i := 11) (N := some 4) (v := ?_) (a' := ?_) #[true, true, true, true, true, true, true, true, true, true, true, true] rfl rfl (by kernel_rfl) (fun _ _ _ h => h) (Or.inl ⟨by rfl, ?_⟩) ?_ ?_
  rotate_left
  ·intro w'
   go_simp
   with_reducible rfl
  rotate_left
  ·simp only [Act.put, sa, sb, sc, i64_w, i32_w]
   rfl
  refine done_ (by kernel_rfl) ?_
  go_wp2
  have k0 := blk_put (cs' := #[.slice none 0 0, .slice none 0 0, .slice none 0 0]) HBR6.out 0 (.slice none 0 0) rfl
  have k1 := blk_put (cs' := #[.slice none 0 0, .slice none 0 0, .slice none 0 0]) k0 1 (.slice none 0 0) rfl
  have k2 := blk_put (cs' := #[.slice none 0 0, .slice none 0 0, .slice none 0 0]) k1 2 (.slice none 0 0) rfl
  refine bodyPost_ret (results_ctt rfl _ _ gR 40 #[.slice none 0 0, .slice none 0 0, .slice none 0 0] (0, 0) _ rfl k2 Tryd.underlying40 rfl (by kernel_rfl)) rfl ?_
  have hle := Nat.le_of_eq HGR.out.symm
  exact ⟨_, _, _, rfl, Kd.R_nil _ _ _ _ _, Kd.R_nil _ _ _ _ _, Kd.R_nil _ _ _ _ _, ((HB6.out.setCell (p := ⟨gR, 0, none⟩) hle _).setCell (p := ⟨gR, 1, none⟩) hle _).setCell (p := ⟨gR, 2, none⟩) hle _⟩

end Go.Proofs.YtcpdeenhjodmfaaDoor.QDecodeScene
