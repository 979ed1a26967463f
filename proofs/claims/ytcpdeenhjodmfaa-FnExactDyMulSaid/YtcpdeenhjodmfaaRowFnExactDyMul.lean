/- Proves FnExactDyMulSaid: for every input that the row lets in, the program's law FnExactDyMul answers true and its arguments read as before. No condition beyond the row's own. -/
import Derived.Test.YtcpdeenhjodmfaaRows
import Derived.Test.YtcpdeenhjodmfaaQDyMulO
import Derived.Test.YtcpdeenhjodmfaaPureFnExactDyMul
import Derived.WalkKit
import Derived.ProofKit
import Derived.OpenShut
import Derived.ShutString
import Derived.ChangeOld
import Derived.Below
import Derived.SizedLaws
namespace Go.Proofs.Ytcpdeenhjodmfaa.fnExactDyMul
open Go.ChangeShapes Go.WideShapes Go.ChangeAt Go.RowKit
open Go.ChangeMaps (open_string shut_string)
open Go.Proofs.Ytcpdeenhjodmfaa.QDyMul
set_option linter.unusedVariables false
theorem own : ownKnob Try.prog.godebug = none := by kernel_rfl
theorem laidOut : laidOutB Try.prog = true := by kernel_rfl
set_option maxRecDepth 100000 in
theorem lifted (os : Os) (started : os.Started) (H : Type) (enc : TypeId × Value → H) :
    ReturnsInHanded {} Try.checked os 10 .any (Rows.fnExactDyMulSpec.pre6 enc Try.prog Try.f10 Rows.fnExactDyMulRow.domain false) (Rows.fnExactDyMulSpec.post enc Try.prog Try.f10 false true false false) := by
  refine returnsInHanded_of_change_sized (C := Try.checked) own started (by kernel_rfl) Try.func10
    (ChangeSpec.witness6 (enc := enc) (C := Try.checked) false ⟨#[], #[.agg #[.bool false, .slice none 0 0, .int .i64 0], .agg #[.bool false, .slice none 0 0, .int .i64 0]], []⟩ 8 (by kernel_rfl) (by kernel_rfl) (by kernel_rfl) (by kernel_rfl)) ?_
  intro W base args ds gs before hval0 hW hcnd hsz0 _
  have hval : ∀ (j : Nat) t v, Try.f10.params[j]? = some t → args[j]? = some v → Value.okWide Try.prog W .any base t v := hval0
  have hW' := hW
  obtain ⟨p, q, hA0, hV, rfl, hfz, hnd⟩ := hW
  have hA : DataW.TrodAll enc Try.prog W 0 (fun _ => true) true Try.f10.params.toList args.toList ds p := hA0
  rw [Try.params10] at hA hval
  obtain ⟨v0, vs0, d0, ds0, p0, q0, hargs, rfl, rfl, h0, r0⟩ := trodAll_cons hA
  obtain ⟨v1, vs1, d1, ds1, p1, q1, rfl, rfl, rfl, h1, r1⟩ := trodAll_cons r0
  obtain ⟨rfl, rfl, rfl⟩ := trodAll_nil r1
  obtain rfl : args = #[v0, v1] := by cases args; simp_all
  obtain ⟨rfl, rfl⟩ := trodVars_none hV
  obtain ⟨⟨cl0⟩, rfl, hcs0⟩ := okWide_struct Try.underlying74 (hval 0 74 v0 rfl rfl)
  have k0 := h0
  have lt0 : ∀ x ∈ p0, x.block < W.heap.size := by obtain ⟨m, hm⟩ := k0; exact DataW.trod_lt m _ _ _ hm
  obtain ⟨fuel0, hf0⟩ := h0
  obtain ⟨x0, K0, w0⟩ := opens74 _ _ _ _ _ _ _ _ _ hf0
  obtain ⟨A0_1, c0_1, he0, l0_1, g0_1⟩ := k74_open K0
  obtain rfl : cl0 = _ := he0
  obtain ⟨⟨cl1⟩, rfl, hcs1⟩ := okWide_struct Try.underlying74 (hval 1 74 v1 rfl rfl)
  have k1 := h1
  have lt1 : ∀ x ∈ p1, x.block < W.heap.size := by obtain ⟨m, hm⟩ := k1; exact DataW.trod_lt m _ _ _ hm
  obtain ⟨fuel1, hf1⟩ := h1
  obtain ⟨x1, K1, w1⟩ := opens74 _ _ _ _ _ _ _ _ _ hf1
  obtain ⟨A1_1, c1_1, he1, l1_1, g1_1⟩ := k74_open K1
  obtain rfl : cl1 = _ := he1
  clear hA0 hval0 hsz0
  obtain ⟨k, hk⟩ := Pure.FnExactDyMul x0 x1 w0 w1
  refine (laws_FnExactDyMul.calls k x0.f0.f0 A0_1 c0_1 x0.f0.f1 x0.f1 x1.f0.f0 A1_1 c1_1 x1.f0.f1 x1.f1 true W g0_1 l0_1 g1_1 l1_1 hk).mono fun e W' ⟨he, bel⟩ => ?_
  subst he
  exact ⟨_, rfl, _, _, _, [], _, [], hW', trodAll_mk1 (shut_bool Try.underlying4 _), (trodAll_cons_mk (Below.trod laidOut (by kernel_rfl) (of_decide_eq_true (by kernel_rfl)) k0 bel lt0) (trodAll_cons_mk (Below.trod laidOut (by kernel_rfl) (of_decide_eq_true (by kernel_rfl)) k1 bel lt1) trodAll_mk0)), rfl, bel.frame _, fun h => by cases h⟩
theorem over : Rows.fnExactDyMulRow.holds Try.pinned (OpenSpec.ofChange Rows.fnExactDyMulSpec) :=
  OpenClaim.holds_of_wide 10 Try.f10 rfl rfl rfl rfl rfl rfl rfl ⟨rfl, rfl, rfl, rfl, rfl⟩ rfl rfl rfl rfl rfl (by kernel_rfl) Try.func10 (by kernel_rfl)
    (of_decide_eq_true (by kernel_rfl)) (by unfold Func.isWrapper; first | (rw [if_pos (by decide +kernel)]; kernel_rfl) | (rw [if_neg (by decide +kernel)]; exact ⟨rfl, rfl⟩))
    (fun os started H enc _ => lifted os started H enc)
theorem proved : Rows.FnExactDyMulSaid := over
#print axioms proved
end Go.Proofs.Ytcpdeenhjodmfaa.fnExactDyMul
namespace Go.Proofs.Ytcpdeenhjodmfaa
/-- The row, under a short name, for the claim. -/
theorem fnExactDyMul_holds : Rows.FnExactDyMulSaid := fnExactDyMul.proved
end Go.Proofs.Ytcpdeenhjodmfaa
