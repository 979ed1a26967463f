/-
  No cell of these rows narrows 'for every input' (looked for: loops, veiled, ifaces, maps, wideKeys, modest, calm, conditions, laid).
  DERIVED. THE GIVEN ROWS OF THIS SEAT. 10 by the template 'for every input the law returns true; each argument reads behind the call as it read before'; 0 by the template 'total and deterministic' (their statements: YtcpdeenhjodmfaaTotals.lean).
  GIVEN WITH THE SEED: the statements are not yours to turn. If you find one false, say at which input.
  Laid BY PROGRAM, IN A SANDBOX (cutbox-rows.mjs): the forced cells as the released guide's own fill.sh prints them over the translation 70e3807755a78112… (all of the seat's roots in one cut). By AI agents, Wed Nov 11 2026. No macro, syntax, notation, axiom, sorry.
-/
import Derived.Test.YtcpdeenhjodmfaaChecked
import GoSem.Claim
import GoSem.ClaimJoined
import GoSem.ClaimMapViews
import Derived.JoinedTies
import Derived.KernelRfl
namespace Go.Proofs.Ytcpdeenhjodmfaa
/- THE CELL 'sum', in the pinned program and in every row, IS THE sha256 OF THE DUMP (.gsa) THAT YtcpdeenhjodmfaaProg.lean LOADS. Nothing in Lean hashes anything: it is a label: what it is worth is what the hold of that sum in a sandbox is worth. -/
noncomputable def Try.pinned : Pinned := { name := "ytcpdeenhjodmfaa", sum := "70e3807755a78112f4686c53484a209f95e856f9d181d6b8f4d2c1b03f38aa9b", checked := Try.checked }
namespace Rows
def none {H : Type} : Left H := { results := [], args := [] }

/-- 'laws.FnExactConstants': WHATEVER THE INPUT: true; the input reads as it did. -/
def fnExactConstantsSpec : ChangeSpec := { name := "fnExactConstants", fn := fun _ => fun
  | [] => { results := [.lit (.bool true)], args := [] }
  | _ => none }
def fnExactConstantsRow : OpenClaim := { program := "ytcpdeenhjodmfaa", sum := "70e3807755a78112f4686c53484a209f95e856f9d181d6b8f4d2c1b03f38aa9b", func := "loop.example/s01121/laws.FnExactConstants", spec := "fnExactConstants", apart := false }
def FnExactConstantsSaid : Prop := fnExactConstantsRow.holds Try.pinned (OpenSpec.ofChange fnExactConstantsSpec)

/-- ITS FALSE NEIGHBOUR: 'it returns false'. Refute it at one input. -/
def fnExactConstantsWrong : ChangeSpec := { name := "fnExactConstants", fn := fun _ => fun
  | [] => { results := [.lit (.bool false)], args := [] }
  | _ => none }
def FnExactConstantsWrongFalsely : Prop := fnExactConstantsRow.holds Try.pinned (OpenSpec.ofChange fnExactConstantsWrong)

/-- 'laws.FnExactBigValid': WHATEVER THE INPUT: true; the input reads as it did. -/
def fnExactBigValidSpec : ChangeSpec := { name := "fnExactBigValid", fn := fun _ => fun
  | [d] => { results := [.lit (.bool true)], args := [d] }
  | _ => none }
def fnExactBigValidRow : OpenClaim := { program := "ytcpdeenhjodmfaa", sum := "70e3807755a78112f4686c53484a209f95e856f9d181d6b8f4d2c1b03f38aa9b", func := "loop.example/s01121/laws.FnExactBigValid", spec := "fnExactBigValid", apart := false }
def FnExactBigValidSaid : Prop := fnExactBigValidRow.holds Try.pinned (OpenSpec.ofChange fnExactBigValidSpec)

/-- ITS FALSE NEIGHBOUR: 'it returns false'. Refute it at one input. -/
def fnExactBigValidWrong : ChangeSpec := { name := "fnExactBigValid", fn := fun _ => fun
  | [d] => { results := [.lit (.bool false)], args := [d] }
  | _ => none }
def FnExactBigValidWrongFalsely : Prop := fnExactBigValidRow.holds Try.pinned (OpenSpec.ofChange fnExactBigValidWrong)

/-- 'laws.FnExactBigMul': WHATEVER THE INPUT: true; the input reads as it did. -/
def fnExactBigMulSpec : ChangeSpec := { name := "fnExactBigMul", fn := fun _ => fun
  | [d1, d2] => { results := [.lit (.bool true)], args := [d1, d2] }
  | _ => none }
def fnExactBigMulRow : OpenClaim := { program := "ytcpdeenhjodmfaa", sum := "70e3807755a78112f4686c53484a209f95e856f9d181d6b8f4d2c1b03f38aa9b", func := "loop.example/s01121/laws.FnExactBigMul", spec := "fnExactBigMul", unfollowed := true, recurses := true, apart := false }
def FnExactBigMulSaid : Prop := fnExactBigMulRow.holds Try.pinned (OpenSpec.ofChange fnExactBigMulSpec)

/-- ITS FALSE NEIGHBOUR: 'it returns false'. Refute it at one input. -/
def fnExactBigMulWrong : ChangeSpec := { name := "fnExactBigMul", fn := fun _ => fun
  | [d1, d2] => { results := [.lit (.bool false)], args := [d1, d2] }
  | _ => none }
def FnExactBigMulWrongFalsely : Prop := fnExactBigMulRow.holds Try.pinned (OpenSpec.ofChange fnExactBigMulWrong)

/-- 'laws.FnExactEncodePicture': WHATEVER THE INPUT: true; the input reads as it did. -/
def fnExactEncodePictureSpec : ChangeSpec := { name := "fnExactEncodePicture", fn := fun _ => fun
  | [d] => { results := [.lit (.bool true)], args := [d] }
  | _ => none }
def fnExactEncodePictureRow : OpenClaim := { program := "ytcpdeenhjodmfaa", sum := "70e3807755a78112f4686c53484a209f95e856f9d181d6b8f4d2c1b03f38aa9b", func := "loop.example/s01121/laws.FnExactEncodePicture", spec := "fnExactEncodePicture", unfollowed := true, recurses := true, apart := false }
def FnExactEncodePictureSaid : Prop := fnExactEncodePictureRow.holds Try.pinned (OpenSpec.ofChange fnExactEncodePictureSpec)

/-- ITS FALSE NEIGHBOUR: 'it returns false'. Refute it at one input. -/
def fnExactEncodePictureWrong : ChangeSpec := { name := "fnExactEncodePicture", fn := fun _ => fun
  | [d] => { results := [.lit (.bool false)], args := [d] }
  | _ => none }
def FnExactEncodePictureWrongFalsely : Prop := fnExactEncodePictureRow.holds Try.pinned (OpenSpec.ofChange fnExactEncodePictureWrong)

/-- 'laws.FnExactFloatOrder': WHATEVER THE INPUT: true; the input reads as it did. -/
def fnExactFloatOrderSpec : ChangeSpec := { name := "fnExactFloatOrder", fn := fun _ => fun
  | [d1, d2] => { results := [.lit (.bool true)], args := [d1, d2] }
  | _ => none }
def fnExactFloatOrderRow : OpenClaim := { program := "ytcpdeenhjodmfaa", sum := "70e3807755a78112f4686c53484a209f95e856f9d181d6b8f4d2c1b03f38aa9b", func := "loop.example/s01121/laws.FnExactFloatOrder", spec := "fnExactFloatOrder", inPlace := ["math.Float32frombits", "math.Float64bits", "math.Float64frombits"], apart := false }
def FnExactFloatOrderSaid : Prop := fnExactFloatOrderRow.holds Try.pinned (OpenSpec.ofChange fnExactFloatOrderSpec)

/-- ITS FALSE NEIGHBOUR: 'it returns false'. Refute it at one input. -/
def fnExactFloatOrderWrong : ChangeSpec := { name := "fnExactFloatOrder", fn := fun _ => fun
  | [d1, d2] => { results := [.lit (.bool false)], args := [d1, d2] }
  | _ => none }
def FnExactFloatOrderWrongFalsely : Prop := fnExactFloatOrderRow.holds Try.pinned (OpenSpec.ofChange fnExactFloatOrderWrong)

/-- 'laws.FnExactDecodePicture': WHATEVER THE INPUT: true; the input reads as it did. -/
def fnExactDecodePictureSpec : ChangeSpec := { name := "fnExactDecodePicture", fn := fun _ => fun
  | [d] => { results := [.lit (.bool true)], args := [d] }
  | _ => none }
def fnExactDecodePictureRow : OpenClaim := { program := "ytcpdeenhjodmfaa", sum := "70e3807755a78112f4686c53484a209f95e856f9d181d6b8f4d2c1b03f38aa9b", func := "loop.example/s01121/laws.FnExactDecodePicture", spec := "fnExactDecodePicture", apart := false }
def FnExactDecodePictureSaid : Prop := fnExactDecodePictureRow.holds Try.pinned (OpenSpec.ofChange fnExactDecodePictureSpec)

/-- ITS FALSE NEIGHBOUR: 'it returns false'. Refute it at one input. -/
def fnExactDecodePictureWrong : ChangeSpec := { name := "fnExactDecodePicture", fn := fun _ => fun
  | [d] => { results := [.lit (.bool false)], args := [d] }
  | _ => none }
def FnExactDecodePictureWrongFalsely : Prop := fnExactDecodePictureRow.holds Try.pinned (OpenSpec.ofChange fnExactDecodePictureWrong)

/-- 'laws.FnExactValidScene': WHATEVER THE INPUT: true; the input reads as it did. -/
def fnExactValidSceneSpec : ChangeSpec := { name := "fnExactValidScene", fn := fun _ => fun
  | [d] => { results := [.lit (.bool true)], args := [d] }
  | _ => none }
def fnExactValidSceneRow : OpenClaim := { program := "ytcpdeenhjodmfaa", sum := "70e3807755a78112f4686c53484a209f95e856f9d181d6b8f4d2c1b03f38aa9b", func := "loop.example/s01121/laws.FnExactValidScene", spec := "fnExactValidScene", inPlace := ["math.Float32frombits", "math.Float64bits", "math.Float64frombits"], apart := false }
def FnExactValidSceneSaid : Prop := fnExactValidSceneRow.holds Try.pinned (OpenSpec.ofChange fnExactValidSceneSpec)

/-- ITS FALSE NEIGHBOUR: 'it returns false'. Refute it at one input. -/
def fnExactValidSceneWrong : ChangeSpec := { name := "fnExactValidScene", fn := fun _ => fun
  | [d] => { results := [.lit (.bool false)], args := [d] }
  | _ => none }
def FnExactValidSceneWrongFalsely : Prop := fnExactValidSceneRow.holds Try.pinned (OpenSpec.ofChange fnExactValidSceneWrong)

/-- 'laws.FnExactDyMul': WHATEVER THE INPUT: true; the input reads as it did. -/
def fnExactDyMulSpec : ChangeSpec := { name := "fnExactDyMul", fn := fun _ => fun
  | [d1, d2] => { results := [.lit (.bool true)], args := [d1, d2] }
  | _ => none }
def fnExactDyMulRow : OpenClaim := { program := "ytcpdeenhjodmfaa", sum := "70e3807755a78112f4686c53484a209f95e856f9d181d6b8f4d2c1b03f38aa9b", func := "loop.example/s01121/laws.FnExactDyMul", spec := "fnExactDyMul", apart := false }
def FnExactDyMulSaid : Prop := fnExactDyMulRow.holds Try.pinned (OpenSpec.ofChange fnExactDyMulSpec)

/-- ITS FALSE NEIGHBOUR: 'it returns false'. Refute it at one input. -/
def fnExactDyMulWrong : ChangeSpec := { name := "fnExactDyMul", fn := fun _ => fun
  | [d1, d2] => { results := [.lit (.bool false)], args := [d1, d2] }
  | _ => none }
def FnExactDyMulWrongFalsely : Prop := fnExactDyMulRow.holds Try.pinned (OpenSpec.ofChange fnExactDyMulWrong)

/-- 'laws.FnExactDyOf': WHATEVER THE INPUT: true; the input reads as it did. -/
def fnExactDyOfSpec : ChangeSpec := { name := "fnExactDyOf", fn := fun _ => fun
  | [d] => { results := [.lit (.bool true)], args := [d] }
  | _ => none }
def fnExactDyOfRow : OpenClaim := { program := "ytcpdeenhjodmfaa", sum := "70e3807755a78112f4686c53484a209f95e856f9d181d6b8f4d2c1b03f38aa9b", func := "loop.example/s01121/laws.FnExactDyOf", spec := "fnExactDyOf", inPlace := ["math.Float32frombits", "math.Float64bits", "math.Float64frombits"], apart := false }
def FnExactDyOfSaid : Prop := fnExactDyOfRow.holds Try.pinned (OpenSpec.ofChange fnExactDyOfSpec)

/-- ITS FALSE NEIGHBOUR: 'it returns false'. Refute it at one input. -/
def fnExactDyOfWrong : ChangeSpec := { name := "fnExactDyOf", fn := fun _ => fun
  | [d] => { results := [.lit (.bool false)], args := [d] }
  | _ => none }
def FnExactDyOfWrongFalsely : Prop := fnExactDyOfRow.holds Try.pinned (OpenSpec.ofChange fnExactDyOfWrong)

/-- 'laws.FnExactEncodeScene': WHATEVER THE INPUT: true; the input reads as it did. -/
def fnExactEncodeSceneSpec : ChangeSpec := { name := "fnExactEncodeScene", fn := fun _ => fun
  | [d] => { results := [.lit (.bool true)], args := [d] }
  | _ => none }
def fnExactEncodeSceneRow : OpenClaim := { program := "ytcpdeenhjodmfaa", sum := "70e3807755a78112f4686c53484a209f95e856f9d181d6b8f4d2c1b03f38aa9b", func := "loop.example/s01121/laws.FnExactEncodeScene", spec := "fnExactEncodeScene", inPlace := ["math.Float32frombits", "math.Float64bits", "math.Float64frombits"], apart := false }
def FnExactEncodeSceneSaid : Prop := fnExactEncodeSceneRow.holds Try.pinned (OpenSpec.ofChange fnExactEncodeSceneSpec)

/-- ITS FALSE NEIGHBOUR: 'it returns false'. Refute it at one input. -/
def fnExactEncodeSceneWrong : ChangeSpec := { name := "fnExactEncodeScene", fn := fun _ => fun
  | [d] => { results := [.lit (.bool false)], args := [d] }
  | _ => none }
def FnExactEncodeSceneWrongFalsely : Prop := fnExactEncodeSceneRow.holds Try.pinned (OpenSpec.ofChange fnExactEncodeSceneWrong)

/- THE SECOND FORM. 'bulk': how many values and letters a reading holds, each counted each time it is reached (what is shared counts as often as it is met; a slice's spare places count too). A statement '..UptoSaid' is the law's where the arguments, and the package variables that the reading takes, are together of bulk at most 1048576: NARROWER than '..Said'. Prove '..Said' where nothing that the law and all that it calls make is longer than what came in: it says more and counts as full. Else prove '..UptoSaid'. A law counts once. -/
mutual
def uptoBulk {H : Type} : DataW H → Nat
  | .lit (.string bytes) => bytes.length + 1
  | .lit _ => 1
  | .nil => 1
  | .ptr d => uptoBulk d + 1
  | .slice elems spare => uptoBulkAll elems + uptoBulkAll spare + 1
  | .agg parts => uptoBulkAll parts + 1
  | .iface _ d => uptoBulk d + 1
  | .map entries => uptoBulkEntries entries + 1
  | .held _ => 1
def uptoBulkAll {H : Type} : List (DataW H) → Nat
  | [] => 0
  | d :: r => uptoBulk d + uptoBulkAll r
def uptoBulkEntries {H : Type} : List (Lit × DataW H) → Nat
  | [] => 0
  | x :: r => uptoBulkEntry x + uptoBulkEntries r
def uptoBulkEntry {H : Type} : Lit × DataW H → Nat
  | (.string bytes, d) => bytes.length + uptoBulk d + 1
  | (_, d) => uptoBulk d + 1
 end
def uptoSmall : (H : Type) → List (DataW H) → Bool := fun _ ds => decide (uptoBulkAll ds ≤ 1048576)
def OpenSpec.upto (s : _root_.Go.ChangeSpec) : _root_.Go.OpenSpec := { _root_.Go.OpenSpec.ofChange s with cond := some uptoSmall }

/-- 'laws.FnExactConstants', WHERE WHAT IT READS IS OF BULK AT MOST 1048576: true; the input reads as it did. -/
def fnExactConstantsUptoRow : OpenClaim := { program := "ytcpdeenhjodmfaa", sum := "70e3807755a78112f4686c53484a209f95e856f9d181d6b8f4d2c1b03f38aa9b", func := "loop.example/s01121/laws.FnExactConstants", spec := "fnExactConstants", apart := false, narrowed := true }
def FnExactConstantsUptoSaid : Prop := fnExactConstantsUptoRow.holds Try.pinned (OpenSpec.upto fnExactConstantsSpec)

/-- 'laws.FnExactBigValid', WHERE WHAT IT READS IS OF BULK AT MOST 1048576: true; the input reads as it did. -/
def fnExactBigValidUptoRow : OpenClaim := { program := "ytcpdeenhjodmfaa", sum := "70e3807755a78112f4686c53484a209f95e856f9d181d6b8f4d2c1b03f38aa9b", func := "loop.example/s01121/laws.FnExactBigValid", spec := "fnExactBigValid", apart := false, narrowed := true }
def FnExactBigValidUptoSaid : Prop := fnExactBigValidUptoRow.holds Try.pinned (OpenSpec.upto fnExactBigValidSpec)

/-- 'laws.FnExactBigMul', WHERE WHAT IT READS IS OF BULK AT MOST 1048576: true; the input reads as it did. -/
def fnExactBigMulUptoRow : OpenClaim := { program := "ytcpdeenhjodmfaa", sum := "70e3807755a78112f4686c53484a209f95e856f9d181d6b8f4d2c1b03f38aa9b", func := "loop.example/s01121/laws.FnExactBigMul", spec := "fnExactBigMul", unfollowed := true, recurses := true, apart := false, narrowed := true }
def FnExactBigMulUptoSaid : Prop := fnExactBigMulUptoRow.holds Try.pinned (OpenSpec.upto fnExactBigMulSpec)

/-- 'laws.FnExactEncodePicture', WHERE WHAT IT READS IS OF BULK AT MOST 1048576: true; the input reads as it did. -/
def fnExactEncodePictureUptoRow : OpenClaim := { program := "ytcpdeenhjodmfaa", sum := "70e3807755a78112f4686c53484a209f95e856f9d181d6b8f4d2c1b03f38aa9b", func := "loop.example/s01121/laws.FnExactEncodePicture", spec := "fnExactEncodePicture", unfollowed := true, recurses := true, apart := false, narrowed := true }
def FnExactEncodePictureUptoSaid : Prop := fnExactEncodePictureUptoRow.holds Try.pinned (OpenSpec.upto fnExactEncodePictureSpec)

/-- 'laws.FnExactFloatOrder', WHERE WHAT IT READS IS OF BULK AT MOST 1048576: true; the input reads as it did. -/
def fnExactFloatOrderUptoRow : OpenClaim := { program := "ytcpdeenhjodmfaa", sum := "70e3807755a78112f4686c53484a209f95e856f9d181d6b8f4d2c1b03f38aa9b", func := "loop.example/s01121/laws.FnExactFloatOrder", spec := "fnExactFloatOrder", inPlace := ["math.Float32frombits", "math.Float64bits", "math.Float64frombits"], apart := false, narrowed := true }
def FnExactFloatOrderUptoSaid : Prop := fnExactFloatOrderUptoRow.holds Try.pinned (OpenSpec.upto fnExactFloatOrderSpec)

/-- 'laws.FnExactDecodePicture', WHERE WHAT IT READS IS OF BULK AT MOST 1048576: true; the input reads as it did. -/
def fnExactDecodePictureUptoRow : OpenClaim := { program := "ytcpdeenhjodmfaa", sum := "70e3807755a78112f4686c53484a209f95e856f9d181d6b8f4d2c1b03f38aa9b", func := "loop.example/s01121/laws.FnExactDecodePicture", spec := "fnExactDecodePicture", apart := false, narrowed := true }
def FnExactDecodePictureUptoSaid : Prop := fnExactDecodePictureUptoRow.holds Try.pinned (OpenSpec.upto fnExactDecodePictureSpec)

/-- 'laws.FnExactValidScene', WHERE WHAT IT READS IS OF BULK AT MOST 1048576: true; the input reads as it did. -/
def fnExactValidSceneUptoRow : OpenClaim := { program := "ytcpdeenhjodmfaa", sum := "70e3807755a78112f4686c53484a209f95e856f9d181d6b8f4d2c1b03f38aa9b", func := "loop.example/s01121/laws.FnExactValidScene", spec := "fnExactValidScene", inPlace := ["math.Float32frombits", "math.Float64bits", "math.Float64frombits"], apart := false, narrowed := true }
def FnExactValidSceneUptoSaid : Prop := fnExactValidSceneUptoRow.holds Try.pinned (OpenSpec.upto fnExactValidSceneSpec)

/-- 'laws.FnExactDyMul', WHERE WHAT IT READS IS OF BULK AT MOST 1048576: true; the input reads as it did. -/
def fnExactDyMulUptoRow : OpenClaim := { program := "ytcpdeenhjodmfaa", sum := "70e3807755a78112f4686c53484a209f95e856f9d181d6b8f4d2c1b03f38aa9b", func := "loop.example/s01121/laws.FnExactDyMul", spec := "fnExactDyMul", apart := false, narrowed := true }
def FnExactDyMulUptoSaid : Prop := fnExactDyMulUptoRow.holds Try.pinned (OpenSpec.upto fnExactDyMulSpec)

/-- 'laws.FnExactDyOf', WHERE WHAT IT READS IS OF BULK AT MOST 1048576: true; the input reads as it did. -/
def fnExactDyOfUptoRow : OpenClaim := { program := "ytcpdeenhjodmfaa", sum := "70e3807755a78112f4686c53484a209f95e856f9d181d6b8f4d2c1b03f38aa9b", func := "loop.example/s01121/laws.FnExactDyOf", spec := "fnExactDyOf", inPlace := ["math.Float32frombits", "math.Float64bits", "math.Float64frombits"], apart := false, narrowed := true }
def FnExactDyOfUptoSaid : Prop := fnExactDyOfUptoRow.holds Try.pinned (OpenSpec.upto fnExactDyOfSpec)

/-- 'laws.FnExactEncodeScene', WHERE WHAT IT READS IS OF BULK AT MOST 1048576: true; the input reads as it did. -/
def fnExactEncodeSceneUptoRow : OpenClaim := { program := "ytcpdeenhjodmfaa", sum := "70e3807755a78112f4686c53484a209f95e856f9d181d6b8f4d2c1b03f38aa9b", func := "loop.example/s01121/laws.FnExactEncodeScene", spec := "fnExactEncodeScene", inPlace := ["math.Float32frombits", "math.Float64bits", "math.Float64frombits"], apart := false, narrowed := true }
def FnExactEncodeSceneUptoSaid : Prop := fnExactEncodeSceneUptoRow.holds Try.pinned (OpenSpec.upto fnExactEncodeSceneSpec)

end Rows
end Go.Proofs.Ytcpdeenhjodmfaa
