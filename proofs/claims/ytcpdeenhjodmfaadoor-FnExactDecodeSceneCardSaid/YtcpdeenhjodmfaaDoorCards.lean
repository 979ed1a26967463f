/-
  DERIVED. GIVEN WITH THE SEED: THE CARDS: each row of YtcpdeenhjodmfaaDoorRows.lean that lists a variable, with what it lists TIED to the program's text (the seventh form; the later family's looks); each row that meets fmt, with fmt's text TOLD by the authors' own Lean function (tested against real Go, not proved from fmt's source: count such statements apart). THE CARD IS WHAT COUNTS. Prove the row's statement (the work); the ties are given (YtcpdeenhjodmfaaDoorTie.lean); close each card by the builder's one call (the guide's Derived/Test/ToyasCard.lean, 'card_holds'). Laid BY PROGRAM, IN A SANDBOX (cutbox-door.mjs). By AI agents, Wed Nov 11 2026. No macro, syntax, notation, axiom, sorry.
-/
import Derived.Test.YtcpdeenhjodmfaaDoorRows
import GoSem.ClaimSeven
namespace Go.Proofs.YtcpdeenhjodmfaaDoor
namespace Rows

/-- THE TIED CARD OF 'laws.FnExactBigText'. -/
def fnExactBigTextCard : Claim7 := { stood := { row := fnExactBigTextRow, standIns := [], harness := (true, "31d6077b544071a4742120526cfaaebcf4265aa31cf8c756984ac3a92e7f9551"), looks := true }, kinds := [], alts := [], laidByText := true, laidKinds := [.data, .data, .data], laidTests := true, laidLooks := .later }
def FnExactBigTextCardSaid : Prop := Claim7.holds Tryd.pinned (.plain (OpenSpec.ofChange fnExactBigTextSpec)) fnExactBigTextCard

/-- THE TIED CARD OF 'laws.FnExactDecodeScene'. -/
def fnExactDecodeSceneCard : Claim7 := { stood := { row := fnExactDecodeSceneRow, standIns := [], harness := (true, "31d6077b544071a4742120526cfaaebcf4265aa31cf8c756984ac3a92e7f9551"), looks := true }, kinds := [], alts := [], laidByText := true, laidKinds := [.handle], laidTests := true, laidLooks := .later }
def FnExactDecodeSceneCardSaid : Prop := Claim7.holds Tryd.pinned (.plain (OpenSpec.ofChange fnExactDecodeSceneSpec)) fnExactDecodeSceneCard

/-- THE SECOND FORM's CARD OF 'laws.FnExactBigText'. -/
def fnExactBigTextUptoCard : Claim7 := { stood := { row := fnExactBigTextUptoRow, standIns := [], harness := (true, "31d6077b544071a4742120526cfaaebcf4265aa31cf8c756984ac3a92e7f9551"), looks := true }, kinds := [], alts := [], laidByText := true, laidKinds := [.data, .data, .data], laidTests := true, laidLooks := .later }
def FnExactBigTextUptoCardSaid : Prop := Claim7.holds Tryd.pinned (.plain (OpenSpec.upto fnExactBigTextSpec)) fnExactBigTextUptoCard

/-- THE SECOND FORM's CARD OF 'laws.FnExactDecodeScene'. -/
def fnExactDecodeSceneUptoCard : Claim7 := { stood := { row := fnExactDecodeSceneUptoRow, standIns := [], harness := (true, "31d6077b544071a4742120526cfaaebcf4265aa31cf8c756984ac3a92e7f9551"), looks := true }, kinds := [], alts := [], laidByText := true, laidKinds := [.handle], laidTests := true, laidLooks := .later }
def FnExactDecodeSceneUptoCardSaid : Prop := Claim7.holds Tryd.pinned (.plain (OpenSpec.upto fnExactDecodeSceneSpec)) fnExactDecodeSceneUptoCard
end Rows
end Go.Proofs.YtcpdeenhjodmfaaDoor
