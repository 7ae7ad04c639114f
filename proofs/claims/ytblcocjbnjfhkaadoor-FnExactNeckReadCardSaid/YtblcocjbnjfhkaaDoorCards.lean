/-
  DERIVED. GIVEN WITH THE SEED: THE CARDS: each row of YtblcocjbnjfhkaaDoorRows.lean that lists a variable, with what it lists TIED to the program's text (the seventh form; the later family's looks); each row that meets fmt, with fmt's text TOLD by the authors' own Lean function (tested against real Go, not proved from fmt's source: count such statements apart). THE CARD IS WHAT COUNTS. Prove the row's statement (the work); the ties are given (YtblcocjbnjfhkaaDoorTie.lean); close each card by the builder's one call (the guide's Derived/Test/ToyasCard.lean, 'card_holds'). Laid BY PROGRAM, IN A SANDBOX (cutbox-door.mjs). By AI agents, Wed Nov 11 2026. No macro, syntax, notation, axiom, sorry.
-/
import Derived.Test.YtblcocjbnjfhkaaDoorRows
import GoSem.ClaimSeven
namespace Go.Proofs.YtblcocjbnjfhkaaDoor
namespace Rows

/-- THE TIED CARD OF 'laws.FnExactNeckWrite'. -/
def fnExactNeckWriteCard : Claim7 := { stood := { row := fnExactNeckWriteRow, standIns := [], harness := (true, "4222365937c07659eee435451460ab91e7a9b3d43dfe7e57f3e7df2eb60a61c6"), looks := true }, kinds := [], alts := [], laidByText := true, laidKinds := [.data, .data, .data], laidTests := true, laidLooks := .later }
def FnExactNeckWriteCardSaid : Prop := Claim7.holds Tryd.pinned (.plain (OpenSpec.ofChange fnExactNeckWriteSpec)) fnExactNeckWriteCard

/-- THE TIED CARD OF 'laws.FnExactNeckRead'. -/
def fnExactNeckReadCard : Claim7 := { stood := { row := fnExactNeckReadRow, standIns := [], harness := (true, "4222365937c07659eee435451460ab91e7a9b3d43dfe7e57f3e7df2eb60a61c6"), looks := true }, kinds := [], alts := [], laidByText := true, laidKinds := [.data, .data, .data, .data, .sentinel, .sentinel, .pinned], laidTests := true, laidLooks := .later }
def FnExactNeckReadCardSaid : Prop := Claim7.holds Tryd.pinned (.plain (OpenSpec.ofChange fnExactNeckReadSpec)) fnExactNeckReadCard

/-- THE SECOND FORM's CARD OF 'laws.FnExactNeckWrite'. -/
def fnExactNeckWriteUptoCard : Claim7 := { stood := { row := fnExactNeckWriteUptoRow, standIns := [], harness := (true, "4222365937c07659eee435451460ab91e7a9b3d43dfe7e57f3e7df2eb60a61c6"), looks := true }, kinds := [], alts := [], laidByText := true, laidKinds := [.data, .data, .data], laidTests := true, laidLooks := .later }
def FnExactNeckWriteUptoCardSaid : Prop := Claim7.holds Tryd.pinned (.plain (OpenSpec.upto fnExactNeckWriteSpec)) fnExactNeckWriteUptoCard

/-- THE SECOND FORM's CARD OF 'laws.FnExactNeckRead'. -/
def fnExactNeckReadUptoCard : Claim7 := { stood := { row := fnExactNeckReadUptoRow, standIns := [], harness := (true, "4222365937c07659eee435451460ab91e7a9b3d43dfe7e57f3e7df2eb60a61c6"), looks := true }, kinds := [], alts := [], laidByText := true, laidKinds := [.data, .data, .data, .data, .sentinel, .sentinel, .pinned], laidTests := true, laidLooks := .later }
def FnExactNeckReadUptoCardSaid : Prop := Claim7.holds Tryd.pinned (.plain (OpenSpec.upto fnExactNeckReadSpec)) fnExactNeckReadUptoCard
end Rows
end Go.Proofs.YtblcocjbnjfhkaaDoor
