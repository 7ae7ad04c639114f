/-
  DERIVED. GIVEN WITH THE SEED: THE CARDS: each row of YtkoebplikhlapaaGreatDoorRows.lean that lists a variable, with what it lists TIED to the program's text (the seventh form; the later family's looks); each row that meets fmt, with fmt's text TOLD by the authors' own Lean function (tested against real Go, not proved from fmt's source: count such statements apart). THE CARD IS WHAT COUNTS. Prove the row's statement (the work); the ties are given (YtkoebplikhlapaaGreatDoorTie.lean); close each card by the builder's one call (the guide's Derived/Test/ToyasCard.lean, 'card_holds'). Laid BY PROGRAM, IN A SANDBOX (cutbox-door.mjs). By AI agents, Wed Nov 11 2026. No macro, syntax, notation, axiom, sorry.
-/
import Derived.Test.YtkoebplikhlapaaGreatDoorRows
import GoSem.ClaimSeven
namespace Go.Proofs.YtkoebplikhlapaaGreatDoor
namespace Rows

/-- THE TIED CARD OF 'laws.FnNeckJoined'. -/
def fnNeckJoinedCard : Claim7 := { stood := { row := fnNeckJoinedRow, standIns := [], harness := (true, "10fb929f9487701370a251011be166bf31c6f66b6c447b0523992ab7797b901f"), looks := true }, kinds := [], alts := [], laidByText := true, laidKinds := [.data, .data, .data, .data, .sentinel, .sentinel, .pinned], laidTests := true, laidLooks := .later }
def FnNeckJoinedCardSaid : Prop := Claim7.holds Tryz.pinned (.plain (OpenSpec.ofChange fnNeckJoinedSpec)) fnNeckJoinedCard

/-- THE TIED CARD OF 'laws.FnNeckText'. -/
def fnNeckTextCard : Claim7 := { stood := { row := fnNeckTextRow, standIns := [], harness := (true, "10fb929f9487701370a251011be166bf31c6f66b6c447b0523992ab7797b901f"), looks := true }, kinds := [], alts := [], laidByText := true, laidKinds := [.data, .data, .data, .data, .sentinel, .sentinel, .pinned], laidTests := true, laidLooks := .later }
def FnNeckTextCardSaid : Prop := Claim7.holds Tryz.pinned (.plain (OpenSpec.ofChange fnNeckTextSpec)) fnNeckTextCard

/-- THE TIED CARD OF 'laws.FnNeckRead'. -/
def fnNeckReadCard : Claim7 := { stood := { row := fnNeckReadRow, standIns := [], harness := (true, "10fb929f9487701370a251011be166bf31c6f66b6c447b0523992ab7797b901f"), looks := true }, kinds := [], alts := [], laidByText := true, laidKinds := [.data, .data, .data, .data, .sentinel, .sentinel, .pinned], laidTests := true, laidLooks := .later }
def FnNeckReadCardSaid : Prop := Claim7.holds Tryz.pinned (.plain (OpenSpec.ofChange fnNeckReadSpec)) fnNeckReadCard

/-- THE SECOND FORM's CARD OF 'laws.FnNeckJoined'. -/
def fnNeckJoinedUptoCard : Claim7 := { stood := { row := fnNeckJoinedUptoRow, standIns := [], harness := (true, "10fb929f9487701370a251011be166bf31c6f66b6c447b0523992ab7797b901f"), looks := true }, kinds := [], alts := [], laidByText := true, laidKinds := [.data, .data, .data, .data, .sentinel, .sentinel, .pinned], laidTests := true, laidLooks := .later }
def FnNeckJoinedUptoCardSaid : Prop := Claim7.holds Tryz.pinned (.plain (OpenSpec.upto fnNeckJoinedSpec)) fnNeckJoinedUptoCard

/-- THE SECOND FORM's CARD OF 'laws.FnNeckText'. -/
def fnNeckTextUptoCard : Claim7 := { stood := { row := fnNeckTextUptoRow, standIns := [], harness := (true, "10fb929f9487701370a251011be166bf31c6f66b6c447b0523992ab7797b901f"), looks := true }, kinds := [], alts := [], laidByText := true, laidKinds := [.data, .data, .data, .data, .sentinel, .sentinel, .pinned], laidTests := true, laidLooks := .later }
def FnNeckTextUptoCardSaid : Prop := Claim7.holds Tryz.pinned (.plain (OpenSpec.upto fnNeckTextSpec)) fnNeckTextUptoCard

/-- THE SECOND FORM's CARD OF 'laws.FnNeckRead'. -/
def fnNeckReadUptoCard : Claim7 := { stood := { row := fnNeckReadUptoRow, standIns := [], harness := (true, "10fb929f9487701370a251011be166bf31c6f66b6c447b0523992ab7797b901f"), looks := true }, kinds := [], alts := [], laidByText := true, laidKinds := [.data, .data, .data, .data, .sentinel, .sentinel, .pinned], laidTests := true, laidLooks := .later }
def FnNeckReadUptoCardSaid : Prop := Claim7.holds Tryz.pinned (.plain (OpenSpec.upto fnNeckReadSpec)) fnNeckReadUptoCard
end Rows
end Go.Proofs.YtkoebplikhlapaaGreatDoor
