/-
  No cell of these rows narrows 'for every input' (looked for: loops, veiled, ifaces, maps, wideKeys, modest, calm, conditions, laid).
  DERIVED. THE GIVEN ROWS OF THIS SEAT. 13 by the template 'for every input the law returns true; each argument reads behind the call as it read before'; 0 by the template 'total and deterministic' (their statements: YtdanidpleofjgaaGreatTotals.lean).
  GIVEN WITH THE SEED: the statements are not yours to turn. If you find one false, say at which input.
  Laid BY PROGRAM, IN A SANDBOX (cutbox-rows.mjs): the forced cells as the released guide's own fill.sh prints them over the translation 8661122a7ba486bb… (all of the seat's roots in one cut). By AI agents, Wed Nov 11 2026. No macro, syntax, notation, axiom, sorry.
-/
import Derived.Test.YtdanidpleofjgaaGreatChecked
import GoSem.Claim
import GoSem.ClaimJoined
import GoSem.ClaimMapViews
import Derived.JoinedTies
import Derived.KernelRfl
namespace Go.Proofs.YtdanidpleofjgaaGreat
/- THE CELL 'sum', in the pinned program and in every row, IS THE sha256 OF THE DUMP (.gsa) THAT YtdanidpleofjgaaGreatProg.lean LOADS. Nothing in Lean hashes anything: it is a label: what it is worth is what the hold of that sum in a sandbox is worth. -/
noncomputable def Tryz.pinned : Pinned := { name := "ytdanidpleofjgaagreat", sum := "8661122a7ba486bbfd3bdf1ecd24edff4c387ebda0c3a9247c0b3392fba5219a", checked := Tryz.checked }
namespace Rows
def none {H : Type} : Left H := { results := [], args := [] }

/-- 'laws.FnNeckDo': WHATEVER THE INPUT: true; the input reads as it did. -/
def fnNeckDoSpec : ChangeSpec := { name := "fnNeckDo", fn := fun _ => fun
  | [d] => { results := [.lit (.bool true)], args := [d] }
  | _ => none }
def fnNeckDoRow : OpenClaim := { program := "ytdanidpleofjgaagreat", sum := "8661122a7ba486bbfd3bdf1ecd24edff4c387ebda0c3a9247c0b3392fba5219a", func := "loop.example/tombolo/laws.FnNeckDo", spec := "fnNeckDo", inPlace := ["slices.overlaps[loop.example/tombolo/impl.Ver]", "slices.overlaps[loop.example/tombolo/impl.Dep]", "slices.overlaps[loop.example/tombolo/impl.Answer]"], unfollowed := true, recurses := true, apart := false }
def FnNeckDoSaid : Prop := fnNeckDoRow.holds Tryz.pinned (OpenSpec.ofChange fnNeckDoSpec)

/-- ITS FALSE NEIGHBOUR: 'it returns false'. Refute it at one input. -/
def fnNeckDoWrong : ChangeSpec := { name := "fnNeckDo", fn := fun _ => fun
  | [d] => { results := [.lit (.bool false)], args := [d] }
  | _ => none }
def FnNeckDoWrongFalsely : Prop := fnNeckDoRow.holds Tryz.pinned (OpenSpec.ofChange fnNeckDoWrong)

/-- 'laws.FnNeckDown': WHATEVER THE INPUT: true; the input reads as it did. -/
def fnNeckDownSpec : ChangeSpec := { name := "fnNeckDown", fn := fun _ => fun
  | [d1, d2] => { results := [.lit (.bool true)], args := [d1, d2] }
  | _ => none }
def fnNeckDownRow : OpenClaim := { program := "ytdanidpleofjgaagreat", sum := "8661122a7ba486bbfd3bdf1ecd24edff4c387ebda0c3a9247c0b3392fba5219a", func := "loop.example/tombolo/laws.FnNeckDown", spec := "fnNeckDown", inPlace := ["slices.overlaps[loop.example/tombolo/impl.Ver]", "slices.overlaps[loop.example/tombolo/impl.Dep]", "slices.overlaps[loop.example/tombolo/impl.Answer]"], unfollowed := true, recurses := true, apart := false }
def FnNeckDownSaid : Prop := fnNeckDownRow.holds Tryz.pinned (OpenSpec.ofChange fnNeckDownSpec)

/-- ITS FALSE NEIGHBOUR: 'it returns false'. Refute it at one input. -/
def fnNeckDownWrong : ChangeSpec := { name := "fnNeckDown", fn := fun _ => fun
  | [d1, d2] => { results := [.lit (.bool false)], args := [d1, d2] }
  | _ => none }
def FnNeckDownWrongFalsely : Prop := fnNeckDownRow.holds Tryz.pinned (OpenSpec.ofChange fnNeckDownWrong)

/-- 'laws.FnNeckEpochs': WHATEVER THE INPUT: true; the input reads as it did. -/
def fnNeckEpochsSpec : ChangeSpec := { name := "fnNeckEpochs", fn := fun _ => fun
  | [d] => { results := [.lit (.bool true)], args := [d] }
  | _ => none }
def fnNeckEpochsRow : OpenClaim := { program := "ytdanidpleofjgaagreat", sum := "8661122a7ba486bbfd3bdf1ecd24edff4c387ebda0c3a9247c0b3392fba5219a", func := "loop.example/tombolo/laws.FnNeckEpochs", spec := "fnNeckEpochs", inPlace := ["slices.overlaps[loop.example/tombolo/impl.Ver]", "slices.overlaps[loop.example/tombolo/impl.Dep]", "slices.overlaps[loop.example/tombolo/impl.Answer]"], unfollowed := true, recurses := true, apart := false }
def FnNeckEpochsSaid : Prop := fnNeckEpochsRow.holds Tryz.pinned (OpenSpec.ofChange fnNeckEpochsSpec)

/-- ITS FALSE NEIGHBOUR: 'it returns false'. Refute it at one input. -/
def fnNeckEpochsWrong : ChangeSpec := { name := "fnNeckEpochs", fn := fun _ => fun
  | [d] => { results := [.lit (.bool false)], args := [d] }
  | _ => none }
def FnNeckEpochsWrongFalsely : Prop := fnNeckEpochsRow.holds Tryz.pinned (OpenSpec.ofChange fnNeckEpochsWrong)

/-- 'laws.FnNeckLost': WHATEVER THE INPUT: true; the input reads as it did. -/
def fnNeckLostSpec : ChangeSpec := { name := "fnNeckLost", fn := fun _ => fun
  | [d] => { results := [.lit (.bool true)], args := [d] }
  | _ => none }
def fnNeckLostRow : OpenClaim := { program := "ytdanidpleofjgaagreat", sum := "8661122a7ba486bbfd3bdf1ecd24edff4c387ebda0c3a9247c0b3392fba5219a", func := "loop.example/tombolo/laws.FnNeckLost", spec := "fnNeckLost", inPlace := ["slices.overlaps[loop.example/tombolo/impl.Ver]", "slices.overlaps[loop.example/tombolo/impl.Dep]", "slices.overlaps[loop.example/tombolo/impl.Answer]"], unfollowed := true, recurses := true, apart := false }
def FnNeckLostSaid : Prop := fnNeckLostRow.holds Tryz.pinned (OpenSpec.ofChange fnNeckLostSpec)

/-- ITS FALSE NEIGHBOUR: 'it returns false'. Refute it at one input. -/
def fnNeckLostWrong : ChangeSpec := { name := "fnNeckLost", fn := fun _ => fun
  | [d] => { results := [.lit (.bool false)], args := [d] }
  | _ => none }
def FnNeckLostWrongFalsely : Prop := fnNeckLostRow.holds Tryz.pinned (OpenSpec.ofChange fnNeckLostWrong)

/-- 'laws.FnNeckOne': WHATEVER THE INPUT: true; the input reads as it did. -/
def fnNeckOneSpec : ChangeSpec := { name := "fnNeckOne", fn := fun _ => fun
  | [d] => { results := [.lit (.bool true)], args := [d] }
  | _ => none }
def fnNeckOneRow : OpenClaim := { program := "ytdanidpleofjgaagreat", sum := "8661122a7ba486bbfd3bdf1ecd24edff4c387ebda0c3a9247c0b3392fba5219a", func := "loop.example/tombolo/laws.FnNeckOne", spec := "fnNeckOne", inPlace := ["slices.overlaps[loop.example/tombolo/impl.Ver]", "slices.overlaps[loop.example/tombolo/impl.Dep]", "slices.overlaps[loop.example/tombolo/impl.Answer]"], unfollowed := true, recurses := true, apart := false }
def FnNeckOneSaid : Prop := fnNeckOneRow.holds Tryz.pinned (OpenSpec.ofChange fnNeckOneSpec)

/-- ITS FALSE NEIGHBOUR: 'it returns false'. Refute it at one input. -/
def fnNeckOneWrong : ChangeSpec := { name := "fnNeckOne", fn := fun _ => fun
  | [d] => { results := [.lit (.bool false)], args := [d] }
  | _ => none }
def FnNeckOneWrongFalsely : Prop := fnNeckOneRow.holds Tryz.pinned (OpenSpec.ofChange fnNeckOneWrong)

/-- 'laws.FnNeckTend': WHATEVER THE INPUT: true; the input reads as it did. -/
def fnNeckTendSpec : ChangeSpec := { name := "fnNeckTend", fn := fun _ => fun
  | [d] => { results := [.lit (.bool true)], args := [d] }
  | _ => none }
def fnNeckTendRow : OpenClaim := { program := "ytdanidpleofjgaagreat", sum := "8661122a7ba486bbfd3bdf1ecd24edff4c387ebda0c3a9247c0b3392fba5219a", func := "loop.example/tombolo/laws.FnNeckTend", spec := "fnNeckTend", inPlace := ["slices.overlaps[loop.example/tombolo/impl.Ver]", "slices.overlaps[loop.example/tombolo/impl.Dep]", "slices.overlaps[loop.example/tombolo/impl.Answer]"], unfollowed := true, recurses := true, apart := false }
def FnNeckTendSaid : Prop := fnNeckTendRow.holds Tryz.pinned (OpenSpec.ofChange fnNeckTendSpec)

/-- ITS FALSE NEIGHBOUR: 'it returns false'. Refute it at one input. -/
def fnNeckTendWrong : ChangeSpec := { name := "fnNeckTend", fn := fun _ => fun
  | [d] => { results := [.lit (.bool false)], args := [d] }
  | _ => none }
def FnNeckTendWrongFalsely : Prop := fnNeckTendRow.holds Tryz.pinned (OpenSpec.ofChange fnNeckTendWrong)

/-- 'laws.FnNeckBegin': WHATEVER THE INPUT: true; the input reads as it did. -/
def fnNeckBeginSpec : ChangeSpec := { name := "fnNeckBegin", fn := fun _ => fun
  | [d] => { results := [.lit (.bool true)], args := [d] }
  | _ => none }
def fnNeckBeginRow : OpenClaim := { program := "ytdanidpleofjgaagreat", sum := "8661122a7ba486bbfd3bdf1ecd24edff4c387ebda0c3a9247c0b3392fba5219a", func := "loop.example/tombolo/laws.FnNeckBegin", spec := "fnNeckBegin", inPlace := ["slices.overlaps[loop.example/tombolo/impl.Ver]"], unfollowed := true, recurses := true, apart := false }
def FnNeckBeginSaid : Prop := fnNeckBeginRow.holds Tryz.pinned (OpenSpec.ofChange fnNeckBeginSpec)

/-- ITS FALSE NEIGHBOUR: 'it returns false'. Refute it at one input. -/
def fnNeckBeginWrong : ChangeSpec := { name := "fnNeckBegin", fn := fun _ => fun
  | [d] => { results := [.lit (.bool false)], args := [d] }
  | _ => none }
def FnNeckBeginWrongFalsely : Prop := fnNeckBeginRow.holds Tryz.pinned (OpenSpec.ofChange fnNeckBeginWrong)

/-- 'laws.FnNeckSlots': WHATEVER THE INPUT: true; the input reads as it did. -/
def fnNeckSlotsSpec : ChangeSpec := { name := "fnNeckSlots", fn := fun _ => fun
  | [d] => { results := [.lit (.bool true)], args := [d] }
  | _ => none }
def fnNeckSlotsRow : OpenClaim := { program := "ytdanidpleofjgaagreat", sum := "8661122a7ba486bbfd3bdf1ecd24edff4c387ebda0c3a9247c0b3392fba5219a", func := "loop.example/tombolo/laws.FnNeckSlots", spec := "fnNeckSlots", inPlace := ["slices.overlaps[loop.example/tombolo/impl.Ver]", "slices.overlaps[loop.example/tombolo/impl.Dep]", "slices.overlaps[loop.example/tombolo/impl.Answer]"], unfollowed := true, recurses := true, apart := false }
def FnNeckSlotsSaid : Prop := fnNeckSlotsRow.holds Tryz.pinned (OpenSpec.ofChange fnNeckSlotsSpec)

/-- ITS FALSE NEIGHBOUR: 'it returns false'. Refute it at one input. -/
def fnNeckSlotsWrong : ChangeSpec := { name := "fnNeckSlots", fn := fun _ => fun
  | [d] => { results := [.lit (.bool false)], args := [d] }
  | _ => none }
def FnNeckSlotsWrongFalsely : Prop := fnNeckSlotsRow.holds Tryz.pinned (OpenSpec.ofChange fnNeckSlotsWrong)

/-- 'laws.FnNeckGiven': WHATEVER THE INPUT: true; the input reads as it did. -/
def fnNeckGivenSpec : ChangeSpec := { name := "fnNeckGiven", fn := fun _ => fun
  | [d] => { results := [.lit (.bool true)], args := [d] }
  | _ => none }
def fnNeckGivenRow : OpenClaim := { program := "ytdanidpleofjgaagreat", sum := "8661122a7ba486bbfd3bdf1ecd24edff4c387ebda0c3a9247c0b3392fba5219a", func := "loop.example/tombolo/laws.FnNeckGiven", spec := "fnNeckGiven", inPlace := ["slices.overlaps[loop.example/tombolo/impl.Ver]", "slices.overlaps[loop.example/tombolo/impl.Dep]", "slices.overlaps[loop.example/tombolo/impl.Answer]"], unfollowed := true, recurses := true, apart := false }
def FnNeckGivenSaid : Prop := fnNeckGivenRow.holds Tryz.pinned (OpenSpec.ofChange fnNeckGivenSpec)

/-- ITS FALSE NEIGHBOUR: 'it returns false'. Refute it at one input. -/
def fnNeckGivenWrong : ChangeSpec := { name := "fnNeckGiven", fn := fun _ => fun
  | [d] => { results := [.lit (.bool false)], args := [d] }
  | _ => none }
def FnNeckGivenWrongFalsely : Prop := fnNeckGivenRow.holds Tryz.pinned (OpenSpec.ofChange fnNeckGivenWrong)

/-- 'laws.FnNeckNewest': WHATEVER THE INPUT: true; the input reads as it did. -/
def fnNeckNewestSpec : ChangeSpec := { name := "fnNeckNewest", fn := fun _ => fun
  | [d] => { results := [.lit (.bool true)], args := [d] }
  | _ => none }
def fnNeckNewestRow : OpenClaim := { program := "ytdanidpleofjgaagreat", sum := "8661122a7ba486bbfd3bdf1ecd24edff4c387ebda0c3a9247c0b3392fba5219a", func := "loop.example/tombolo/laws.FnNeckNewest", spec := "fnNeckNewest", inPlace := ["slices.overlaps[loop.example/tombolo/impl.Ver]", "slices.overlaps[loop.example/tombolo/impl.Dep]", "slices.overlaps[loop.example/tombolo/impl.Answer]"], unfollowed := true, recurses := true, apart := false }
def FnNeckNewestSaid : Prop := fnNeckNewestRow.holds Tryz.pinned (OpenSpec.ofChange fnNeckNewestSpec)

/-- ITS FALSE NEIGHBOUR: 'it returns false'. Refute it at one input. -/
def fnNeckNewestWrong : ChangeSpec := { name := "fnNeckNewest", fn := fun _ => fun
  | [d] => { results := [.lit (.bool false)], args := [d] }
  | _ => none }
def FnNeckNewestWrongFalsely : Prop := fnNeckNewestRow.holds Tryz.pinned (OpenSpec.ofChange fnNeckNewestWrong)

/-- 'laws.FnNeckKept': WHATEVER THE INPUT: true; the input reads as it did. -/
def fnNeckKeptSpec : ChangeSpec := { name := "fnNeckKept", fn := fun _ => fun
  | [d] => { results := [.lit (.bool true)], args := [d] }
  | _ => none }
def fnNeckKeptRow : OpenClaim := { program := "ytdanidpleofjgaagreat", sum := "8661122a7ba486bbfd3bdf1ecd24edff4c387ebda0c3a9247c0b3392fba5219a", func := "loop.example/tombolo/laws.FnNeckKept", spec := "fnNeckKept", inPlace := ["slices.overlaps[loop.example/tombolo/impl.Ver]", "slices.overlaps[loop.example/tombolo/impl.Dep]", "slices.overlaps[loop.example/tombolo/impl.Answer]"], unfollowed := true, recurses := true, apart := false }
def FnNeckKeptSaid : Prop := fnNeckKeptRow.holds Tryz.pinned (OpenSpec.ofChange fnNeckKeptSpec)

/-- ITS FALSE NEIGHBOUR: 'it returns false'. Refute it at one input. -/
def fnNeckKeptWrong : ChangeSpec := { name := "fnNeckKept", fn := fun _ => fun
  | [d] => { results := [.lit (.bool false)], args := [d] }
  | _ => none }
def FnNeckKeptWrongFalsely : Prop := fnNeckKeptRow.holds Tryz.pinned (OpenSpec.ofChange fnNeckKeptWrong)

/-- 'laws.FnNeckBack': WHATEVER THE INPUT: true; the input reads as it did. -/
def fnNeckBackSpec : ChangeSpec := { name := "fnNeckBack", fn := fun _ => fun
  | [d] => { results := [.lit (.bool true)], args := [d] }
  | _ => none }
def fnNeckBackRow : OpenClaim := { program := "ytdanidpleofjgaagreat", sum := "8661122a7ba486bbfd3bdf1ecd24edff4c387ebda0c3a9247c0b3392fba5219a", func := "loop.example/tombolo/laws.FnNeckBack", spec := "fnNeckBack", inPlace := ["slices.overlaps[loop.example/tombolo/impl.Ver]", "slices.overlaps[loop.example/tombolo/impl.Dep]", "slices.overlaps[loop.example/tombolo/impl.Answer]"], unfollowed := true, recurses := true, apart := false }
def FnNeckBackSaid : Prop := fnNeckBackRow.holds Tryz.pinned (OpenSpec.ofChange fnNeckBackSpec)

/-- ITS FALSE NEIGHBOUR: 'it returns false'. Refute it at one input. -/
def fnNeckBackWrong : ChangeSpec := { name := "fnNeckBack", fn := fun _ => fun
  | [d] => { results := [.lit (.bool false)], args := [d] }
  | _ => none }
def FnNeckBackWrongFalsely : Prop := fnNeckBackRow.holds Tryz.pinned (OpenSpec.ofChange fnNeckBackWrong)

/-- 'laws.FnNeckMoved': WHATEVER THE INPUT: true; the input reads as it did. -/
def fnNeckMovedSpec : ChangeSpec := { name := "fnNeckMoved", fn := fun _ => fun
  | [d1, d2] => { results := [.lit (.bool true)], args := [d1, d2] }
  | _ => none }
def fnNeckMovedRow : OpenClaim := { program := "ytdanidpleofjgaagreat", sum := "8661122a7ba486bbfd3bdf1ecd24edff4c387ebda0c3a9247c0b3392fba5219a", func := "loop.example/tombolo/laws.FnNeckMoved", spec := "fnNeckMoved", inPlace := ["slices.overlaps[loop.example/tombolo/impl.Ver]", "slices.overlaps[loop.example/tombolo/impl.Dep]", "slices.overlaps[loop.example/tombolo/impl.Answer]"], unfollowed := true, recurses := true, apart := false }
def FnNeckMovedSaid : Prop := fnNeckMovedRow.holds Tryz.pinned (OpenSpec.ofChange fnNeckMovedSpec)

/-- ITS FALSE NEIGHBOUR: 'it returns false'. Refute it at one input. -/
def fnNeckMovedWrong : ChangeSpec := { name := "fnNeckMoved", fn := fun _ => fun
  | [d1, d2] => { results := [.lit (.bool false)], args := [d1, d2] }
  | _ => none }
def FnNeckMovedWrongFalsely : Prop := fnNeckMovedRow.holds Tryz.pinned (OpenSpec.ofChange fnNeckMovedWrong)

/- THE SECOND FORM. 'bulk': how many values and letters a reading holds, each counted each time it is reached (what is shared counts as often as it is met; a slice's spare places count too). A statement '..UptoSaid' is the law's where the arguments, and the package variables that the reading takes, are together of bulk at most 1048576: NARROWER than '..Said'. Prove '..Said' where nothing that the law and all that it calls make is longer than what came in: it says more and counts as full. Else prove '..UptoSaid'. A law counts once. -/
mutual
def uptoBulk {H : Type} : DataW H → Nat
  | .lit (.string bytes) => bytes.length + 1
  | .lit _ => 1
  | .nil => 1
  | .ptr d => uptoBulk d + 1
  | .slice elems spare => uptoBulkAll elems + uptoBulkAll spare + 1
  | .agg parts => uptoBulkAll parts + 1
  | .iface _ d => uptoBulk d + 1
  | .map entries => uptoBulkEntries entries + 1
  | .held _ => 1
def uptoBulkAll {H : Type} : List (DataW H) → Nat
  | [] => 0
  | d :: r => uptoBulk d + uptoBulkAll r
def uptoBulkEntries {H : Type} : List (Lit × DataW H) → Nat
  | [] => 0
  | x :: r => uptoBulkEntry x + uptoBulkEntries r
def uptoBulkEntry {H : Type} : Lit × DataW H → Nat
  | (.string bytes, d) => bytes.length + uptoBulk d + 1
  | (_, d) => uptoBulk d + 1
 end
def uptoSmall : (H : Type) → List (DataW H) → Bool := fun _ ds => decide (uptoBulkAll ds ≤ 1048576)
def OpenSpec.upto (s : _root_.Go.ChangeSpec) : _root_.Go.OpenSpec := { _root_.Go.OpenSpec.ofChange s with cond := some uptoSmall }

/-- 'laws.FnNeckDo', WHERE WHAT IT READS IS OF BULK AT MOST 1048576: true; the input reads as it did. -/
def fnNeckDoUptoRow : OpenClaim := { program := "ytdanidpleofjgaagreat", sum := "8661122a7ba486bbfd3bdf1ecd24edff4c387ebda0c3a9247c0b3392fba5219a", func := "loop.example/tombolo/laws.FnNeckDo", spec := "fnNeckDo", inPlace := ["slices.overlaps[loop.example/tombolo/impl.Ver]", "slices.overlaps[loop.example/tombolo/impl.Dep]", "slices.overlaps[loop.example/tombolo/impl.Answer]"], unfollowed := true, recurses := true, apart := false, narrowed := true }
def FnNeckDoUptoSaid : Prop := fnNeckDoUptoRow.holds Tryz.pinned (OpenSpec.upto fnNeckDoSpec)

/-- 'laws.FnNeckDown', WHERE WHAT IT READS IS OF BULK AT MOST 1048576: true; the input reads as it did. -/
def fnNeckDownUptoRow : OpenClaim := { program := "ytdanidpleofjgaagreat", sum := "8661122a7ba486bbfd3bdf1ecd24edff4c387ebda0c3a9247c0b3392fba5219a", func := "loop.example/tombolo/laws.FnNeckDown", spec := "fnNeckDown", inPlace := ["slices.overlaps[loop.example/tombolo/impl.Ver]", "slices.overlaps[loop.example/tombolo/impl.Dep]", "slices.overlaps[loop.example/tombolo/impl.Answer]"], unfollowed := true, recurses := true, apart := false, narrowed := true }
def FnNeckDownUptoSaid : Prop := fnNeckDownUptoRow.holds Tryz.pinned (OpenSpec.upto fnNeckDownSpec)

/-- 'laws.FnNeckEpochs', WHERE WHAT IT READS IS OF BULK AT MOST 1048576: true; the input reads as it did. -/
def fnNeckEpochsUptoRow : OpenClaim := { program := "ytdanidpleofjgaagreat", sum := "8661122a7ba486bbfd3bdf1ecd24edff4c387ebda0c3a9247c0b3392fba5219a", func := "loop.example/tombolo/laws.FnNeckEpochs", spec := "fnNeckEpochs", inPlace := ["slices.overlaps[loop.example/tombolo/impl.Ver]", "slices.overlaps[loop.example/tombolo/impl.Dep]", "slices.overlaps[loop.example/tombolo/impl.Answer]"], unfollowed := true, recurses := true, apart := false, narrowed := true }
def FnNeckEpochsUptoSaid : Prop := fnNeckEpochsUptoRow.holds Tryz.pinned (OpenSpec.upto fnNeckEpochsSpec)

/-- 'laws.FnNeckLost', WHERE WHAT IT READS IS OF BULK AT MOST 1048576: true; the input reads as it did. -/
def fnNeckLostUptoRow : OpenClaim := { program := "ytdanidpleofjgaagreat", sum := "8661122a7ba486bbfd3bdf1ecd24edff4c387ebda0c3a9247c0b3392fba5219a", func := "loop.example/tombolo/laws.FnNeckLost", spec := "fnNeckLost", inPlace := ["slices.overlaps[loop.example/tombolo/impl.Ver]", "slices.overlaps[loop.example/tombolo/impl.Dep]", "slices.overlaps[loop.example/tombolo/impl.Answer]"], unfollowed := true, recurses := true, apart := false, narrowed := true }
def FnNeckLostUptoSaid : Prop := fnNeckLostUptoRow.holds Tryz.pinned (OpenSpec.upto fnNeckLostSpec)

/-- 'laws.FnNeckOne', WHERE WHAT IT READS IS OF BULK AT MOST 1048576: true; the input reads as it did. -/
def fnNeckOneUptoRow : OpenClaim := { program := "ytdanidpleofjgaagreat", sum := "8661122a7ba486bbfd3bdf1ecd24edff4c387ebda0c3a9247c0b3392fba5219a", func := "loop.example/tombolo/laws.FnNeckOne", spec := "fnNeckOne", inPlace := ["slices.overlaps[loop.example/tombolo/impl.Ver]", "slices.overlaps[loop.example/tombolo/impl.Dep]", "slices.overlaps[loop.example/tombolo/impl.Answer]"], unfollowed := true, recurses := true, apart := false, narrowed := true }
def FnNeckOneUptoSaid : Prop := fnNeckOneUptoRow.holds Tryz.pinned (OpenSpec.upto fnNeckOneSpec)

/-- 'laws.FnNeckTend', WHERE WHAT IT READS IS OF BULK AT MOST 1048576: true; the input reads as it did. -/
def fnNeckTendUptoRow : OpenClaim := { program := "ytdanidpleofjgaagreat", sum := "8661122a7ba486bbfd3bdf1ecd24edff4c387ebda0c3a9247c0b3392fba5219a", func := "loop.example/tombolo/laws.FnNeckTend", spec := "fnNeckTend", inPlace := ["slices.overlaps[loop.example/tombolo/impl.Ver]", "slices.overlaps[loop.example/tombolo/impl.Dep]", "slices.overlaps[loop.example/tombolo/impl.Answer]"], unfollowed := true, recurses := true, apart := false, narrowed := true }
def FnNeckTendUptoSaid : Prop := fnNeckTendUptoRow.holds Tryz.pinned (OpenSpec.upto fnNeckTendSpec)

/-- 'laws.FnNeckBegin', WHERE WHAT IT READS IS OF BULK AT MOST 1048576: true; the input reads as it did. -/
def fnNeckBeginUptoRow : OpenClaim := { program := "ytdanidpleofjgaagreat", sum := "8661122a7ba486bbfd3bdf1ecd24edff4c387ebda0c3a9247c0b3392fba5219a", func := "loop.example/tombolo/laws.FnNeckBegin", spec := "fnNeckBegin", inPlace := ["slices.overlaps[loop.example/tombolo/impl.Ver]"], unfollowed := true, recurses := true, apart := false, narrowed := true }
def FnNeckBeginUptoSaid : Prop := fnNeckBeginUptoRow.holds Tryz.pinned (OpenSpec.upto fnNeckBeginSpec)

/-- 'laws.FnNeckSlots', WHERE WHAT IT READS IS OF BULK AT MOST 1048576: true; the input reads as it did. -/
def fnNeckSlotsUptoRow : OpenClaim := { program := "ytdanidpleofjgaagreat", sum := "8661122a7ba486bbfd3bdf1ecd24edff4c387ebda0c3a9247c0b3392fba5219a", func := "loop.example/tombolo/laws.FnNeckSlots", spec := "fnNeckSlots", inPlace := ["slices.overlaps[loop.example/tombolo/impl.Ver]", "slices.overlaps[loop.example/tombolo/impl.Dep]", "slices.overlaps[loop.example/tombolo/impl.Answer]"], unfollowed := true, recurses := true, apart := false, narrowed := true }
def FnNeckSlotsUptoSaid : Prop := fnNeckSlotsUptoRow.holds Tryz.pinned (OpenSpec.upto fnNeckSlotsSpec)

/-- 'laws.FnNeckGiven', WHERE WHAT IT READS IS OF BULK AT MOST 1048576: true; the input reads as it did. -/
def fnNeckGivenUptoRow : OpenClaim := { program := "ytdanidpleofjgaagreat", sum := "8661122a7ba486bbfd3bdf1ecd24edff4c387ebda0c3a9247c0b3392fba5219a", func := "loop.example/tombolo/laws.FnNeckGiven", spec := "fnNeckGiven", inPlace := ["slices.overlaps[loop.example/tombolo/impl.Ver]", "slices.overlaps[loop.example/tombolo/impl.Dep]", "slices.overlaps[loop.example/tombolo/impl.Answer]"], unfollowed := true, recurses := true, apart := false, narrowed := true }
def FnNeckGivenUptoSaid : Prop := fnNeckGivenUptoRow.holds Tryz.pinned (OpenSpec.upto fnNeckGivenSpec)

/-- 'laws.FnNeckNewest', WHERE WHAT IT READS IS OF BULK AT MOST 1048576: true; the input reads as it did. -/
def fnNeckNewestUptoRow : OpenClaim := { program := "ytdanidpleofjgaagreat", sum := "8661122a7ba486bbfd3bdf1ecd24edff4c387ebda0c3a9247c0b3392fba5219a", func := "loop.example/tombolo/laws.FnNeckNewest", spec := "fnNeckNewest", inPlace := ["slices.overlaps[loop.example/tombolo/impl.Ver]", "slices.overlaps[loop.example/tombolo/impl.Dep]", "slices.overlaps[loop.example/tombolo/impl.Answer]"], unfollowed := true, recurses := true, apart := false, narrowed := true }
def FnNeckNewestUptoSaid : Prop := fnNeckNewestUptoRow.holds Tryz.pinned (OpenSpec.upto fnNeckNewestSpec)

/-- 'laws.FnNeckKept', WHERE WHAT IT READS IS OF BULK AT MOST 1048576: true; the input reads as it did. -/
def fnNeckKeptUptoRow : OpenClaim := { program := "ytdanidpleofjgaagreat", sum := "8661122a7ba486bbfd3bdf1ecd24edff4c387ebda0c3a9247c0b3392fba5219a", func := "loop.example/tombolo/laws.FnNeckKept", spec := "fnNeckKept", inPlace := ["slices.overlaps[loop.example/tombolo/impl.Ver]", "slices.overlaps[loop.example/tombolo/impl.Dep]", "slices.overlaps[loop.example/tombolo/impl.Answer]"], unfollowed := true, recurses := true, apart := false, narrowed := true }
def FnNeckKeptUptoSaid : Prop := fnNeckKeptUptoRow.holds Tryz.pinned (OpenSpec.upto fnNeckKeptSpec)

/-- 'laws.FnNeckBack', WHERE WHAT IT READS IS OF BULK AT MOST 1048576: true; the input reads as it did. -/
def fnNeckBackUptoRow : OpenClaim := { program := "ytdanidpleofjgaagreat", sum := "8661122a7ba486bbfd3bdf1ecd24edff4c387ebda0c3a9247c0b3392fba5219a", func := "loop.example/tombolo/laws.FnNeckBack", spec := "fnNeckBack", inPlace := ["slices.overlaps[loop.example/tombolo/impl.Ver]", "slices.overlaps[loop.example/tombolo/impl.Dep]", "slices.overlaps[loop.example/tombolo/impl.Answer]"], unfollowed := true, recurses := true, apart := false, narrowed := true }
def FnNeckBackUptoSaid : Prop := fnNeckBackUptoRow.holds Tryz.pinned (OpenSpec.upto fnNeckBackSpec)

/-- 'laws.FnNeckMoved', WHERE WHAT IT READS IS OF BULK AT MOST 1048576: true; the input reads as it did. -/
def fnNeckMovedUptoRow : OpenClaim := { program := "ytdanidpleofjgaagreat", sum := "8661122a7ba486bbfd3bdf1ecd24edff4c387ebda0c3a9247c0b3392fba5219a", func := "loop.example/tombolo/laws.FnNeckMoved", spec := "fnNeckMoved", inPlace := ["slices.overlaps[loop.example/tombolo/impl.Ver]", "slices.overlaps[loop.example/tombolo/impl.Dep]", "slices.overlaps[loop.example/tombolo/impl.Answer]"], unfollowed := true, recurses := true, apart := false, narrowed := true }
def FnNeckMovedUptoSaid : Prop := fnNeckMovedUptoRow.holds Tryz.pinned (OpenSpec.upto fnNeckMovedSpec)

end Rows
end Go.Proofs.YtdanidpleofjgaaGreat
