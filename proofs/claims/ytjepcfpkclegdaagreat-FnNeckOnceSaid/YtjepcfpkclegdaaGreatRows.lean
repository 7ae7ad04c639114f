/-
  No cell of these rows narrows 'for every input' (looked for: loops, veiled, ifaces, maps, wideKeys, modest, calm, conditions, laid).
  DERIVED. THE GIVEN ROWS OF THIS SEAT. 16 by the template 'for every input the law returns true; each argument reads behind the call as it read before'; 0 by the template 'total and deterministic' (their statements: YtjepcfpkclegdaaGreatTotals.lean).
  GIVEN WITH THE SEED: the statements are not yours to turn. If you find one false, say at which input.
  Laid BY PROGRAM, IN A SANDBOX (cutbox-rows.mjs): the forced cells as the released guide's own fill.sh prints them over the translation 5423e7c605df580e… (all of the seat's roots in one cut). By AI agents, Wed Nov 11 2026. No macro, syntax, notation, axiom, sorry.
-/
import Derived.Test.YtjepcfpkclegdaaGreatChecked
import GoSem.Claim
import GoSem.ClaimJoined
import GoSem.ClaimMapViews
import Derived.JoinedTies
import Derived.KernelRfl
namespace Go.Proofs.YtjepcfpkclegdaaGreat
/- THE CELL 'sum', in the pinned program and in every row, IS THE sha256 OF THE DUMP (.gsa) THAT YtjepcfpkclegdaaGreatProg.lean LOADS. Nothing in Lean hashes anything: it is a label: what it is worth is what the hold of that sum in a sandbox is worth. -/
noncomputable def Tryz.pinned : Pinned := { name := "ytjepcfpkclegdaagreat", sum := "5423e7c605df580e928133ee727da7a6089fe31801ff32f9eb20bbbbf37b531d", checked := Tryz.checked }
namespace Rows
def none {H : Type} : Left H := { results := [], args := [] }

/-- 'laws.FnNeckPuts': WHATEVER THE INPUT: true; the input reads as it did. -/
def fnNeckPutsSpec : ChangeSpec := { name := "fnNeckPuts", fn := fun _ => fun
  | [d] => { results := [.lit (.bool true)], args := [d] }
  | _ => none }
def fnNeckPutsRow : OpenClaim := { program := "ytjepcfpkclegdaagreat", sum := "5423e7c605df580e928133ee727da7a6089fe31801ff32f9eb20bbbbf37b531d", func := "loop.example/tombolo/laws.FnNeckPuts", spec := "fnNeckPuts", inPlace := ["slices.overlaps[loop.example/tombolo/impl.Ver]", "slices.overlaps[loop.example/tombolo/impl.Dep]", "slices.overlaps[loop.example/tombolo/impl.Answer]"], unfollowed := true, recurses := true, plainKeys := false, apart := false }
def FnNeckPutsSaid : Prop := fnNeckPutsRow.holds Tryz.pinned (OpenSpec.ofChange fnNeckPutsSpec)

/-- ITS FALSE NEIGHBOUR: 'it returns false'. Refute it at one input. -/
def fnNeckPutsWrong : ChangeSpec := { name := "fnNeckPuts", fn := fun _ => fun
  | [d] => { results := [.lit (.bool false)], args := [d] }
  | _ => none }
def FnNeckPutsWrongFalsely : Prop := fnNeckPutsRow.holds Tryz.pinned (OpenSpec.ofChange fnNeckPutsWrong)

/-- 'laws.FnNeckRising': WHATEVER THE INPUT: true; the input reads as it did. -/
def fnNeckRisingSpec : ChangeSpec := { name := "fnNeckRising", fn := fun _ => fun
  | [d] => { results := [.lit (.bool true)], args := [d] }
  | _ => none }
def fnNeckRisingRow : OpenClaim := { program := "ytjepcfpkclegdaagreat", sum := "5423e7c605df580e928133ee727da7a6089fe31801ff32f9eb20bbbbf37b531d", func := "loop.example/tombolo/laws.FnNeckRising", spec := "fnNeckRising", inPlace := ["slices.overlaps[loop.example/tombolo/impl.Ver]", "slices.overlaps[loop.example/tombolo/impl.Dep]", "slices.overlaps[loop.example/tombolo/impl.Answer]"], unfollowed := true, recurses := true, plainKeys := false, apart := false }
def FnNeckRisingSaid : Prop := fnNeckRisingRow.holds Tryz.pinned (OpenSpec.ofChange fnNeckRisingSpec)

/-- ITS FALSE NEIGHBOUR: 'it returns false'. Refute it at one input. -/
def fnNeckRisingWrong : ChangeSpec := { name := "fnNeckRising", fn := fun _ => fun
  | [d] => { results := [.lit (.bool false)], args := [d] }
  | _ => none }
def FnNeckRisingWrongFalsely : Prop := fnNeckRisingRow.holds Tryz.pinned (OpenSpec.ofChange fnNeckRisingWrong)

/-- 'laws.FnNeckReads': WHATEVER THE INPUT: true; the input reads as it did. -/
def fnNeckReadsSpec : ChangeSpec := { name := "fnNeckReads", fn := fun _ => fun
  | [d] => { results := [.lit (.bool true)], args := [d] }
  | _ => none }
def fnNeckReadsRow : OpenClaim := { program := "ytjepcfpkclegdaagreat", sum := "5423e7c605df580e928133ee727da7a6089fe31801ff32f9eb20bbbbf37b531d", func := "loop.example/tombolo/laws.FnNeckReads", spec := "fnNeckReads", inPlace := ["slices.overlaps[loop.example/tombolo/impl.Ver]", "slices.overlaps[loop.example/tombolo/impl.Dep]", "slices.overlaps[loop.example/tombolo/impl.Answer]"], unfollowed := true, recurses := true, plainKeys := false, apart := false }
def FnNeckReadsSaid : Prop := fnNeckReadsRow.holds Tryz.pinned (OpenSpec.ofChange fnNeckReadsSpec)

/-- ITS FALSE NEIGHBOUR: 'it returns false'. Refute it at one input. -/
def fnNeckReadsWrong : ChangeSpec := { name := "fnNeckReads", fn := fun _ => fun
  | [d] => { results := [.lit (.bool false)], args := [d] }
  | _ => none }
def FnNeckReadsWrongFalsely : Prop := fnNeckReadsRow.holds Tryz.pinned (OpenSpec.ofChange fnNeckReadsWrong)

/-- 'laws.FnNeckSeen': WHATEVER THE INPUT: true; the input reads as it did. -/
def fnNeckSeenSpec : ChangeSpec := { name := "fnNeckSeen", fn := fun _ => fun
  | [d] => { results := [.lit (.bool true)], args := [d] }
  | _ => none }
def fnNeckSeenRow : OpenClaim := { program := "ytjepcfpkclegdaagreat", sum := "5423e7c605df580e928133ee727da7a6089fe31801ff32f9eb20bbbbf37b531d", func := "loop.example/tombolo/laws.FnNeckSeen", spec := "fnNeckSeen", inPlace := ["slices.overlaps[loop.example/tombolo/impl.Ver]", "slices.overlaps[loop.example/tombolo/impl.Dep]", "slices.overlaps[loop.example/tombolo/impl.Answer]"], unfollowed := true, recurses := true, plainKeys := false, apart := false }
def FnNeckSeenSaid : Prop := fnNeckSeenRow.holds Tryz.pinned (OpenSpec.ofChange fnNeckSeenSpec)

/-- ITS FALSE NEIGHBOUR: 'it returns false'. Refute it at one input. -/
def fnNeckSeenWrong : ChangeSpec := { name := "fnNeckSeen", fn := fun _ => fun
  | [d] => { results := [.lit (.bool false)], args := [d] }
  | _ => none }
def FnNeckSeenWrongFalsely : Prop := fnNeckSeenRow.holds Tryz.pinned (OpenSpec.ofChange fnNeckSeenWrong)

/-- 'laws.FnNeckMore': WHATEVER THE INPUT: true; the input reads as it did. -/
def fnNeckMoreSpec : ChangeSpec := { name := "fnNeckMore", fn := fun _ => fun
  | [d1, d2] => { results := [.lit (.bool true)], args := [d1, d2] }
  | _ => none }
def fnNeckMoreRow : OpenClaim := { program := "ytjepcfpkclegdaagreat", sum := "5423e7c605df580e928133ee727da7a6089fe31801ff32f9eb20bbbbf37b531d", func := "loop.example/tombolo/laws.FnNeckMore", spec := "fnNeckMore", inPlace := ["slices.overlaps[loop.example/tombolo/impl.Ver]", "slices.overlaps[loop.example/tombolo/impl.Dep]", "slices.overlaps[loop.example/tombolo/impl.Answer]"], unfollowed := true, recurses := true, plainKeys := false, apart := false }
def FnNeckMoreSaid : Prop := fnNeckMoreRow.holds Tryz.pinned (OpenSpec.ofChange fnNeckMoreSpec)

/-- ITS FALSE NEIGHBOUR: 'it returns false'. Refute it at one input. -/
def fnNeckMoreWrong : ChangeSpec := { name := "fnNeckMore", fn := fun _ => fun
  | [d1, d2] => { results := [.lit (.bool false)], args := [d1, d2] }
  | _ => none }
def FnNeckMoreWrongFalsely : Prop := fnNeckMoreRow.holds Tryz.pinned (OpenSpec.ofChange fnNeckMoreWrong)

/-- 'laws.FnNeckFew': WHATEVER THE INPUT: true; the input reads as it did. -/
def fnNeckFewSpec : ChangeSpec := { name := "fnNeckFew", fn := fun _ => fun
  | [d] => { results := [.lit (.bool true)], args := [d] }
  | _ => none }
def fnNeckFewRow : OpenClaim := { program := "ytjepcfpkclegdaagreat", sum := "5423e7c605df580e928133ee727da7a6089fe31801ff32f9eb20bbbbf37b531d", func := "loop.example/tombolo/laws.FnNeckFew", spec := "fnNeckFew", inPlace := ["slices.overlaps[loop.example/tombolo/impl.Ver]", "slices.overlaps[loop.example/tombolo/impl.Dep]", "slices.overlaps[loop.example/tombolo/impl.Answer]"], unfollowed := true, recurses := true, plainKeys := false, apart := false }
def FnNeckFewSaid : Prop := fnNeckFewRow.holds Tryz.pinned (OpenSpec.ofChange fnNeckFewSpec)

/-- ITS FALSE NEIGHBOUR: 'it returns false'. Refute it at one input. -/
def fnNeckFewWrong : ChangeSpec := { name := "fnNeckFew", fn := fun _ => fun
  | [d] => { results := [.lit (.bool false)], args := [d] }
  | _ => none }
def FnNeckFewWrongFalsely : Prop := fnNeckFewRow.holds Tryz.pinned (OpenSpec.ofChange fnNeckFewWrong)

/-- 'laws.FnNeckAfter': WHATEVER THE INPUT: true; the input reads as it did. -/
def fnNeckAfterSpec : ChangeSpec := { name := "fnNeckAfter", fn := fun _ => fun
  | [d] => { results := [.lit (.bool true)], args := [d] }
  | _ => none }
def fnNeckAfterRow : OpenClaim := { program := "ytjepcfpkclegdaagreat", sum := "5423e7c605df580e928133ee727da7a6089fe31801ff32f9eb20bbbbf37b531d", func := "loop.example/tombolo/laws.FnNeckAfter", spec := "fnNeckAfter", inPlace := ["slices.overlaps[loop.example/tombolo/impl.Ver]", "slices.overlaps[loop.example/tombolo/impl.Dep]", "slices.overlaps[loop.example/tombolo/impl.Answer]"], unfollowed := true, recurses := true, plainKeys := false, apart := false }
def FnNeckAfterSaid : Prop := fnNeckAfterRow.holds Tryz.pinned (OpenSpec.ofChange fnNeckAfterSpec)

/-- ITS FALSE NEIGHBOUR: 'it returns false'. Refute it at one input. -/
def fnNeckAfterWrong : ChangeSpec := { name := "fnNeckAfter", fn := fun _ => fun
  | [d] => { results := [.lit (.bool false)], args := [d] }
  | _ => none }
def FnNeckAfterWrongFalsely : Prop := fnNeckAfterRow.holds Tryz.pinned (OpenSpec.ofChange fnNeckAfterWrong)

/-- 'laws.FnNeckKnown': WHATEVER THE INPUT: true; the input reads as it did. -/
def fnNeckKnownSpec : ChangeSpec := { name := "fnNeckKnown", fn := fun _ => fun
  | [d] => { results := [.lit (.bool true)], args := [d] }
  | _ => none }
def fnNeckKnownRow : OpenClaim := { program := "ytjepcfpkclegdaagreat", sum := "5423e7c605df580e928133ee727da7a6089fe31801ff32f9eb20bbbbf37b531d", func := "loop.example/tombolo/laws.FnNeckKnown", spec := "fnNeckKnown", inPlace := ["slices.overlaps[loop.example/tombolo/impl.Ver]", "slices.overlaps[loop.example/tombolo/impl.Dep]", "slices.overlaps[loop.example/tombolo/impl.Answer]"], unfollowed := true, recurses := true, plainKeys := false, apart := false }
def FnNeckKnownSaid : Prop := fnNeckKnownRow.holds Tryz.pinned (OpenSpec.ofChange fnNeckKnownSpec)

/-- ITS FALSE NEIGHBOUR: 'it returns false'. Refute it at one input. -/
def fnNeckKnownWrong : ChangeSpec := { name := "fnNeckKnown", fn := fun _ => fun
  | [d] => { results := [.lit (.bool false)], args := [d] }
  | _ => none }
def FnNeckKnownWrongFalsely : Prop := fnNeckKnownRow.holds Tryz.pinned (OpenSpec.ofChange fnNeckKnownWrong)

/-- 'laws.FnNeckPast': WHATEVER THE INPUT: true; the input reads as it did. -/
def fnNeckPastSpec : ChangeSpec := { name := "fnNeckPast", fn := fun _ => fun
  | [d] => { results := [.lit (.bool true)], args := [d] }
  | _ => none }
def fnNeckPastRow : OpenClaim := { program := "ytjepcfpkclegdaagreat", sum := "5423e7c605df580e928133ee727da7a6089fe31801ff32f9eb20bbbbf37b531d", func := "loop.example/tombolo/laws.FnNeckPast", spec := "fnNeckPast", inPlace := ["slices.overlaps[loop.example/tombolo/impl.Ver]", "slices.overlaps[loop.example/tombolo/impl.Dep]", "slices.overlaps[loop.example/tombolo/impl.Answer]"], unfollowed := true, recurses := true, plainKeys := false, apart := false }
def FnNeckPastSaid : Prop := fnNeckPastRow.holds Tryz.pinned (OpenSpec.ofChange fnNeckPastSpec)

/-- ITS FALSE NEIGHBOUR: 'it returns false'. Refute it at one input. -/
def fnNeckPastWrong : ChangeSpec := { name := "fnNeckPast", fn := fun _ => fun
  | [d] => { results := [.lit (.bool false)], args := [d] }
  | _ => none }
def FnNeckPastWrongFalsely : Prop := fnNeckPastRow.holds Tryz.pinned (OpenSpec.ofChange fnNeckPastWrong)

/-- 'laws.FnNeckDeep': WHATEVER THE INPUT: true; the input reads as it did. -/
def fnNeckDeepSpec : ChangeSpec := { name := "fnNeckDeep", fn := fun _ => fun
  | [d] => { results := [.lit (.bool true)], args := [d] }
  | _ => none }
def fnNeckDeepRow : OpenClaim := { program := "ytjepcfpkclegdaagreat", sum := "5423e7c605df580e928133ee727da7a6089fe31801ff32f9eb20bbbbf37b531d", func := "loop.example/tombolo/laws.FnNeckDeep", spec := "fnNeckDeep", inPlace := ["slices.overlaps[loop.example/tombolo/impl.Ver]", "slices.overlaps[loop.example/tombolo/impl.Dep]", "slices.overlaps[loop.example/tombolo/impl.Answer]"], unfollowed := true, recurses := true, plainKeys := false, apart := false }
def FnNeckDeepSaid : Prop := fnNeckDeepRow.holds Tryz.pinned (OpenSpec.ofChange fnNeckDeepSpec)

/-- ITS FALSE NEIGHBOUR: 'it returns false'. Refute it at one input. -/
def fnNeckDeepWrong : ChangeSpec := { name := "fnNeckDeep", fn := fun _ => fun
  | [d] => { results := [.lit (.bool false)], args := [d] }
  | _ => none }
def FnNeckDeepWrongFalsely : Prop := fnNeckDeepRow.holds Tryz.pinned (OpenSpec.ofChange fnNeckDeepWrong)

/-- 'laws.FnNeckDebts': WHATEVER THE INPUT: true; the input reads as it did. -/
def fnNeckDebtsSpec : ChangeSpec := { name := "fnNeckDebts", fn := fun _ => fun
  | [d] => { results := [.lit (.bool true)], args := [d] }
  | _ => none }
def fnNeckDebtsRow : OpenClaim := { program := "ytjepcfpkclegdaagreat", sum := "5423e7c605df580e928133ee727da7a6089fe31801ff32f9eb20bbbbf37b531d", func := "loop.example/tombolo/laws.FnNeckDebts", spec := "fnNeckDebts", inPlace := ["slices.overlaps[loop.example/tombolo/impl.Ver]", "slices.overlaps[loop.example/tombolo/impl.Dep]", "slices.overlaps[loop.example/tombolo/impl.Answer]"], unfollowed := true, recurses := true, plainKeys := false, apart := false }
def FnNeckDebtsSaid : Prop := fnNeckDebtsRow.holds Tryz.pinned (OpenSpec.ofChange fnNeckDebtsSpec)

/-- ITS FALSE NEIGHBOUR: 'it returns false'. Refute it at one input. -/
def fnNeckDebtsWrong : ChangeSpec := { name := "fnNeckDebts", fn := fun _ => fun
  | [d] => { results := [.lit (.bool false)], args := [d] }
  | _ => none }
def FnNeckDebtsWrongFalsely : Prop := fnNeckDebtsRow.holds Tryz.pinned (OpenSpec.ofChange fnNeckDebtsWrong)

/-- 'laws.FnNeckVals': WHATEVER THE INPUT: true; the input reads as it did. -/
def fnNeckValsSpec : ChangeSpec := { name := "fnNeckVals", fn := fun _ => fun
  | [d] => { results := [.lit (.bool true)], args := [d] }
  | _ => none }
def fnNeckValsRow : OpenClaim := { program := "ytjepcfpkclegdaagreat", sum := "5423e7c605df580e928133ee727da7a6089fe31801ff32f9eb20bbbbf37b531d", func := "loop.example/tombolo/laws.FnNeckVals", spec := "fnNeckVals", inPlace := ["slices.overlaps[loop.example/tombolo/impl.Ver]", "slices.overlaps[loop.example/tombolo/impl.Dep]", "slices.overlaps[loop.example/tombolo/impl.Answer]"], unfollowed := true, recurses := true, plainKeys := false, apart := false }
def FnNeckValsSaid : Prop := fnNeckValsRow.holds Tryz.pinned (OpenSpec.ofChange fnNeckValsSpec)

/-- ITS FALSE NEIGHBOUR: 'it returns false'. Refute it at one input. -/
def fnNeckValsWrong : ChangeSpec := { name := "fnNeckVals", fn := fun _ => fun
  | [d] => { results := [.lit (.bool false)], args := [d] }
  | _ => none }
def FnNeckValsWrongFalsely : Prop := fnNeckValsRow.holds Tryz.pinned (OpenSpec.ofChange fnNeckValsWrong)

/-- 'laws.FnNeckGrow': WHATEVER THE INPUT: true; the input reads as it did. -/
def fnNeckGrowSpec : ChangeSpec := { name := "fnNeckGrow", fn := fun _ => fun
  | [d1, d2] => { results := [.lit (.bool true)], args := [d1, d2] }
  | _ => none }
def fnNeckGrowRow : OpenClaim := { program := "ytjepcfpkclegdaagreat", sum := "5423e7c605df580e928133ee727da7a6089fe31801ff32f9eb20bbbbf37b531d", func := "loop.example/tombolo/laws.FnNeckGrow", spec := "fnNeckGrow", inPlace := ["slices.overlaps[loop.example/tombolo/impl.Ver]", "slices.overlaps[loop.example/tombolo/impl.Dep]", "slices.overlaps[loop.example/tombolo/impl.Answer]"], unfollowed := true, recurses := true, plainKeys := false, apart := false }
def FnNeckGrowSaid : Prop := fnNeckGrowRow.holds Tryz.pinned (OpenSpec.ofChange fnNeckGrowSpec)

/-- ITS FALSE NEIGHBOUR: 'it returns false'. Refute it at one input. -/
def fnNeckGrowWrong : ChangeSpec := { name := "fnNeckGrow", fn := fun _ => fun
  | [d1, d2] => { results := [.lit (.bool false)], args := [d1, d2] }
  | _ => none }
def FnNeckGrowWrongFalsely : Prop := fnNeckGrowRow.holds Tryz.pinned (OpenSpec.ofChange fnNeckGrowWrong)

/-- 'laws.FnNeckOnce': WHATEVER THE INPUT: true; the input reads as it did. -/
def fnNeckOnceSpec : ChangeSpec := { name := "fnNeckOnce", fn := fun _ => fun
  | [d] => { results := [.lit (.bool true)], args := [d] }
  | _ => none }
def fnNeckOnceRow : OpenClaim := { program := "ytjepcfpkclegdaagreat", sum := "5423e7c605df580e928133ee727da7a6089fe31801ff32f9eb20bbbbf37b531d", func := "loop.example/tombolo/laws.FnNeckOnce", spec := "fnNeckOnce", inPlace := ["slices.overlaps[loop.example/tombolo/impl.Ver]", "slices.overlaps[loop.example/tombolo/impl.Dep]", "slices.overlaps[loop.example/tombolo/impl.Answer]"], unfollowed := true, recurses := true, plainKeys := false, apart := false }
def FnNeckOnceSaid : Prop := fnNeckOnceRow.holds Tryz.pinned (OpenSpec.ofChange fnNeckOnceSpec)

/-- ITS FALSE NEIGHBOUR: 'it returns false'. Refute it at one input. -/
def fnNeckOnceWrong : ChangeSpec := { name := "fnNeckOnce", fn := fun _ => fun
  | [d] => { results := [.lit (.bool false)], args := [d] }
  | _ => none }
def FnNeckOnceWrongFalsely : Prop := fnNeckOnceRow.holds Tryz.pinned (OpenSpec.ofChange fnNeckOnceWrong)

/-- 'laws.FnNeckAlone': WHATEVER THE INPUT: true; the input reads as it did. -/
def fnNeckAloneSpec : ChangeSpec := { name := "fnNeckAlone", fn := fun _ => fun
  | [d] => { results := [.lit (.bool true)], args := [d] }
  | _ => none }
def fnNeckAloneRow : OpenClaim := { program := "ytjepcfpkclegdaagreat", sum := "5423e7c605df580e928133ee727da7a6089fe31801ff32f9eb20bbbbf37b531d", func := "loop.example/tombolo/laws.FnNeckAlone", spec := "fnNeckAlone", inPlace := ["slices.overlaps[loop.example/tombolo/impl.Ver]", "slices.overlaps[loop.example/tombolo/impl.Dep]", "slices.overlaps[loop.example/tombolo/impl.Answer]"], unfollowed := true, recurses := true, plainKeys := false, apart := false }
def FnNeckAloneSaid : Prop := fnNeckAloneRow.holds Tryz.pinned (OpenSpec.ofChange fnNeckAloneSpec)

/-- ITS FALSE NEIGHBOUR: 'it returns false'. Refute it at one input. -/
def fnNeckAloneWrong : ChangeSpec := { name := "fnNeckAlone", fn := fun _ => fun
  | [d] => { results := [.lit (.bool false)], args := [d] }
  | _ => none }
def FnNeckAloneWrongFalsely : Prop := fnNeckAloneRow.holds Tryz.pinned (OpenSpec.ofChange fnNeckAloneWrong)

/-- 'laws.FnNeckTop': WHATEVER THE INPUT: true; the input reads as it did. -/
def fnNeckTopSpec : ChangeSpec := { name := "fnNeckTop", fn := fun _ => fun
  | [d] => { results := [.lit (.bool true)], args := [d] }
  | _ => none }
def fnNeckTopRow : OpenClaim := { program := "ytjepcfpkclegdaagreat", sum := "5423e7c605df580e928133ee727da7a6089fe31801ff32f9eb20bbbbf37b531d", func := "loop.example/tombolo/laws.FnNeckTop", spec := "fnNeckTop", inPlace := ["slices.overlaps[loop.example/tombolo/impl.Ver]", "slices.overlaps[loop.example/tombolo/impl.Dep]", "slices.overlaps[loop.example/tombolo/impl.Answer]"], unfollowed := true, recurses := true, plainKeys := false, apart := false }
def FnNeckTopSaid : Prop := fnNeckTopRow.holds Tryz.pinned (OpenSpec.ofChange fnNeckTopSpec)

/-- ITS FALSE NEIGHBOUR: 'it returns false'. Refute it at one input. -/
def fnNeckTopWrong : ChangeSpec := { name := "fnNeckTop", fn := fun _ => fun
  | [d] => { results := [.lit (.bool false)], args := [d] }
  | _ => none }
def FnNeckTopWrongFalsely : Prop := fnNeckTopRow.holds Tryz.pinned (OpenSpec.ofChange fnNeckTopWrong)

/- THE SECOND FORM. 'bulk': how many values and letters a reading holds, each counted each time it is reached (what is shared counts as often as it is met; a slice's spare places count too). A statement '..UptoSaid' is the law's where the arguments, and the package variables that the reading takes, are together of bulk at most 1048576: NARROWER than '..Said'. Prove '..Said' where nothing that the law and all that it calls make is longer than what came in: it says more and counts as full. Else prove '..UptoSaid'. A law counts once. -/
mutual
def uptoBulk {H : Type} : DataW H → Nat
  | .lit (.string bytes) => bytes.length + 1
  | .lit _ => 1
  | .nil => 1
  | .ptr d => uptoBulk d + 1
  | .slice elems spare => uptoBulkAll elems + uptoBulkAll spare + 1
  | .agg parts => uptoBulkAll parts + 1
  | .iface _ d => uptoBulk d + 1
  | .map entries => uptoBulkEntries entries + 1
  | .held _ => 1
def uptoBulkAll {H : Type} : List (DataW H) → Nat
  | [] => 0
  | d :: r => uptoBulk d + uptoBulkAll r
def uptoBulkEntries {H : Type} : List (Lit × DataW H) → Nat
  | [] => 0
  | x :: r => uptoBulkEntry x + uptoBulkEntries r
def uptoBulkEntry {H : Type} : Lit × DataW H → Nat
  | (.string bytes, d) => bytes.length + uptoBulk d + 1
  | (_, d) => uptoBulk d + 1
 end
def uptoSmall : (H : Type) → List (DataW H) → Bool := fun _ ds => decide (uptoBulkAll ds ≤ 1048576)
def OpenSpec.upto (s : _root_.Go.ChangeSpec) : _root_.Go.OpenSpec := { _root_.Go.OpenSpec.ofChange s with cond := some uptoSmall }

/-- 'laws.FnNeckPuts', WHERE WHAT IT READS IS OF BULK AT MOST 1048576: true; the input reads as it did. -/
def fnNeckPutsUptoRow : OpenClaim := { program := "ytjepcfpkclegdaagreat", sum := "5423e7c605df580e928133ee727da7a6089fe31801ff32f9eb20bbbbf37b531d", func := "loop.example/tombolo/laws.FnNeckPuts", spec := "fnNeckPuts", inPlace := ["slices.overlaps[loop.example/tombolo/impl.Ver]", "slices.overlaps[loop.example/tombolo/impl.Dep]", "slices.overlaps[loop.example/tombolo/impl.Answer]"], unfollowed := true, recurses := true, plainKeys := false, apart := false, narrowed := true }
def FnNeckPutsUptoSaid : Prop := fnNeckPutsUptoRow.holds Tryz.pinned (OpenSpec.upto fnNeckPutsSpec)

/-- 'laws.FnNeckRising', WHERE WHAT IT READS IS OF BULK AT MOST 1048576: true; the input reads as it did. -/
def fnNeckRisingUptoRow : OpenClaim := { program := "ytjepcfpkclegdaagreat", sum := "5423e7c605df580e928133ee727da7a6089fe31801ff32f9eb20bbbbf37b531d", func := "loop.example/tombolo/laws.FnNeckRising", spec := "fnNeckRising", inPlace := ["slices.overlaps[loop.example/tombolo/impl.Ver]", "slices.overlaps[loop.example/tombolo/impl.Dep]", "slices.overlaps[loop.example/tombolo/impl.Answer]"], unfollowed := true, recurses := true, plainKeys := false, apart := false, narrowed := true }
def FnNeckRisingUptoSaid : Prop := fnNeckRisingUptoRow.holds Tryz.pinned (OpenSpec.upto fnNeckRisingSpec)

/-- 'laws.FnNeckReads', WHERE WHAT IT READS IS OF BULK AT MOST 1048576: true; the input reads as it did. -/
def fnNeckReadsUptoRow : OpenClaim := { program := "ytjepcfpkclegdaagreat", sum := "5423e7c605df580e928133ee727da7a6089fe31801ff32f9eb20bbbbf37b531d", func := "loop.example/tombolo/laws.FnNeckReads", spec := "fnNeckReads", inPlace := ["slices.overlaps[loop.example/tombolo/impl.Ver]", "slices.overlaps[loop.example/tombolo/impl.Dep]", "slices.overlaps[loop.example/tombolo/impl.Answer]"], unfollowed := true, recurses := true, plainKeys := false, apart := false, narrowed := true }
def FnNeckReadsUptoSaid : Prop := fnNeckReadsUptoRow.holds Tryz.pinned (OpenSpec.upto fnNeckReadsSpec)

/-- 'laws.FnNeckSeen', WHERE WHAT IT READS IS OF BULK AT MOST 1048576: true; the input reads as it did. -/
def fnNeckSeenUptoRow : OpenClaim := { program := "ytjepcfpkclegdaagreat", sum := "5423e7c605df580e928133ee727da7a6089fe31801ff32f9eb20bbbbf37b531d", func := "loop.example/tombolo/laws.FnNeckSeen", spec := "fnNeckSeen", inPlace := ["slices.overlaps[loop.example/tombolo/impl.Ver]", "slices.overlaps[loop.example/tombolo/impl.Dep]", "slices.overlaps[loop.example/tombolo/impl.Answer]"], unfollowed := true, recurses := true, plainKeys := false, apart := false, narrowed := true }
def FnNeckSeenUptoSaid : Prop := fnNeckSeenUptoRow.holds Tryz.pinned (OpenSpec.upto fnNeckSeenSpec)

/-- 'laws.FnNeckMore', WHERE WHAT IT READS IS OF BULK AT MOST 1048576: true; the input reads as it did. -/
def fnNeckMoreUptoRow : OpenClaim := { program := "ytjepcfpkclegdaagreat", sum := "5423e7c605df580e928133ee727da7a6089fe31801ff32f9eb20bbbbf37b531d", func := "loop.example/tombolo/laws.FnNeckMore", spec := "fnNeckMore", inPlace := ["slices.overlaps[loop.example/tombolo/impl.Ver]", "slices.overlaps[loop.example/tombolo/impl.Dep]", "slices.overlaps[loop.example/tombolo/impl.Answer]"], unfollowed := true, recurses := true, plainKeys := false, apart := false, narrowed := true }
def FnNeckMoreUptoSaid : Prop := fnNeckMoreUptoRow.holds Tryz.pinned (OpenSpec.upto fnNeckMoreSpec)

/-- 'laws.FnNeckFew', WHERE WHAT IT READS IS OF BULK AT MOST 1048576: true; the input reads as it did. -/
def fnNeckFewUptoRow : OpenClaim := { program := "ytjepcfpkclegdaagreat", sum := "5423e7c605df580e928133ee727da7a6089fe31801ff32f9eb20bbbbf37b531d", func := "loop.example/tombolo/laws.FnNeckFew", spec := "fnNeckFew", inPlace := ["slices.overlaps[loop.example/tombolo/impl.Ver]", "slices.overlaps[loop.example/tombolo/impl.Dep]", "slices.overlaps[loop.example/tombolo/impl.Answer]"], unfollowed := true, recurses := true, plainKeys := false, apart := false, narrowed := true }
def FnNeckFewUptoSaid : Prop := fnNeckFewUptoRow.holds Tryz.pinned (OpenSpec.upto fnNeckFewSpec)

/-- 'laws.FnNeckAfter', WHERE WHAT IT READS IS OF BULK AT MOST 1048576: true; the input reads as it did. -/
def fnNeckAfterUptoRow : OpenClaim := { program := "ytjepcfpkclegdaagreat", sum := "5423e7c605df580e928133ee727da7a6089fe31801ff32f9eb20bbbbf37b531d", func := "loop.example/tombolo/laws.FnNeckAfter", spec := "fnNeckAfter", inPlace := ["slices.overlaps[loop.example/tombolo/impl.Ver]", "slices.overlaps[loop.example/tombolo/impl.Dep]", "slices.overlaps[loop.example/tombolo/impl.Answer]"], unfollowed := true, recurses := true, plainKeys := false, apart := false, narrowed := true }
def FnNeckAfterUptoSaid : Prop := fnNeckAfterUptoRow.holds Tryz.pinned (OpenSpec.upto fnNeckAfterSpec)

/-- 'laws.FnNeckKnown', WHERE WHAT IT READS IS OF BULK AT MOST 1048576: true; the input reads as it did. -/
def fnNeckKnownUptoRow : OpenClaim := { program := "ytjepcfpkclegdaagreat", sum := "5423e7c605df580e928133ee727da7a6089fe31801ff32f9eb20bbbbf37b531d", func := "loop.example/tombolo/laws.FnNeckKnown", spec := "fnNeckKnown", inPlace := ["slices.overlaps[loop.example/tombolo/impl.Ver]", "slices.overlaps[loop.example/tombolo/impl.Dep]", "slices.overlaps[loop.example/tombolo/impl.Answer]"], unfollowed := true, recurses := true, plainKeys := false, apart := false, narrowed := true }
def FnNeckKnownUptoSaid : Prop := fnNeckKnownUptoRow.holds Tryz.pinned (OpenSpec.upto fnNeckKnownSpec)

/-- 'laws.FnNeckPast', WHERE WHAT IT READS IS OF BULK AT MOST 1048576: true; the input reads as it did. -/
def fnNeckPastUptoRow : OpenClaim := { program := "ytjepcfpkclegdaagreat", sum := "5423e7c605df580e928133ee727da7a6089fe31801ff32f9eb20bbbbf37b531d", func := "loop.example/tombolo/laws.FnNeckPast", spec := "fnNeckPast", inPlace := ["slices.overlaps[loop.example/tombolo/impl.Ver]", "slices.overlaps[loop.example/tombolo/impl.Dep]", "slices.overlaps[loop.example/tombolo/impl.Answer]"], unfollowed := true, recurses := true, plainKeys := false, apart := false, narrowed := true }
def FnNeckPastUptoSaid : Prop := fnNeckPastUptoRow.holds Tryz.pinned (OpenSpec.upto fnNeckPastSpec)

/-- 'laws.FnNeckDeep', WHERE WHAT IT READS IS OF BULK AT MOST 1048576: true; the input reads as it did. -/
def fnNeckDeepUptoRow : OpenClaim := { program := "ytjepcfpkclegdaagreat", sum := "5423e7c605df580e928133ee727da7a6089fe31801ff32f9eb20bbbbf37b531d", func := "loop.example/tombolo/laws.FnNeckDeep", spec := "fnNeckDeep", inPlace := ["slices.overlaps[loop.example/tombolo/impl.Ver]", "slices.overlaps[loop.example/tombolo/impl.Dep]", "slices.overlaps[loop.example/tombolo/impl.Answer]"], unfollowed := true, recurses := true, plainKeys := false, apart := false, narrowed := true }
def FnNeckDeepUptoSaid : Prop := fnNeckDeepUptoRow.holds Tryz.pinned (OpenSpec.upto fnNeckDeepSpec)

/-- 'laws.FnNeckDebts', WHERE WHAT IT READS IS OF BULK AT MOST 1048576: true; the input reads as it did. -/
def fnNeckDebtsUptoRow : OpenClaim := { program := "ytjepcfpkclegdaagreat", sum := "5423e7c605df580e928133ee727da7a6089fe31801ff32f9eb20bbbbf37b531d", func := "loop.example/tombolo/laws.FnNeckDebts", spec := "fnNeckDebts", inPlace := ["slices.overlaps[loop.example/tombolo/impl.Ver]", "slices.overlaps[loop.example/tombolo/impl.Dep]", "slices.overlaps[loop.example/tombolo/impl.Answer]"], unfollowed := true, recurses := true, plainKeys := false, apart := false, narrowed := true }
def FnNeckDebtsUptoSaid : Prop := fnNeckDebtsUptoRow.holds Tryz.pinned (OpenSpec.upto fnNeckDebtsSpec)

/-- 'laws.FnNeckVals', WHERE WHAT IT READS IS OF BULK AT MOST 1048576: true; the input reads as it did. -/
def fnNeckValsUptoRow : OpenClaim := { program := "ytjepcfpkclegdaagreat", sum := "5423e7c605df580e928133ee727da7a6089fe31801ff32f9eb20bbbbf37b531d", func := "loop.example/tombolo/laws.FnNeckVals", spec := "fnNeckVals", inPlace := ["slices.overlaps[loop.example/tombolo/impl.Ver]", "slices.overlaps[loop.example/tombolo/impl.Dep]", "slices.overlaps[loop.example/tombolo/impl.Answer]"], unfollowed := true, recurses := true, plainKeys := false, apart := false, narrowed := true }
def FnNeckValsUptoSaid : Prop := fnNeckValsUptoRow.holds Tryz.pinned (OpenSpec.upto fnNeckValsSpec)

/-- 'laws.FnNeckGrow', WHERE WHAT IT READS IS OF BULK AT MOST 1048576: true; the input reads as it did. -/
def fnNeckGrowUptoRow : OpenClaim := { program := "ytjepcfpkclegdaagreat", sum := "5423e7c605df580e928133ee727da7a6089fe31801ff32f9eb20bbbbf37b531d", func := "loop.example/tombolo/laws.FnNeckGrow", spec := "fnNeckGrow", inPlace := ["slices.overlaps[loop.example/tombolo/impl.Ver]", "slices.overlaps[loop.example/tombolo/impl.Dep]", "slices.overlaps[loop.example/tombolo/impl.Answer]"], unfollowed := true, recurses := true, plainKeys := false, apart := false, narrowed := true }
def FnNeckGrowUptoSaid : Prop := fnNeckGrowUptoRow.holds Tryz.pinned (OpenSpec.upto fnNeckGrowSpec)

/-- 'laws.FnNeckOnce', WHERE WHAT IT READS IS OF BULK AT MOST 1048576: true; the input reads as it did. -/
def fnNeckOnceUptoRow : OpenClaim := { program := "ytjepcfpkclegdaagreat", sum := "5423e7c605df580e928133ee727da7a6089fe31801ff32f9eb20bbbbf37b531d", func := "loop.example/tombolo/laws.FnNeckOnce", spec := "fnNeckOnce", inPlace := ["slices.overlaps[loop.example/tombolo/impl.Ver]", "slices.overlaps[loop.example/tombolo/impl.Dep]", "slices.overlaps[loop.example/tombolo/impl.Answer]"], unfollowed := true, recurses := true, plainKeys := false, apart := false, narrowed := true }
def FnNeckOnceUptoSaid : Prop := fnNeckOnceUptoRow.holds Tryz.pinned (OpenSpec.upto fnNeckOnceSpec)

/-- 'laws.FnNeckAlone', WHERE WHAT IT READS IS OF BULK AT MOST 1048576: true; the input reads as it did. -/
def fnNeckAloneUptoRow : OpenClaim := { program := "ytjepcfpkclegdaagreat", sum := "5423e7c605df580e928133ee727da7a6089fe31801ff32f9eb20bbbbf37b531d", func := "loop.example/tombolo/laws.FnNeckAlone", spec := "fnNeckAlone", inPlace := ["slices.overlaps[loop.example/tombolo/impl.Ver]", "slices.overlaps[loop.example/tombolo/impl.Dep]", "slices.overlaps[loop.example/tombolo/impl.Answer]"], unfollowed := true, recurses := true, plainKeys := false, apart := false, narrowed := true }
def FnNeckAloneUptoSaid : Prop := fnNeckAloneUptoRow.holds Tryz.pinned (OpenSpec.upto fnNeckAloneSpec)

/-- 'laws.FnNeckTop', WHERE WHAT IT READS IS OF BULK AT MOST 1048576: true; the input reads as it did. -/
def fnNeckTopUptoRow : OpenClaim := { program := "ytjepcfpkclegdaagreat", sum := "5423e7c605df580e928133ee727da7a6089fe31801ff32f9eb20bbbbf37b531d", func := "loop.example/tombolo/laws.FnNeckTop", spec := "fnNeckTop", inPlace := ["slices.overlaps[loop.example/tombolo/impl.Ver]", "slices.overlaps[loop.example/tombolo/impl.Dep]", "slices.overlaps[loop.example/tombolo/impl.Answer]"], unfollowed := true, recurses := true, plainKeys := false, apart := false, narrowed := true }
def FnNeckTopUptoSaid : Prop := fnNeckTopUptoRow.holds Tryz.pinned (OpenSpec.upto fnNeckTopSpec)

end Rows
end Go.Proofs.YtjepcfpkclegdaaGreat
