/-
  No cell of these rows narrows 'for every input' (looked for: loops, veiled, ifaces, maps, wideKeys, modest, calm, conditions, laid).
  DERIVED. THE GIVEN ROWS OF THIS SEAT. 6 by the template 'for every input the law returns true; each argument reads behind the call as it read before'; 0 by the template 'total and deterministic' (their statements: YtlppgilifnkapaaGreatTotals.lean).
  GIVEN WITH THE SEED: the statements are not yours to turn. If you find one false, say at which input.
  Laid BY PROGRAM, IN A SANDBOX (cutbox-rows.mjs): the forced cells as the released guide's own fill.sh prints them over the translation f5bf3ce2c0b8ddd6… (all of the seat's roots in one cut). By AI agents, Wed Nov 11 2026. No macro, syntax, notation, axiom, sorry.
-/
import Derived.Test.YtlppgilifnkapaaGreatChecked
import GoSem.Claim
import GoSem.ClaimJoined
import GoSem.ClaimMapViews
import Derived.JoinedTies
import Derived.KernelRfl
namespace Go.Proofs.YtlppgilifnkapaaGreat
/- THE CELL 'sum', in the pinned program and in every row, IS THE sha256 OF THE DUMP (.gsa) THAT YtlppgilifnkapaaGreatProg.lean LOADS. Nothing in Lean hashes anything: it is a label: what it is worth is what the hold of that sum in a sandbox is worth. -/
noncomputable def Tryz.pinned : Pinned := { name := "ytlppgilifnkapaagreat", sum := "f5bf3ce2c0b8ddd66d67de6967200433981f7170543662fd101a3d7928c5165d", checked := Tryz.checked }
namespace Rows
def none {H : Type} : Left H := { results := [], args := [] }

/-- 'laws.FnExactCallsOk': WHATEVER THE INPUT: true; the input reads as it did. -/
def fnExactCallsOkSpec : ChangeSpec := { name := "fnExactCallsOk", fn := fun _ => fun
  | [d] => { results := [.lit (.bool true)], args := [d] }
  | _ => none }
def fnExactCallsOkRow : OpenClaim := { program := "ytlppgilifnkapaagreat", sum := "f5bf3ce2c0b8ddd66d67de6967200433981f7170543662fd101a3d7928c5165d", func := "loop.example/tombolo/laws.FnExactCallsOk", spec := "fnExactCallsOk", unfollowed := true, recurses := true, plainKeys := false, apart := false }
def FnExactCallsOkSaid : Prop := fnExactCallsOkRow.holds Tryz.pinned (OpenSpec.ofChange fnExactCallsOkSpec)

/-- ITS FALSE NEIGHBOUR: 'it returns false'. Refute it at one input. -/
def fnExactCallsOkWrong : ChangeSpec := { name := "fnExactCallsOk", fn := fun _ => fun
  | [d] => { results := [.lit (.bool false)], args := [d] }
  | _ => none }
def FnExactCallsOkWrongFalsely : Prop := fnExactCallsOkRow.holds Tryz.pinned (OpenSpec.ofChange fnExactCallsOkWrong)

/-- 'laws.FnExactNeckSame': WHATEVER THE INPUT: true; the input reads as it did. -/
def fnExactNeckSameSpec : ChangeSpec := { name := "fnExactNeckSame", fn := fun _ => fun
  | [d] => { results := [.lit (.bool true)], args := [d] }
  | _ => none }
def fnExactNeckSameRow : OpenClaim := { program := "ytlppgilifnkapaagreat", sum := "f5bf3ce2c0b8ddd66d67de6967200433981f7170543662fd101a3d7928c5165d", func := "loop.example/tombolo/laws.FnExactNeckSame", spec := "fnExactNeckSame", inPlace := ["slices.overlaps[loop.example/tombolo/impl.Ver]"], unfollowed := true, recurses := true, plainKeys := false, apart := false }
def FnExactNeckSameSaid : Prop := fnExactNeckSameRow.holds Tryz.pinned (OpenSpec.ofChange fnExactNeckSameSpec)

/-- ITS FALSE NEIGHBOUR: 'it returns false'. Refute it at one input. -/
def fnExactNeckSameWrong : ChangeSpec := { name := "fnExactNeckSame", fn := fun _ => fun
  | [d] => { results := [.lit (.bool false)], args := [d] }
  | _ => none }
def FnExactNeckSameWrongFalsely : Prop := fnExactNeckSameRow.holds Tryz.pinned (OpenSpec.ofChange fnExactNeckSameWrong)

/-- 'laws.FnExactNeckSafe': WHATEVER THE INPUT: true; the input reads as it did. -/
def fnExactNeckSafeSpec : ChangeSpec := { name := "fnExactNeckSafe", fn := fun _ => fun
  | [d] => { results := [.lit (.bool true)], args := [d] }
  | _ => none }
def fnExactNeckSafeRow : OpenClaim := { program := "ytlppgilifnkapaagreat", sum := "f5bf3ce2c0b8ddd66d67de6967200433981f7170543662fd101a3d7928c5165d", func := "loop.example/tombolo/laws.FnExactNeckSafe", spec := "fnExactNeckSafe", inPlace := ["slices.overlaps[loop.example/tombolo/impl.Ver]"], unfollowed := true, recurses := true, plainKeys := false, apart := false }
def FnExactNeckSafeSaid : Prop := fnExactNeckSafeRow.holds Tryz.pinned (OpenSpec.ofChange fnExactNeckSafeSpec)

/-- ITS FALSE NEIGHBOUR: 'it returns false'. Refute it at one input. -/
def fnExactNeckSafeWrong : ChangeSpec := { name := "fnExactNeckSafe", fn := fun _ => fun
  | [d] => { results := [.lit (.bool false)], args := [d] }
  | _ => none }
def FnExactNeckSafeWrongFalsely : Prop := fnExactNeckSafeRow.holds Tryz.pinned (OpenSpec.ofChange fnExactNeckSafeWrong)

/-- 'laws.FnExactNeckPlay': WHATEVER THE INPUT: true; the input reads as it did. -/
def fnExactNeckPlaySpec : ChangeSpec := { name := "fnExactNeckPlay", fn := fun _ => fun
  | [d] => { results := [.lit (.bool true)], args := [d] }
  | _ => none }
def fnExactNeckPlayRow : OpenClaim := { program := "ytlppgilifnkapaagreat", sum := "f5bf3ce2c0b8ddd66d67de6967200433981f7170543662fd101a3d7928c5165d", func := "loop.example/tombolo/laws.FnExactNeckPlay", spec := "fnExactNeckPlay", inPlace := ["slices.overlaps[loop.example/tombolo/impl.Ver]", "slices.overlaps[loop.example/tombolo/impl.Dep]", "slices.overlaps[loop.example/tombolo/impl.Answer]"], unfollowed := true, recurses := true, plainKeys := false, apart := false }
def FnExactNeckPlaySaid : Prop := fnExactNeckPlayRow.holds Tryz.pinned (OpenSpec.ofChange fnExactNeckPlaySpec)

/-- ITS FALSE NEIGHBOUR: 'it returns false'. Refute it at one input. -/
def fnExactNeckPlayWrong : ChangeSpec := { name := "fnExactNeckPlay", fn := fun _ => fun
  | [d] => { results := [.lit (.bool false)], args := [d] }
  | _ => none }
def FnExactNeckPlayWrongFalsely : Prop := fnExactNeckPlayRow.holds Tryz.pinned (OpenSpec.ofChange fnExactNeckPlayWrong)

/-- 'laws.FnExactNeckSide': WHATEVER THE INPUT: true; the input reads as it did. -/
def fnExactNeckSideSpec : ChangeSpec := { name := "fnExactNeckSide", fn := fun _ => fun
  | [d1, d2] => { results := [.lit (.bool true)], args := [d1, d2] }
  | _ => none }
def fnExactNeckSideRow : OpenClaim := { program := "ytlppgilifnkapaagreat", sum := "f5bf3ce2c0b8ddd66d67de6967200433981f7170543662fd101a3d7928c5165d", func := "loop.example/tombolo/laws.FnExactNeckSide", spec := "fnExactNeckSide", inPlace := ["slices.overlaps[loop.example/tombolo/impl.Ver]"], unfollowed := true, recurses := true, plainKeys := false, apart := false }
def FnExactNeckSideSaid : Prop := fnExactNeckSideRow.holds Tryz.pinned (OpenSpec.ofChange fnExactNeckSideSpec)

/-- ITS FALSE NEIGHBOUR: 'it returns false'. Refute it at one input. -/
def fnExactNeckSideWrong : ChangeSpec := { name := "fnExactNeckSide", fn := fun _ => fun
  | [d1, d2] => { results := [.lit (.bool false)], args := [d1, d2] }
  | _ => none }
def FnExactNeckSideWrongFalsely : Prop := fnExactNeckSideRow.holds Tryz.pinned (OpenSpec.ofChange fnExactNeckSideWrong)

/-- 'laws.FnExactNeckDo': WHATEVER THE INPUT: true; the input reads as it did. -/
def fnExactNeckDoSpec : ChangeSpec := { name := "fnExactNeckDo", fn := fun _ => fun
  | [d1, d2] => { results := [.lit (.bool true)], args := [d1, d2] }
  | _ => none }
def fnExactNeckDoRow : OpenClaim := { program := "ytlppgilifnkapaagreat", sum := "f5bf3ce2c0b8ddd66d67de6967200433981f7170543662fd101a3d7928c5165d", func := "loop.example/tombolo/laws.FnExactNeckDo", spec := "fnExactNeckDo", inPlace := ["slices.overlaps[loop.example/tombolo/impl.Ver]", "slices.overlaps[loop.example/tombolo/impl.Dep]", "slices.overlaps[loop.example/tombolo/impl.Answer]"], unfollowed := true, recurses := true, plainKeys := false, apart := false }
def FnExactNeckDoSaid : Prop := fnExactNeckDoRow.holds Tryz.pinned (OpenSpec.ofChange fnExactNeckDoSpec)

/-- ITS FALSE NEIGHBOUR: 'it returns false'. Refute it at one input. -/
def fnExactNeckDoWrong : ChangeSpec := { name := "fnExactNeckDo", fn := fun _ => fun
  | [d1, d2] => { results := [.lit (.bool false)], args := [d1, d2] }
  | _ => none }
def FnExactNeckDoWrongFalsely : Prop := fnExactNeckDoRow.holds Tryz.pinned (OpenSpec.ofChange fnExactNeckDoWrong)

/- THE SECOND FORM. 'bulk': how many values and letters a reading holds, each counted each time it is reached (what is shared counts as often as it is met; a slice's spare places count too). A statement '..UptoSaid' is the law's where the arguments, and the package variables that the reading takes, are together of bulk at most 1048576: NARROWER than '..Said'. Prove '..Said' where nothing that the law and all that it calls make is longer than what came in: it says more and counts as full. Else prove '..UptoSaid'. A law counts once. -/
mutual
def uptoBulk {H : Type} : DataW H → Nat
  | .lit (.string bytes) => bytes.length + 1
  | .lit _ => 1
  | .nil => 1
  | .ptr d => uptoBulk d + 1
  | .slice elems spare => uptoBulkAll elems + uptoBulkAll spare + 1
  | .agg parts => uptoBulkAll parts + 1
  | .iface _ d => uptoBulk d + 1
  | .map entries => uptoBulkEntries entries + 1
  | .held _ => 1
def uptoBulkAll {H : Type} : List (DataW H) → Nat
  | [] => 0
  | d :: r => uptoBulk d + uptoBulkAll r
def uptoBulkEntries {H : Type} : List (Lit × DataW H) → Nat
  | [] => 0
  | x :: r => uptoBulkEntry x + uptoBulkEntries r
def uptoBulkEntry {H : Type} : Lit × DataW H → Nat
  | (.string bytes, d) => bytes.length + uptoBulk d + 1
  | (_, d) => uptoBulk d + 1
 end
def uptoSmall : (H : Type) → List (DataW H) → Bool := fun _ ds => decide (uptoBulkAll ds ≤ 1048576)
def OpenSpec.upto (s : _root_.Go.ChangeSpec) : _root_.Go.OpenSpec := { _root_.Go.OpenSpec.ofChange s with cond := some uptoSmall }

/-- 'laws.FnExactCallsOk', WHERE WHAT IT READS IS OF BULK AT MOST 1048576: true; the input reads as it did. -/
def fnExactCallsOkUptoRow : OpenClaim := { program := "ytlppgilifnkapaagreat", sum := "f5bf3ce2c0b8ddd66d67de6967200433981f7170543662fd101a3d7928c5165d", func := "loop.example/tombolo/laws.FnExactCallsOk", spec := "fnExactCallsOk", unfollowed := true, recurses := true, plainKeys := false, apart := false, narrowed := true }
def FnExactCallsOkUptoSaid : Prop := fnExactCallsOkUptoRow.holds Tryz.pinned (OpenSpec.upto fnExactCallsOkSpec)

/-- 'laws.FnExactNeckSame', WHERE WHAT IT READS IS OF BULK AT MOST 1048576: true; the input reads as it did. -/
def fnExactNeckSameUptoRow : OpenClaim := { program := "ytlppgilifnkapaagreat", sum := "f5bf3ce2c0b8ddd66d67de6967200433981f7170543662fd101a3d7928c5165d", func := "loop.example/tombolo/laws.FnExactNeckSame", spec := "fnExactNeckSame", inPlace := ["slices.overlaps[loop.example/tombolo/impl.Ver]"], unfollowed := true, recurses := true, plainKeys := false, apart := false, narrowed := true }
def FnExactNeckSameUptoSaid : Prop := fnExactNeckSameUptoRow.holds Tryz.pinned (OpenSpec.upto fnExactNeckSameSpec)

/-- 'laws.FnExactNeckSafe', WHERE WHAT IT READS IS OF BULK AT MOST 1048576: true; the input reads as it did. -/
def fnExactNeckSafeUptoRow : OpenClaim := { program := "ytlppgilifnkapaagreat", sum := "f5bf3ce2c0b8ddd66d67de6967200433981f7170543662fd101a3d7928c5165d", func := "loop.example/tombolo/laws.FnExactNeckSafe", spec := "fnExactNeckSafe", inPlace := ["slices.overlaps[loop.example/tombolo/impl.Ver]"], unfollowed := true, recurses := true, plainKeys := false, apart := false, narrowed := true }
def FnExactNeckSafeUptoSaid : Prop := fnExactNeckSafeUptoRow.holds Tryz.pinned (OpenSpec.upto fnExactNeckSafeSpec)

/-- 'laws.FnExactNeckPlay', WHERE WHAT IT READS IS OF BULK AT MOST 1048576: true; the input reads as it did. -/
def fnExactNeckPlayUptoRow : OpenClaim := { program := "ytlppgilifnkapaagreat", sum := "f5bf3ce2c0b8ddd66d67de6967200433981f7170543662fd101a3d7928c5165d", func := "loop.example/tombolo/laws.FnExactNeckPlay", spec := "fnExactNeckPlay", inPlace := ["slices.overlaps[loop.example/tombolo/impl.Ver]", "slices.overlaps[loop.example/tombolo/impl.Dep]", "slices.overlaps[loop.example/tombolo/impl.Answer]"], unfollowed := true, recurses := true, plainKeys := false, apart := false, narrowed := true }
def FnExactNeckPlayUptoSaid : Prop := fnExactNeckPlayUptoRow.holds Tryz.pinned (OpenSpec.upto fnExactNeckPlaySpec)

/-- 'laws.FnExactNeckSide', WHERE WHAT IT READS IS OF BULK AT MOST 1048576: true; the input reads as it did. -/
def fnExactNeckSideUptoRow : OpenClaim := { program := "ytlppgilifnkapaagreat", sum := "f5bf3ce2c0b8ddd66d67de6967200433981f7170543662fd101a3d7928c5165d", func := "loop.example/tombolo/laws.FnExactNeckSide", spec := "fnExactNeckSide", inPlace := ["slices.overlaps[loop.example/tombolo/impl.Ver]"], unfollowed := true, recurses := true, plainKeys := false, apart := false, narrowed := true }
def FnExactNeckSideUptoSaid : Prop := fnExactNeckSideUptoRow.holds Tryz.pinned (OpenSpec.upto fnExactNeckSideSpec)

/-- 'laws.FnExactNeckDo', WHERE WHAT IT READS IS OF BULK AT MOST 1048576: true; the input reads as it did. -/
def fnExactNeckDoUptoRow : OpenClaim := { program := "ytlppgilifnkapaagreat", sum := "f5bf3ce2c0b8ddd66d67de6967200433981f7170543662fd101a3d7928c5165d", func := "loop.example/tombolo/laws.FnExactNeckDo", spec := "fnExactNeckDo", inPlace := ["slices.overlaps[loop.example/tombolo/impl.Ver]", "slices.overlaps[loop.example/tombolo/impl.Dep]", "slices.overlaps[loop.example/tombolo/impl.Answer]"], unfollowed := true, recurses := true, plainKeys := false, apart := false, narrowed := true }
def FnExactNeckDoUptoSaid : Prop := fnExactNeckDoUptoRow.holds Tryz.pinned (OpenSpec.upto fnExactNeckDoSpec)

end Rows
end Go.Proofs.YtlppgilifnkapaaGreat
