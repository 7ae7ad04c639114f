/-
  No cell of these rows narrows 'for every input' (looked for: loops, veiled, ifaces, maps, wideKeys, modest, calm, conditions, laid).
  DERIVED. THE GIVEN ROWS OF THIS SEAT. 11 by the template 'for every input the law returns true; each argument reads behind the call as it read before'; 0 by the template 'total and deterministic' (their statements: YtldbakcpcfdlaaaGreatTotals.lean).
  GIVEN WITH THE SEED: the statements are not yours to turn. If you find one false, say at which input.
  Laid BY PROGRAM, IN A SANDBOX (cutbox-rows.mjs): the forced cells as the released guide's own fill.sh prints them over the translation f995ac02e6673ef2… (all of the seat's roots in one cut). By AI agents, Wed Nov 11 2026. No macro, syntax, notation, axiom, sorry.
-/
import Derived.Test.YtldbakcpcfdlaaaGreatChecked
import GoSem.Claim
import GoSem.ClaimJoined
import GoSem.ClaimMapViews
import Derived.JoinedTies
import Derived.KernelRfl
namespace Go.Proofs.YtldbakcpcfdlaaaGreat
/- THE CELL 'sum', in the pinned program and in every row, IS THE sha256 OF THE DUMP (.gsa) THAT YtldbakcpcfdlaaaGreatProg.lean LOADS. Nothing in Lean hashes anything: it is a label: what it is worth is what the hold of that sum in a sandbox is worth. -/
noncomputable def Tryz.pinned : Pinned := { name := "ytldbakcpcfdlaaagreat", sum := "f995ac02e6673ef20700c4dc66d46086782b0c56b1625a6ddf532dd3a48f1608", checked := Tryz.checked }
namespace Rows
def none {H : Type} : Left H := { results := [], args := [] }

/-- 'laws.FnNeckStay': WHATEVER THE INPUT: true; the input reads as it did. -/
def fnNeckStaySpec : ChangeSpec := { name := "fnNeckStay", fn := fun _ => fun
  | [d] => { results := [.lit (.bool true)], args := [d] }
  | _ => none }
def fnNeckStayRow : OpenClaim := { program := "ytldbakcpcfdlaaagreat", sum := "f995ac02e6673ef20700c4dc66d46086782b0c56b1625a6ddf532dd3a48f1608", func := "loop.example/tombolo/laws.FnNeckStay", spec := "fnNeckStay", inPlace := ["slices.overlaps[loop.example/tombolo/impl.Ver]", "slices.overlaps[loop.example/tombolo/impl.Dep]", "slices.overlaps[loop.example/tombolo/impl.Answer]"], unfollowed := true, recurses := true, plainKeys := false, apart := false }
def FnNeckStaySaid : Prop := fnNeckStayRow.holds Tryz.pinned (OpenSpec.ofChange fnNeckStaySpec)

/-- ITS FALSE NEIGHBOUR: 'it returns false'. Refute it at one input. -/
def fnNeckStayWrong : ChangeSpec := { name := "fnNeckStay", fn := fun _ => fun
  | [d] => { results := [.lit (.bool false)], args := [d] }
  | _ => none }
def FnNeckStayWrongFalsely : Prop := fnNeckStayRow.holds Tryz.pinned (OpenSpec.ofChange fnNeckStayWrong)

/-- 'laws.FnNeckOwn': WHATEVER THE INPUT: true; the input reads as it did. -/
def fnNeckOwnSpec : ChangeSpec := { name := "fnNeckOwn", fn := fun _ => fun
  | [d] => { results := [.lit (.bool true)], args := [d] }
  | _ => none }
def fnNeckOwnRow : OpenClaim := { program := "ytldbakcpcfdlaaagreat", sum := "f995ac02e6673ef20700c4dc66d46086782b0c56b1625a6ddf532dd3a48f1608", func := "loop.example/tombolo/laws.FnNeckOwn", spec := "fnNeckOwn", inPlace := ["slices.overlaps[loop.example/tombolo/impl.Ver]", "slices.overlaps[loop.example/tombolo/impl.Dep]", "slices.overlaps[loop.example/tombolo/impl.Answer]"], unfollowed := true, recurses := true, plainKeys := false, apart := false }
def FnNeckOwnSaid : Prop := fnNeckOwnRow.holds Tryz.pinned (OpenSpec.ofChange fnNeckOwnSpec)

/-- ITS FALSE NEIGHBOUR: 'it returns false'. Refute it at one input. -/
def fnNeckOwnWrong : ChangeSpec := { name := "fnNeckOwn", fn := fun _ => fun
  | [d] => { results := [.lit (.bool false)], args := [d] }
  | _ => none }
def FnNeckOwnWrongFalsely : Prop := fnNeckOwnRow.holds Tryz.pinned (OpenSpec.ofChange fnNeckOwnWrong)

/-- 'laws.FnNeckFar': WHATEVER THE INPUT: true; the input reads as it did. -/
def fnNeckFarSpec : ChangeSpec := { name := "fnNeckFar", fn := fun _ => fun
  | [d] => { results := [.lit (.bool true)], args := [d] }
  | _ => none }
def fnNeckFarRow : OpenClaim := { program := "ytldbakcpcfdlaaagreat", sum := "f995ac02e6673ef20700c4dc66d46086782b0c56b1625a6ddf532dd3a48f1608", func := "loop.example/tombolo/laws.FnNeckFar", spec := "fnNeckFar", inPlace := ["slices.overlaps[loop.example/tombolo/impl.Ver]", "slices.overlaps[loop.example/tombolo/impl.Dep]", "slices.overlaps[loop.example/tombolo/impl.Answer]"], unfollowed := true, recurses := true, plainKeys := false, apart := false }
def FnNeckFarSaid : Prop := fnNeckFarRow.holds Tryz.pinned (OpenSpec.ofChange fnNeckFarSpec)

/-- ITS FALSE NEIGHBOUR: 'it returns false'. Refute it at one input. -/
def fnNeckFarWrong : ChangeSpec := { name := "fnNeckFar", fn := fun _ => fun
  | [d] => { results := [.lit (.bool false)], args := [d] }
  | _ => none }
def FnNeckFarWrongFalsely : Prop := fnNeckFarRow.holds Tryz.pinned (OpenSpec.ofChange fnNeckFarWrong)

/-- 'laws.FnNeckTops': WHATEVER THE INPUT: true; the input reads as it did. -/
def fnNeckTopsSpec : ChangeSpec := { name := "fnNeckTops", fn := fun _ => fun
  | [d] => { results := [.lit (.bool true)], args := [d] }
  | _ => none }
def fnNeckTopsRow : OpenClaim := { program := "ytldbakcpcfdlaaagreat", sum := "f995ac02e6673ef20700c4dc66d46086782b0c56b1625a6ddf532dd3a48f1608", func := "loop.example/tombolo/laws.FnNeckTops", spec := "fnNeckTops", inPlace := ["slices.overlaps[loop.example/tombolo/impl.Ver]", "slices.overlaps[loop.example/tombolo/impl.Dep]", "slices.overlaps[loop.example/tombolo/impl.Answer]"], unfollowed := true, recurses := true, plainKeys := false, apart := false }
def FnNeckTopsSaid : Prop := fnNeckTopsRow.holds Tryz.pinned (OpenSpec.ofChange fnNeckTopsSpec)

/-- ITS FALSE NEIGHBOUR: 'it returns false'. Refute it at one input. -/
def fnNeckTopsWrong : ChangeSpec := { name := "fnNeckTops", fn := fun _ => fun
  | [d] => { results := [.lit (.bool false)], args := [d] }
  | _ => none }
def FnNeckTopsWrongFalsely : Prop := fnNeckTopsRow.holds Tryz.pinned (OpenSpec.ofChange fnNeckTopsWrong)

/-- 'laws.FnNeckCalm': WHATEVER THE INPUT: true; the input reads as it did. -/
def fnNeckCalmSpec : ChangeSpec := { name := "fnNeckCalm", fn := fun _ => fun
  | [d] => { results := [.lit (.bool true)], args := [d] }
  | _ => none }
def fnNeckCalmRow : OpenClaim := { program := "ytldbakcpcfdlaaagreat", sum := "f995ac02e6673ef20700c4dc66d46086782b0c56b1625a6ddf532dd3a48f1608", func := "loop.example/tombolo/laws.FnNeckCalm", spec := "fnNeckCalm", inPlace := ["slices.overlaps[loop.example/tombolo/impl.Ver]", "slices.overlaps[loop.example/tombolo/impl.Dep]", "slices.overlaps[loop.example/tombolo/impl.Answer]"], unfollowed := true, recurses := true, plainKeys := false, apart := false }
def FnNeckCalmSaid : Prop := fnNeckCalmRow.holds Tryz.pinned (OpenSpec.ofChange fnNeckCalmSpec)

/-- ITS FALSE NEIGHBOUR: 'it returns false'. Refute it at one input. -/
def fnNeckCalmWrong : ChangeSpec := { name := "fnNeckCalm", fn := fun _ => fun
  | [d] => { results := [.lit (.bool false)], args := [d] }
  | _ => none }
def FnNeckCalmWrongFalsely : Prop := fnNeckCalmRow.holds Tryz.pinned (OpenSpec.ofChange fnNeckCalmWrong)

/-- 'laws.FnNeckSame': WHATEVER THE INPUT: true; the input reads as it did. -/
def fnNeckSameSpec : ChangeSpec := { name := "fnNeckSame", fn := fun _ => fun
  | [d] => { results := [.lit (.bool true)], args := [d] }
  | _ => none }
def fnNeckSameRow : OpenClaim := { program := "ytldbakcpcfdlaaagreat", sum := "f995ac02e6673ef20700c4dc66d46086782b0c56b1625a6ddf532dd3a48f1608", func := "loop.example/tombolo/laws.FnNeckSame", spec := "fnNeckSame", inPlace := ["slices.overlaps[loop.example/tombolo/impl.Ver]", "slices.overlaps[loop.example/tombolo/impl.Dep]", "slices.overlaps[loop.example/tombolo/impl.Answer]"], unfollowed := true, recurses := true, plainKeys := false, apart := false }
def FnNeckSameSaid : Prop := fnNeckSameRow.holds Tryz.pinned (OpenSpec.ofChange fnNeckSameSpec)

/-- ITS FALSE NEIGHBOUR: 'it returns false'. Refute it at one input. -/
def fnNeckSameWrong : ChangeSpec := { name := "fnNeckSame", fn := fun _ => fun
  | [d] => { results := [.lit (.bool false)], args := [d] }
  | _ => none }
def FnNeckSameWrongFalsely : Prop := fnNeckSameRow.holds Tryz.pinned (OpenSpec.ofChange fnNeckSameWrong)

/-- 'laws.FnNeckSend': WHATEVER THE INPUT: true; the input reads as it did. -/
def fnNeckSendSpec : ChangeSpec := { name := "fnNeckSend", fn := fun _ => fun
  | [d] => { results := [.lit (.bool true)], args := [d] }
  | _ => none }
def fnNeckSendRow : OpenClaim := { program := "ytldbakcpcfdlaaagreat", sum := "f995ac02e6673ef20700c4dc66d46086782b0c56b1625a6ddf532dd3a48f1608", func := "loop.example/tombolo/laws.FnNeckSend", spec := "fnNeckSend", inPlace := ["slices.overlaps[loop.example/tombolo/impl.Ver]", "slices.overlaps[loop.example/tombolo/impl.Dep]", "slices.overlaps[loop.example/tombolo/impl.Answer]"], unfollowed := true, recurses := true, plainKeys := false, apart := false }
def FnNeckSendSaid : Prop := fnNeckSendRow.holds Tryz.pinned (OpenSpec.ofChange fnNeckSendSpec)

/-- ITS FALSE NEIGHBOUR: 'it returns false'. Refute it at one input. -/
def fnNeckSendWrong : ChangeSpec := { name := "fnNeckSend", fn := fun _ => fun
  | [d] => { results := [.lit (.bool false)], args := [d] }
  | _ => none }
def FnNeckSendWrongFalsely : Prop := fnNeckSendRow.holds Tryz.pinned (OpenSpec.ofChange fnNeckSendWrong)

/-- 'laws.FnExactNeckSide': WHATEVER THE INPUT: true; the input reads as it did. -/
def fnExactNeckSideSpec : ChangeSpec := { name := "fnExactNeckSide", fn := fun _ => fun
  | [d1, d2] => { results := [.lit (.bool true)], args := [d1, d2] }
  | _ => none }
def fnExactNeckSideRow : OpenClaim := { program := "ytldbakcpcfdlaaagreat", sum := "f995ac02e6673ef20700c4dc66d46086782b0c56b1625a6ddf532dd3a48f1608", func := "loop.example/tombolo/laws.FnExactNeckSide", spec := "fnExactNeckSide", inPlace := ["slices.overlaps[loop.example/tombolo/impl.Ver]"], unfollowed := true, recurses := true, plainKeys := false, apart := false }
def FnExactNeckSideSaid : Prop := fnExactNeckSideRow.holds Tryz.pinned (OpenSpec.ofChange fnExactNeckSideSpec)

/-- ITS FALSE NEIGHBOUR: 'it returns false'. Refute it at one input. -/
def fnExactNeckSideWrong : ChangeSpec := { name := "fnExactNeckSide", fn := fun _ => fun
  | [d1, d2] => { results := [.lit (.bool false)], args := [d1, d2] }
  | _ => none }
def FnExactNeckSideWrongFalsely : Prop := fnExactNeckSideRow.holds Tryz.pinned (OpenSpec.ofChange fnExactNeckSideWrong)

/-- 'laws.FnExactNeckDo': WHATEVER THE INPUT: true; the input reads as it did. -/
def fnExactNeckDoSpec : ChangeSpec := { name := "fnExactNeckDo", fn := fun _ => fun
  | [d1, d2] => { results := [.lit (.bool true)], args := [d1, d2] }
  | _ => none }
def fnExactNeckDoRow : OpenClaim := { program := "ytldbakcpcfdlaaagreat", sum := "f995ac02e6673ef20700c4dc66d46086782b0c56b1625a6ddf532dd3a48f1608", func := "loop.example/tombolo/laws.FnExactNeckDo", spec := "fnExactNeckDo", inPlace := ["slices.overlaps[loop.example/tombolo/impl.Ver]", "slices.overlaps[loop.example/tombolo/impl.Dep]", "slices.overlaps[loop.example/tombolo/impl.Answer]"], unfollowed := true, recurses := true, plainKeys := false, apart := false }
def FnExactNeckDoSaid : Prop := fnExactNeckDoRow.holds Tryz.pinned (OpenSpec.ofChange fnExactNeckDoSpec)

/-- ITS FALSE NEIGHBOUR: 'it returns false'. Refute it at one input. -/
def fnExactNeckDoWrong : ChangeSpec := { name := "fnExactNeckDo", fn := fun _ => fun
  | [d1, d2] => { results := [.lit (.bool false)], args := [d1, d2] }
  | _ => none }
def FnExactNeckDoWrongFalsely : Prop := fnExactNeckDoRow.holds Tryz.pinned (OpenSpec.ofChange fnExactNeckDoWrong)

/-- 'laws.FnExactNeckPlay': WHATEVER THE INPUT: true; the input reads as it did. -/
def fnExactNeckPlaySpec : ChangeSpec := { name := "fnExactNeckPlay", fn := fun _ => fun
  | [d] => { results := [.lit (.bool true)], args := [d] }
  | _ => none }
def fnExactNeckPlayRow : OpenClaim := { program := "ytldbakcpcfdlaaagreat", sum := "f995ac02e6673ef20700c4dc66d46086782b0c56b1625a6ddf532dd3a48f1608", func := "loop.example/tombolo/laws.FnExactNeckPlay", spec := "fnExactNeckPlay", inPlace := ["slices.overlaps[loop.example/tombolo/impl.Ver]", "slices.overlaps[loop.example/tombolo/impl.Dep]", "slices.overlaps[loop.example/tombolo/impl.Answer]"], unfollowed := true, recurses := true, plainKeys := false, apart := false }
def FnExactNeckPlaySaid : Prop := fnExactNeckPlayRow.holds Tryz.pinned (OpenSpec.ofChange fnExactNeckPlaySpec)

/-- ITS FALSE NEIGHBOUR: 'it returns false'. Refute it at one input. -/
def fnExactNeckPlayWrong : ChangeSpec := { name := "fnExactNeckPlay", fn := fun _ => fun
  | [d] => { results := [.lit (.bool false)], args := [d] }
  | _ => none }
def FnExactNeckPlayWrongFalsely : Prop := fnExactNeckPlayRow.holds Tryz.pinned (OpenSpec.ofChange fnExactNeckPlayWrong)

/-- 'laws.FnExactNeckCalm': WHATEVER THE INPUT: true; the input reads as it did. -/
def fnExactNeckCalmSpec : ChangeSpec := { name := "fnExactNeckCalm", fn := fun _ => fun
  | [d1, d2] => { results := [.lit (.bool true)], args := [d1, d2] }
  | _ => none }
def fnExactNeckCalmRow : OpenClaim := { program := "ytldbakcpcfdlaaagreat", sum := "f995ac02e6673ef20700c4dc66d46086782b0c56b1625a6ddf532dd3a48f1608", func := "loop.example/tombolo/laws.FnExactNeckCalm", spec := "fnExactNeckCalm", inPlace := ["slices.overlaps[loop.example/tombolo/impl.Ver]", "slices.overlaps[loop.example/tombolo/impl.Dep]", "slices.overlaps[loop.example/tombolo/impl.Answer]"], unfollowed := true, recurses := true, plainKeys := false, apart := false }
def FnExactNeckCalmSaid : Prop := fnExactNeckCalmRow.holds Tryz.pinned (OpenSpec.ofChange fnExactNeckCalmSpec)

/-- ITS FALSE NEIGHBOUR: 'it returns false'. Refute it at one input. -/
def fnExactNeckCalmWrong : ChangeSpec := { name := "fnExactNeckCalm", fn := fun _ => fun
  | [d1, d2] => { results := [.lit (.bool false)], args := [d1, d2] }
  | _ => none }
def FnExactNeckCalmWrongFalsely : Prop := fnExactNeckCalmRow.holds Tryz.pinned (OpenSpec.ofChange fnExactNeckCalmWrong)

/- THE SECOND FORM. 'bulk': how many values and letters a reading holds, each counted each time it is reached (what is shared counts as often as it is met; a slice's spare places count too). A statement '..UptoSaid' is the law's where the arguments, and the package variables that the reading takes, are together of bulk at most 1048576: NARROWER than '..Said'. Prove '..Said' where nothing that the law and all that it calls make is longer than what came in: it says more and counts as full. Else prove '..UptoSaid'. A law counts once. -/
mutual
def uptoBulk {H : Type} : DataW H → Nat
  | .lit (.string bytes) => bytes.length + 1
  | .lit _ => 1
  | .nil => 1
  | .ptr d => uptoBulk d + 1
  | .slice elems spare => uptoBulkAll elems + uptoBulkAll spare + 1
  | .agg parts => uptoBulkAll parts + 1
  | .iface _ d => uptoBulk d + 1
  | .map entries => uptoBulkEntries entries + 1
  | .held _ => 1
def uptoBulkAll {H : Type} : List (DataW H) → Nat
  | [] => 0
  | d :: r => uptoBulk d + uptoBulkAll r
def uptoBulkEntries {H : Type} : List (Lit × DataW H) → Nat
  | [] => 0
  | x :: r => uptoBulkEntry x + uptoBulkEntries r
def uptoBulkEntry {H : Type} : Lit × DataW H → Nat
  | (.string bytes, d) => bytes.length + uptoBulk d + 1
  | (_, d) => uptoBulk d + 1
 end
def uptoSmall : (H : Type) → List (DataW H) → Bool := fun _ ds => decide (uptoBulkAll ds ≤ 1048576)
def OpenSpec.upto (s : _root_.Go.ChangeSpec) : _root_.Go.OpenSpec := { _root_.Go.OpenSpec.ofChange s with cond := some uptoSmall }

/-- 'laws.FnNeckStay', WHERE WHAT IT READS IS OF BULK AT MOST 1048576: true; the input reads as it did. -/
def fnNeckStayUptoRow : OpenClaim := { program := "ytldbakcpcfdlaaagreat", sum := "f995ac02e6673ef20700c4dc66d46086782b0c56b1625a6ddf532dd3a48f1608", func := "loop.example/tombolo/laws.FnNeckStay", spec := "fnNeckStay", inPlace := ["slices.overlaps[loop.example/tombolo/impl.Ver]", "slices.overlaps[loop.example/tombolo/impl.Dep]", "slices.overlaps[loop.example/tombolo/impl.Answer]"], unfollowed := true, recurses := true, plainKeys := false, apart := false, narrowed := true }
def FnNeckStayUptoSaid : Prop := fnNeckStayUptoRow.holds Tryz.pinned (OpenSpec.upto fnNeckStaySpec)

/-- 'laws.FnNeckOwn', WHERE WHAT IT READS IS OF BULK AT MOST 1048576: true; the input reads as it did. -/
def fnNeckOwnUptoRow : OpenClaim := { program := "ytldbakcpcfdlaaagreat", sum := "f995ac02e6673ef20700c4dc66d46086782b0c56b1625a6ddf532dd3a48f1608", func := "loop.example/tombolo/laws.FnNeckOwn", spec := "fnNeckOwn", inPlace := ["slices.overlaps[loop.example/tombolo/impl.Ver]", "slices.overlaps[loop.example/tombolo/impl.Dep]", "slices.overlaps[loop.example/tombolo/impl.Answer]"], unfollowed := true, recurses := true, plainKeys := false, apart := false, narrowed := true }
def FnNeckOwnUptoSaid : Prop := fnNeckOwnUptoRow.holds Tryz.pinned (OpenSpec.upto fnNeckOwnSpec)

/-- 'laws.FnNeckFar', WHERE WHAT IT READS IS OF BULK AT MOST 1048576: true; the input reads as it did. -/
def fnNeckFarUptoRow : OpenClaim := { program := "ytldbakcpcfdlaaagreat", sum := "f995ac02e6673ef20700c4dc66d46086782b0c56b1625a6ddf532dd3a48f1608", func := "loop.example/tombolo/laws.FnNeckFar", spec := "fnNeckFar", inPlace := ["slices.overlaps[loop.example/tombolo/impl.Ver]", "slices.overlaps[loop.example/tombolo/impl.Dep]", "slices.overlaps[loop.example/tombolo/impl.Answer]"], unfollowed := true, recurses := true, plainKeys := false, apart := false, narrowed := true }
def FnNeckFarUptoSaid : Prop := fnNeckFarUptoRow.holds Tryz.pinned (OpenSpec.upto fnNeckFarSpec)

/-- 'laws.FnNeckTops', WHERE WHAT IT READS IS OF BULK AT MOST 1048576: true; the input reads as it did. -/
def fnNeckTopsUptoRow : OpenClaim := { program := "ytldbakcpcfdlaaagreat", sum := "f995ac02e6673ef20700c4dc66d46086782b0c56b1625a6ddf532dd3a48f1608", func := "loop.example/tombolo/laws.FnNeckTops", spec := "fnNeckTops", inPlace := ["slices.overlaps[loop.example/tombolo/impl.Ver]", "slices.overlaps[loop.example/tombolo/impl.Dep]", "slices.overlaps[loop.example/tombolo/impl.Answer]"], unfollowed := true, recurses := true, plainKeys := false, apart := false, narrowed := true }
def FnNeckTopsUptoSaid : Prop := fnNeckTopsUptoRow.holds Tryz.pinned (OpenSpec.upto fnNeckTopsSpec)

/-- 'laws.FnNeckCalm', WHERE WHAT IT READS IS OF BULK AT MOST 1048576: true; the input reads as it did. -/
def fnNeckCalmUptoRow : OpenClaim := { program := "ytldbakcpcfdlaaagreat", sum := "f995ac02e6673ef20700c4dc66d46086782b0c56b1625a6ddf532dd3a48f1608", func := "loop.example/tombolo/laws.FnNeckCalm", spec := "fnNeckCalm", inPlace := ["slices.overlaps[loop.example/tombolo/impl.Ver]", "slices.overlaps[loop.example/tombolo/impl.Dep]", "slices.overlaps[loop.example/tombolo/impl.Answer]"], unfollowed := true, recurses := true, plainKeys := false, apart := false, narrowed := true }
def FnNeckCalmUptoSaid : Prop := fnNeckCalmUptoRow.holds Tryz.pinned (OpenSpec.upto fnNeckCalmSpec)

/-- 'laws.FnNeckSame', WHERE WHAT IT READS IS OF BULK AT MOST 1048576: true; the input reads as it did. -/
def fnNeckSameUptoRow : OpenClaim := { program := "ytldbakcpcfdlaaagreat", sum := "f995ac02e6673ef20700c4dc66d46086782b0c56b1625a6ddf532dd3a48f1608", func := "loop.example/tombolo/laws.FnNeckSame", spec := "fnNeckSame", inPlace := ["slices.overlaps[loop.example/tombolo/impl.Ver]", "slices.overlaps[loop.example/tombolo/impl.Dep]", "slices.overlaps[loop.example/tombolo/impl.Answer]"], unfollowed := true, recurses := true, plainKeys := false, apart := false, narrowed := true }
def FnNeckSameUptoSaid : Prop := fnNeckSameUptoRow.holds Tryz.pinned (OpenSpec.upto fnNeckSameSpec)

/-- 'laws.FnNeckSend', WHERE WHAT IT READS IS OF BULK AT MOST 1048576: true; the input reads as it did. -/
def fnNeckSendUptoRow : OpenClaim := { program := "ytldbakcpcfdlaaagreat", sum := "f995ac02e6673ef20700c4dc66d46086782b0c56b1625a6ddf532dd3a48f1608", func := "loop.example/tombolo/laws.FnNeckSend", spec := "fnNeckSend", inPlace := ["slices.overlaps[loop.example/tombolo/impl.Ver]", "slices.overlaps[loop.example/tombolo/impl.Dep]", "slices.overlaps[loop.example/tombolo/impl.Answer]"], unfollowed := true, recurses := true, plainKeys := false, apart := false, narrowed := true }
def FnNeckSendUptoSaid : Prop := fnNeckSendUptoRow.holds Tryz.pinned (OpenSpec.upto fnNeckSendSpec)

/-- 'laws.FnExactNeckSide', WHERE WHAT IT READS IS OF BULK AT MOST 1048576: true; the input reads as it did. -/
def fnExactNeckSideUptoRow : OpenClaim := { program := "ytldbakcpcfdlaaagreat", sum := "f995ac02e6673ef20700c4dc66d46086782b0c56b1625a6ddf532dd3a48f1608", func := "loop.example/tombolo/laws.FnExactNeckSide", spec := "fnExactNeckSide", inPlace := ["slices.overlaps[loop.example/tombolo/impl.Ver]"], unfollowed := true, recurses := true, plainKeys := false, apart := false, narrowed := true }
def FnExactNeckSideUptoSaid : Prop := fnExactNeckSideUptoRow.holds Tryz.pinned (OpenSpec.upto fnExactNeckSideSpec)

/-- 'laws.FnExactNeckDo', WHERE WHAT IT READS IS OF BULK AT MOST 1048576: true; the input reads as it did. -/
def fnExactNeckDoUptoRow : OpenClaim := { program := "ytldbakcpcfdlaaagreat", sum := "f995ac02e6673ef20700c4dc66d46086782b0c56b1625a6ddf532dd3a48f1608", func := "loop.example/tombolo/laws.FnExactNeckDo", spec := "fnExactNeckDo", inPlace := ["slices.overlaps[loop.example/tombolo/impl.Ver]", "slices.overlaps[loop.example/tombolo/impl.Dep]", "slices.overlaps[loop.example/tombolo/impl.Answer]"], unfollowed := true, recurses := true, plainKeys := false, apart := false, narrowed := true }
def FnExactNeckDoUptoSaid : Prop := fnExactNeckDoUptoRow.holds Tryz.pinned (OpenSpec.upto fnExactNeckDoSpec)

/-- 'laws.FnExactNeckPlay', WHERE WHAT IT READS IS OF BULK AT MOST 1048576: true; the input reads as it did. -/
def fnExactNeckPlayUptoRow : OpenClaim := { program := "ytldbakcpcfdlaaagreat", sum := "f995ac02e6673ef20700c4dc66d46086782b0c56b1625a6ddf532dd3a48f1608", func := "loop.example/tombolo/laws.FnExactNeckPlay", spec := "fnExactNeckPlay", inPlace := ["slices.overlaps[loop.example/tombolo/impl.Ver]", "slices.overlaps[loop.example/tombolo/impl.Dep]", "slices.overlaps[loop.example/tombolo/impl.Answer]"], unfollowed := true, recurses := true, plainKeys := false, apart := false, narrowed := true }
def FnExactNeckPlayUptoSaid : Prop := fnExactNeckPlayUptoRow.holds Tryz.pinned (OpenSpec.upto fnExactNeckPlaySpec)

/-- 'laws.FnExactNeckCalm', WHERE WHAT IT READS IS OF BULK AT MOST 1048576: true; the input reads as it did. -/
def fnExactNeckCalmUptoRow : OpenClaim := { program := "ytldbakcpcfdlaaagreat", sum := "f995ac02e6673ef20700c4dc66d46086782b0c56b1625a6ddf532dd3a48f1608", func := "loop.example/tombolo/laws.FnExactNeckCalm", spec := "fnExactNeckCalm", inPlace := ["slices.overlaps[loop.example/tombolo/impl.Ver]", "slices.overlaps[loop.example/tombolo/impl.Dep]", "slices.overlaps[loop.example/tombolo/impl.Answer]"], unfollowed := true, recurses := true, plainKeys := false, apart := false, narrowed := true }
def FnExactNeckCalmUptoSaid : Prop := fnExactNeckCalmUptoRow.holds Tryz.pinned (OpenSpec.upto fnExactNeckCalmSpec)

end Rows
end Go.Proofs.YtldbakcpcfdlaaaGreat
