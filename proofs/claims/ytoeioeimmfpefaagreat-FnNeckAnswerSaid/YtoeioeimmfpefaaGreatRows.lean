/-
  No cell of these rows narrows 'for every input' (looked for: loops, veiled, ifaces, maps, wideKeys, modest, calm, conditions, laid).
  DERIVED. THE GIVEN ROWS OF THIS SEAT. 4 by the template 'for every input the law returns true; each argument reads behind the call as it read before'; 0 by the template 'total and deterministic' (their statements: YtoeioeimmfpefaaGreatTotals.lean).
  GIVEN WITH THE SEED: the statements are not yours to turn. If you find one false, say at which input.
  Laid BY PROGRAM, IN A SANDBOX (cutbox-rows.mjs): the forced cells as the released guide's own fill.sh prints them over the translation 4ef4e62feb0c4808… (all of the seat's roots in one cut). By AI agents, Wed Nov 11 2026. No macro, syntax, notation, axiom, sorry.
-/
import Derived.Test.YtoeioeimmfpefaaGreatChecked
import GoSem.Claim
import GoSem.ClaimJoined
import GoSem.ClaimMapViews
import Derived.JoinedTies
import Derived.KernelRfl
namespace Go.Proofs.YtoeioeimmfpefaaGreat
/- THE CELL 'sum', in the pinned program and in every row, IS THE sha256 OF THE DUMP (.gsa) THAT YtoeioeimmfpefaaGreatProg.lean LOADS. Nothing in Lean hashes anything: it is a label: what it is worth is what the hold of that sum in a sandbox is worth. -/
noncomputable def Tryz.pinned : Pinned := { name := "ytoeioeimmfpefaagreat", sum := "4ef4e62feb0c4808263b4ceb1f087f4e2845f6c93cd57118916351da7e98f529", checked := Tryz.checked }
namespace Rows
def none {H : Type} : Left H := { results := [], args := [] }

/-- 'laws.FnNeckBegin': WHATEVER THE INPUT: true; the input reads as it did. -/
def fnNeckBeginSpec : ChangeSpec := { name := "fnNeckBegin", fn := fun _ => fun
  | [d] => { results := [.lit (.bool true)], args := [d] }
  | _ => none }
def fnNeckBeginRow : OpenClaim := { program := "ytoeioeimmfpefaagreat", sum := "4ef4e62feb0c4808263b4ceb1f087f4e2845f6c93cd57118916351da7e98f529", func := "loop.example/tombolo/laws.FnNeckBegin", spec := "fnNeckBegin", inPlace := ["slices.overlaps[loop.example/tombolo/impl.Ver]"], unfollowed := true, recurses := true, apart := false }
def FnNeckBeginSaid : Prop := fnNeckBeginRow.holds Tryz.pinned (OpenSpec.ofChange fnNeckBeginSpec)

/-- ITS FALSE NEIGHBOUR: 'it returns false'. Refute it at one input. -/
def fnNeckBeginWrong : ChangeSpec := { name := "fnNeckBegin", fn := fun _ => fun
  | [d] => { results := [.lit (.bool false)], args := [d] }
  | _ => none }
def FnNeckBeginWrongFalsely : Prop := fnNeckBeginRow.holds Tryz.pinned (OpenSpec.ofChange fnNeckBeginWrong)

/-- 'laws.FnNeckLook': WHATEVER THE INPUT: true; the input reads as it did. -/
def fnNeckLookSpec : ChangeSpec := { name := "fnNeckLook", fn := fun _ => fun
  | [d] => { results := [.lit (.bool true)], args := [d] }
  | _ => none }
def fnNeckLookRow : OpenClaim := { program := "ytoeioeimmfpefaagreat", sum := "4ef4e62feb0c4808263b4ceb1f087f4e2845f6c93cd57118916351da7e98f529", func := "loop.example/tombolo/laws.FnNeckLook", spec := "fnNeckLook", inPlace := ["slices.overlaps[loop.example/tombolo/impl.Ver]", "slices.overlaps[loop.example/tombolo/impl.Dep]", "slices.overlaps[loop.example/tombolo/impl.Answer]"], unfollowed := true, recurses := true, apart := false }
def FnNeckLookSaid : Prop := fnNeckLookRow.holds Tryz.pinned (OpenSpec.ofChange fnNeckLookSpec)

/-- ITS FALSE NEIGHBOUR: 'it returns false'. Refute it at one input. -/
def fnNeckLookWrong : ChangeSpec := { name := "fnNeckLook", fn := fun _ => fun
  | [d] => { results := [.lit (.bool false)], args := [d] }
  | _ => none }
def FnNeckLookWrongFalsely : Prop := fnNeckLookRow.holds Tryz.pinned (OpenSpec.ofChange fnNeckLookWrong)

/-- 'laws.FnNeckAnswer': WHATEVER THE INPUT: true; the input reads as it did. -/
def fnNeckAnswerSpec : ChangeSpec := { name := "fnNeckAnswer", fn := fun _ => fun
  | [d1, d2] => { results := [.lit (.bool true)], args := [d1, d2] }
  | _ => none }
def fnNeckAnswerRow : OpenClaim := { program := "ytoeioeimmfpefaagreat", sum := "4ef4e62feb0c4808263b4ceb1f087f4e2845f6c93cd57118916351da7e98f529", func := "loop.example/tombolo/laws.FnNeckAnswer", spec := "fnNeckAnswer", inPlace := ["slices.overlaps[loop.example/tombolo/impl.Ver]", "slices.overlaps[loop.example/tombolo/impl.Dep]", "slices.overlaps[loop.example/tombolo/impl.Answer]"], unfollowed := true, recurses := true, apart := false }
def FnNeckAnswerSaid : Prop := fnNeckAnswerRow.holds Tryz.pinned (OpenSpec.ofChange fnNeckAnswerSpec)

/-- ITS FALSE NEIGHBOUR: 'it returns false'. Refute it at one input. -/
def fnNeckAnswerWrong : ChangeSpec := { name := "fnNeckAnswer", fn := fun _ => fun
  | [d1, d2] => { results := [.lit (.bool false)], args := [d1, d2] }
  | _ => none }
def FnNeckAnswerWrongFalsely : Prop := fnNeckAnswerRow.holds Tryz.pinned (OpenSpec.ofChange fnNeckAnswerWrong)

/-- 'laws.FnNeckDo': WHATEVER THE INPUT: true; the input reads as it did. -/
def fnNeckDoSpec : ChangeSpec := { name := "fnNeckDo", fn := fun _ => fun
  | [d] => { results := [.lit (.bool true)], args := [d] }
  | _ => none }
def fnNeckDoRow : OpenClaim := { program := "ytoeioeimmfpefaagreat", sum := "4ef4e62feb0c4808263b4ceb1f087f4e2845f6c93cd57118916351da7e98f529", func := "loop.example/tombolo/laws.FnNeckDo", spec := "fnNeckDo", inPlace := ["slices.overlaps[loop.example/tombolo/impl.Ver]", "slices.overlaps[loop.example/tombolo/impl.Dep]", "slices.overlaps[loop.example/tombolo/impl.Answer]"], unfollowed := true, recurses := true, apart := false }
def FnNeckDoSaid : Prop := fnNeckDoRow.holds Tryz.pinned (OpenSpec.ofChange fnNeckDoSpec)

/-- ITS FALSE NEIGHBOUR: 'it returns false'. Refute it at one input. -/
def fnNeckDoWrong : ChangeSpec := { name := "fnNeckDo", fn := fun _ => fun
  | [d] => { results := [.lit (.bool false)], args := [d] }
  | _ => none }
def FnNeckDoWrongFalsely : Prop := fnNeckDoRow.holds Tryz.pinned (OpenSpec.ofChange fnNeckDoWrong)

/- THE SECOND FORM. 'bulk': how many values and letters a reading holds, each counted each time it is reached (what is shared counts as often as it is met; a slice's spare places count too). A statement '..UptoSaid' is the law's where the arguments, and the package variables that the reading takes, are together of bulk at most 1048576: NARROWER than '..Said'. Prove '..Said' where nothing that the law and all that it calls make is longer than what came in: it says more and counts as full. Else prove '..UptoSaid'. A law counts once. -/
mutual
def uptoBulk {H : Type} : DataW H → Nat
  | .lit (.string bytes) => bytes.length + 1
  | .lit _ => 1
  | .nil => 1
  | .ptr d => uptoBulk d + 1
  | .slice elems spare => uptoBulkAll elems + uptoBulkAll spare + 1
  | .agg parts => uptoBulkAll parts + 1
  | .iface _ d => uptoBulk d + 1
  | .map entries => uptoBulkEntries entries + 1
  | .held _ => 1
def uptoBulkAll {H : Type} : List (DataW H) → Nat
  | [] => 0
  | d :: r => uptoBulk d + uptoBulkAll r
def uptoBulkEntries {H : Type} : List (Lit × DataW H) → Nat
  | [] => 0
  | x :: r => uptoBulkEntry x + uptoBulkEntries r
def uptoBulkEntry {H : Type} : Lit × DataW H → Nat
  | (.string bytes, d) => bytes.length + uptoBulk d + 1
  | (_, d) => uptoBulk d + 1
 end
def uptoSmall : (H : Type) → List (DataW H) → Bool := fun _ ds => decide (uptoBulkAll ds ≤ 1048576)
def OpenSpec.upto (s : _root_.Go.ChangeSpec) : _root_.Go.OpenSpec := { _root_.Go.OpenSpec.ofChange s with cond := some uptoSmall }

/-- 'laws.FnNeckBegin', WHERE WHAT IT READS IS OF BULK AT MOST 1048576: true; the input reads as it did. -/
def fnNeckBeginUptoRow : OpenClaim := { program := "ytoeioeimmfpefaagreat", sum := "4ef4e62feb0c4808263b4ceb1f087f4e2845f6c93cd57118916351da7e98f529", func := "loop.example/tombolo/laws.FnNeckBegin", spec := "fnNeckBegin", inPlace := ["slices.overlaps[loop.example/tombolo/impl.Ver]"], unfollowed := true, recurses := true, apart := false, narrowed := true }
def FnNeckBeginUptoSaid : Prop := fnNeckBeginUptoRow.holds Tryz.pinned (OpenSpec.upto fnNeckBeginSpec)

/-- 'laws.FnNeckLook', WHERE WHAT IT READS IS OF BULK AT MOST 1048576: true; the input reads as it did. -/
def fnNeckLookUptoRow : OpenClaim := { program := "ytoeioeimmfpefaagreat", sum := "4ef4e62feb0c4808263b4ceb1f087f4e2845f6c93cd57118916351da7e98f529", func := "loop.example/tombolo/laws.FnNeckLook", spec := "fnNeckLook", inPlace := ["slices.overlaps[loop.example/tombolo/impl.Ver]", "slices.overlaps[loop.example/tombolo/impl.Dep]", "slices.overlaps[loop.example/tombolo/impl.Answer]"], unfollowed := true, recurses := true, apart := false, narrowed := true }
def FnNeckLookUptoSaid : Prop := fnNeckLookUptoRow.holds Tryz.pinned (OpenSpec.upto fnNeckLookSpec)

/-- 'laws.FnNeckAnswer', WHERE WHAT IT READS IS OF BULK AT MOST 1048576: true; the input reads as it did. -/
def fnNeckAnswerUptoRow : OpenClaim := { program := "ytoeioeimmfpefaagreat", sum := "4ef4e62feb0c4808263b4ceb1f087f4e2845f6c93cd57118916351da7e98f529", func := "loop.example/tombolo/laws.FnNeckAnswer", spec := "fnNeckAnswer", inPlace := ["slices.overlaps[loop.example/tombolo/impl.Ver]", "slices.overlaps[loop.example/tombolo/impl.Dep]", "slices.overlaps[loop.example/tombolo/impl.Answer]"], unfollowed := true, recurses := true, apart := false, narrowed := true }
def FnNeckAnswerUptoSaid : Prop := fnNeckAnswerUptoRow.holds Tryz.pinned (OpenSpec.upto fnNeckAnswerSpec)

/-- 'laws.FnNeckDo', WHERE WHAT IT READS IS OF BULK AT MOST 1048576: true; the input reads as it did. -/
def fnNeckDoUptoRow : OpenClaim := { program := "ytoeioeimmfpefaagreat", sum := "4ef4e62feb0c4808263b4ceb1f087f4e2845f6c93cd57118916351da7e98f529", func := "loop.example/tombolo/laws.FnNeckDo", spec := "fnNeckDo", inPlace := ["slices.overlaps[loop.example/tombolo/impl.Ver]", "slices.overlaps[loop.example/tombolo/impl.Dep]", "slices.overlaps[loop.example/tombolo/impl.Answer]"], unfollowed := true, recurses := true, apart := false, narrowed := true }
def FnNeckDoUptoSaid : Prop := fnNeckDoUptoRow.holds Tryz.pinned (OpenSpec.upto fnNeckDoSpec)

end Rows
end Go.Proofs.YtoeioeimmfpefaaGreat
