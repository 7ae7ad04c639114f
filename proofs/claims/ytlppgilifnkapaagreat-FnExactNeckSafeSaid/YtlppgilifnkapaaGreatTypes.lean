/- Facts of the translation on the types that the walks meet. -/
import Derived.Test.YtlppgilifnkapaaGreatProg
import Derived.Test.YtlppgilifnkapaaGreatShort
set_option linter.unusedVariables false
set_option linter.unusedSimpArgs false
set_option maxRecDepth 100000
namespace Go.Proofs.YtlppgilifnkapaaGreat
open Go Go.RowKit
theorem ty3 : Ty Tryz.prog 3 false 1 8 (.int .i64 0) := ⟨by kernel_rfl, by kernel_rfl⟩
theorem zc3 : ∀ I, HoldsL I [AV.val (.int .i64 0)] (Value.cells (.int .i64 0)).toList := fun _ => ⟨⟨rfl, rfl⟩, trivial⟩
theorem zo3 : ∀ u ∈ (Value.cells (.int .i64 0)).toList, u.oneCell' = true := by simp [Value.cells, Value.oneCell']
theorem ty4 : Ty Tryz.prog 4 false 1 1 (.bool false) := ⟨by kernel_rfl, by kernel_rfl⟩
theorem zc4 : ∀ I, HoldsL I [AV.val (.bool false)] (Value.cells (.bool false)).toList := fun _ => ⟨⟨rfl, rfl⟩, trivial⟩
theorem zo4 : ∀ u ∈ (Value.cells (.bool false)).toList, u.oneCell' = true := by simp [Value.cells, Value.oneCell']
theorem ty22 : Ty Tryz.prog 22 false 1 24 (.slice none 0 0) := ⟨by kernel_rfl, by kernel_rfl⟩
theorem zc22 : ∀ I, HoldsL I [AV.rows 7 []] (Value.cells (.slice none 0 0)).toList := fun _ => ⟨⟨rows_nil _ _, rfl⟩, trivial⟩
theorem zo22 : ∀ u ∈ (Value.cells (.slice none 0 0)).toList, u.oneCell' = true := by simp [Value.cells, Value.oneCell']
theorem ty23 : Ty Tryz.prog 23 false 1 24 (.slice none 0 0) := ⟨by kernel_rfl, by kernel_rfl⟩
theorem zc23 : ∀ I, HoldsL I [AV.rows 15 []] (Value.cells (.slice none 0 0)).toList := fun _ => ⟨⟨rows_nil _ _, rfl⟩, trivial⟩
theorem zo23 : ∀ u ∈ (Value.cells (.slice none 0 0)).toList, u.oneCell' = true := by simp [Value.cells, Value.oneCell']
theorem ty24 : Ty Tryz.prog 24 false 1 24 (.slice none 0 0) := ⟨by kernel_rfl, by kernel_rfl⟩
theorem zc24 : ∀ I, HoldsL I [AV.rows 13 []] (Value.cells (.slice none 0 0)).toList := fun _ => ⟨⟨rows_nil _ _, rfl⟩, trivial⟩
theorem zo24 : ∀ u ∈ (Value.cells (.slice none 0 0)).toList, u.oneCell' = true := by simp [Value.cells, Value.oneCell']
theorem ty25 : Ty Tryz.prog 25 false 1 24 (.slice none 0 0) := ⟨by kernel_rfl, by kernel_rfl⟩
theorem zc25 : ∀ I, HoldsL I [AV.rows 1 []] (Value.cells (.slice none 0 0)).toList := fun _ => ⟨⟨rows_nil _ _, rfl⟩, trivial⟩
theorem zo25 : ∀ u ∈ (Value.cells (.slice none 0 0)).toList, u.oneCell' = true := by simp [Value.cells, Value.oneCell']
theorem ty27 : Ty Tryz.prog 27 true 5 104 (.agg #[.int .i64 0, .slice none 0 0, .slice none 0 0, .slice none 0 0, .slice none 0 0]) := ⟨by kernel_rfl, by kernel_rfl⟩
theorem zc27 : ∀ I, HoldsL I [AV.val (.int .i64 0), AV.rows 7 [], AV.rows 15 [], AV.rows 13 [], AV.rows 1 []] (Value.cells (.agg #[.int .i64 0, .slice none 0 0, .slice none 0 0, .slice none 0 0, .slice none 0 0])).toList := fun _ => ⟨⟨rfl, rfl⟩, ⟨rows_nil _ _, rfl⟩, ⟨rows_nil _ _, rfl⟩, ⟨rows_nil _ _, rfl⟩, ⟨rows_nil _ _, rfl⟩, trivial⟩
theorem zo27 : ∀ u ∈ (Value.cells (.agg #[.int .i64 0, .slice none 0 0, .slice none 0 0, .slice none 0 0, .slice none 0 0])).toList, u.oneCell' = true := by simp [Value.cells, Value.oneCell']
theorem fk27 : fieldsKnown Tryz.prog 27 = true := by kernel_rfl
theorem ty30 : Ty Tryz.prog 30 false 1 24 (.slice none 0 0) := ⟨by kernel_rfl, by kernel_rfl⟩
theorem zc30 : ∀ I, HoldsL I [AV.rows 7 []] (Value.cells (.slice none 0 0)).toList := fun _ => ⟨⟨rows_nil _ _, rfl⟩, trivial⟩
theorem zo30 : ∀ u ∈ (Value.cells (.slice none 0 0)).toList, u.oneCell' = true := by simp [Value.cells, Value.oneCell']
theorem ty31 : Ty Tryz.prog 31 false 1 24 (.slice none 0 0) := ⟨by kernel_rfl, by kernel_rfl⟩
theorem zc31 : ∀ I, HoldsL I [AV.rows 15 []] (Value.cells (.slice none 0 0)).toList := fun _ => ⟨⟨rows_nil _ _, rfl⟩, trivial⟩
theorem zo31 : ∀ u ∈ (Value.cells (.slice none 0 0)).toList, u.oneCell' = true := by simp [Value.cells, Value.oneCell']
theorem ty32 : Ty Tryz.prog 32 false 1 24 (.slice none 0 0) := ⟨by kernel_rfl, by kernel_rfl⟩
theorem zc32 : ∀ I, HoldsL I [AV.rows 13 []] (Value.cells (.slice none 0 0)).toList := fun _ => ⟨⟨rows_nil _ _, rfl⟩, trivial⟩
theorem zo32 : ∀ u ∈ (Value.cells (.slice none 0 0)).toList, u.oneCell' = true := by simp [Value.cells, Value.oneCell']
theorem ty33 : Ty Tryz.prog 33 false 1 24 (.slice none 0 0) := ⟨by kernel_rfl, by kernel_rfl⟩
theorem zc33 : ∀ I, HoldsL I [AV.rows 1 []] (Value.cells (.slice none 0 0)).toList := fun _ => ⟨⟨rows_nil _ _, rfl⟩, trivial⟩
theorem zo33 : ∀ u ∈ (Value.cells (.slice none 0 0)).toList, u.oneCell' = true := by simp [Value.cells, Value.oneCell']
theorem ty35 : Ty Tryz.prog 35 true 5 104 (.agg #[.int .i64 0, .slice none 0 0, .slice none 0 0, .slice none 0 0, .slice none 0 0]) := ⟨by kernel_rfl, by kernel_rfl⟩
theorem zc35 : ∀ I, HoldsL I [AV.val (.int .i64 0), AV.rows 7 [], AV.rows 15 [], AV.rows 13 [], AV.rows 1 []] (Value.cells (.agg #[.int .i64 0, .slice none 0 0, .slice none 0 0, .slice none 0 0, .slice none 0 0])).toList := fun _ => ⟨⟨rfl, rfl⟩, ⟨rows_nil _ _, rfl⟩, ⟨rows_nil _ _, rfl⟩, ⟨rows_nil _ _, rfl⟩, ⟨rows_nil _ _, rfl⟩, trivial⟩
theorem zo35 : ∀ u ∈ (Value.cells (.agg #[.int .i64 0, .slice none 0 0, .slice none 0 0, .slice none 0 0, .slice none 0 0])).toList, u.oneCell' = true := by simp [Value.cells, Value.oneCell']
theorem fk35 : fieldsKnown Tryz.prog 35 = true := by kernel_rfl
theorem ty48 : Ty Tryz.prog 48 false 1 24 (.slice none 0 0) := ⟨by kernel_rfl, by kernel_rfl⟩
theorem zc48 : ∀ I, HoldsL I [AV.rows 7 []] (Value.cells (.slice none 0 0)).toList := fun _ => ⟨⟨rows_nil _ _, rfl⟩, trivial⟩
theorem zo48 : ∀ u ∈ (Value.cells (.slice none 0 0)).toList, u.oneCell' = true := by simp [Value.cells, Value.oneCell']
theorem ty64 : Ty Tryz.prog 64 false 1 24 (.slice none 0 0) := ⟨by kernel_rfl, by kernel_rfl⟩
theorem zc64 : ∀ I, HoldsL I [AV.rows 1 []] (Value.cells (.slice none 0 0)).toList := fun _ => ⟨⟨rows_nil _ _, rfl⟩, trivial⟩
theorem zo64 : ∀ u ∈ (Value.cells (.slice none 0 0)).toList, u.oneCell' = true := by simp [Value.cells, Value.oneCell']
theorem ty65 : Ty Tryz.prog 65 false 1 24 (.slice none 0 0) := ⟨by kernel_rfl, by kernel_rfl⟩
theorem zc65 : ∀ I, HoldsL I [AV.rows 3 []] (Value.cells (.slice none 0 0)).toList := fun _ => ⟨⟨rows_nil _ _, rfl⟩, trivial⟩
theorem zo65 : ∀ u ∈ (Value.cells (.slice none 0 0)).toList, u.oneCell' = true := by simp [Value.cells, Value.oneCell']
theorem ty67 : Ty Tryz.prog 67 true 2 16 (.agg #[.int .i64 0, .int .i64 0]) := ⟨by kernel_rfl, by kernel_rfl⟩
theorem zc67 : ∀ I, HoldsL I [AV.val (.int .i64 0), AV.val (.int .i64 0)] (Value.cells (.agg #[.int .i64 0, .int .i64 0])).toList := fun _ => ⟨⟨rfl, rfl⟩, ⟨rfl, rfl⟩, trivial⟩
theorem zo67 : ∀ u ∈ (Value.cells (.agg #[.int .i64 0, .int .i64 0])).toList, u.oneCell' = true := by simp [Value.cells, Value.oneCell']
theorem fk67 : fieldsKnown Tryz.prog 67 = true := by kernel_rfl
theorem ty68 : Ty Tryz.prog 68 false 1 24 (.slice none 0 0) := ⟨by kernel_rfl, by kernel_rfl⟩
theorem zc68 : ∀ I, HoldsL I [AV.rows 9 []] (Value.cells (.slice none 0 0)).toList := fun _ => ⟨⟨rows_nil _ _, rfl⟩, trivial⟩
theorem zo68 : ∀ u ∈ (Value.cells (.slice none 0 0)).toList, u.oneCell' = true := by simp [Value.cells, Value.oneCell']
theorem ty70 : Ty Tryz.prog 70 true 13 168 (.agg #[.int .i64 0, .int .i64 0, .int .i64 0, .slice none 0 0, .int .i64 0, .slice none 0 0, .int .i64 0, .int .i64 0, .bool false, .int .i64 0, .int .i64 0, .slice none 0 0, .slice none 0 0]) := ⟨by kernel_rfl, by kernel_rfl⟩
theorem zc70 : ∀ I, HoldsL I [AV.val (.int .i64 0), AV.val (.int .i64 0), AV.val (.int .i64 0), AV.rows 1 [], AV.val (.int .i64 0), AV.rows 3 [], AV.val (.int .i64 0), AV.val (.int .i64 0), AV.val (.bool false), AV.val (.int .i64 0), AV.val (.int .i64 0), AV.rows 9 [], AV.rows 3 []] (Value.cells (.agg #[.int .i64 0, .int .i64 0, .int .i64 0, .slice none 0 0, .int .i64 0, .slice none 0 0, .int .i64 0, .int .i64 0, .bool false, .int .i64 0, .int .i64 0, .slice none 0 0, .slice none 0 0])).toList := fun _ => ⟨⟨rfl, rfl⟩, ⟨rfl, rfl⟩, ⟨rfl, rfl⟩, ⟨rows_nil _ _, rfl⟩, ⟨rfl, rfl⟩, ⟨rows_nil _ _, rfl⟩, ⟨rfl, rfl⟩, ⟨rfl, rfl⟩, ⟨rfl, rfl⟩, ⟨rfl, rfl⟩, ⟨rfl, rfl⟩, ⟨rows_nil _ _, rfl⟩, ⟨rows_nil _ _, rfl⟩, trivial⟩
theorem zo70 : ∀ u ∈ (Value.cells (.agg #[.int .i64 0, .int .i64 0, .int .i64 0, .slice none 0 0, .int .i64 0, .slice none 0 0, .int .i64 0, .int .i64 0, .bool false, .int .i64 0, .int .i64 0, .slice none 0 0, .slice none 0 0])).toList, u.oneCell' = true := by simp [Value.cells, Value.oneCell']
theorem fk70 : fieldsKnown Tryz.prog 70 = true := by kernel_rfl
theorem ty74 : Ty Tryz.prog 74 true 3 24 (.agg #[.int .i64 0, .int .i64 0, .int .i64 0]) := ⟨by kernel_rfl, by kernel_rfl⟩
theorem zc74 : ∀ I, HoldsL I [AV.val (.int .i64 0), AV.val (.int .i64 0), AV.val (.int .i64 0)] (Value.cells (.agg #[.int .i64 0, .int .i64 0, .int .i64 0])).toList := fun _ => ⟨⟨rfl, rfl⟩, ⟨rfl, rfl⟩, ⟨rfl, rfl⟩, trivial⟩
theorem zo74 : ∀ u ∈ (Value.cells (.agg #[.int .i64 0, .int .i64 0, .int .i64 0])).toList, u.oneCell' = true := by simp [Value.cells, Value.oneCell']
theorem fk74 : fieldsKnown Tryz.prog 74 = true := by kernel_rfl
theorem ty87 : Ty Tryz.prog 87 false 1 24 (.slice none 0 0) := ⟨by kernel_rfl, by kernel_rfl⟩
theorem zc87 : ∀ I, HoldsL I [AV.rows 2 []] (Value.cells (.slice none 0 0)).toList := fun _ => ⟨⟨rows_nil _ _, rfl⟩, trivial⟩
theorem zo87 : ∀ u ∈ (Value.cells (.slice none 0 0)).toList, u.oneCell' = true := by simp [Value.cells, Value.oneCell']
theorem ty89 : Ty Tryz.prog 89 true 7 136 (.agg #[.int .i64 0, .bool false, .slice none 0 0, .slice none 0 0, .slice none 0 0, .slice none 0 0, .slice none 0 0]) := ⟨by kernel_rfl, by kernel_rfl⟩
theorem zc89 : ∀ I, HoldsL I [AV.val (.int .i64 0), AV.val (.bool false), AV.rows 2 [], AV.rows 7 [], AV.rows 7 [], AV.rows 3 [], AV.rows 3 []] (Value.cells (.agg #[.int .i64 0, .bool false, .slice none 0 0, .slice none 0 0, .slice none 0 0, .slice none 0 0, .slice none 0 0])).toList := fun _ => ⟨⟨rfl, rfl⟩, ⟨rfl, rfl⟩, ⟨rows_nil _ _, rfl⟩, ⟨rows_nil _ _, rfl⟩, ⟨rows_nil _ _, rfl⟩, ⟨rows_nil _ _, rfl⟩, ⟨rows_nil _ _, rfl⟩, trivial⟩
theorem zo89 : ∀ u ∈ (Value.cells (.agg #[.int .i64 0, .bool false, .slice none 0 0, .slice none 0 0, .slice none 0 0, .slice none 0 0, .slice none 0 0])).toList, u.oneCell' = true := by simp [Value.cells, Value.oneCell']
theorem fk89 : fieldsKnown Tryz.prog 89 = true := by kernel_rfl
theorem ty91 : Ty Tryz.prog 91 true 2 16 (.agg #[.int .i64 0, .int .i64 0]) := ⟨by kernel_rfl, by kernel_rfl⟩
theorem zc91 : ∀ I, HoldsL I [AV.val (.int .i64 0), AV.val (.int .i64 0)] (Value.cells (.agg #[.int .i64 0, .int .i64 0])).toList := fun _ => ⟨⟨rfl, rfl⟩, ⟨rfl, rfl⟩, trivial⟩
theorem zo91 : ∀ u ∈ (Value.cells (.agg #[.int .i64 0, .int .i64 0])).toList, u.oneCell' = true := by simp [Value.cells, Value.oneCell']
theorem fk91 : fieldsKnown Tryz.prog 91 = true := by kernel_rfl
theorem ty94 : Ty Tryz.prog 94 true 7 72 (.agg #[.int .i64 0, .int .i64 0, .int .i64 0, .int .i64 0, .int .i64 0, .int .i64 0, .slice none 0 0]) := ⟨by kernel_rfl, by kernel_rfl⟩
theorem zc94 : ∀ I, HoldsL I [AV.val (.int .i64 0), AV.val (.int .i64 0), AV.val (.int .i64 0), AV.val (.int .i64 0), AV.val (.int .i64 0), AV.val (.int .i64 0), AV.rows 3 []] (Value.cells (.agg #[.int .i64 0, .int .i64 0, .int .i64 0, .int .i64 0, .int .i64 0, .int .i64 0, .slice none 0 0])).toList := fun _ => ⟨⟨rfl, rfl⟩, ⟨rfl, rfl⟩, ⟨rfl, rfl⟩, ⟨rfl, rfl⟩, ⟨rfl, rfl⟩, ⟨rfl, rfl⟩, ⟨rows_nil _ _, rfl⟩, trivial⟩
theorem zo94 : ∀ u ∈ (Value.cells (.agg #[.int .i64 0, .int .i64 0, .int .i64 0, .int .i64 0, .int .i64 0, .int .i64 0, .slice none 0 0])).toList, u.oneCell' = true := by simp [Value.cells, Value.oneCell']
theorem fk94 : fieldsKnown Tryz.prog 94 = true := by kernel_rfl
theorem ty119 : Ty Tryz.prog 119 false 1 24 (.slice none 0 0) := ⟨by kernel_rfl, by kernel_rfl⟩
theorem zc119 : ∀ I, HoldsL I [AV.rows 2 []] (Value.cells (.slice none 0 0)).toList := fun _ => ⟨⟨rows_nil _ _, rfl⟩, trivial⟩
theorem zo119 : ∀ u ∈ (Value.cells (.slice none 0 0)).toList, u.oneCell' = true := by simp [Value.cells, Value.oneCell']
theorem ty120 : Ty Tryz.prog 120 false 1 24 (.slice none 0 0) := ⟨by kernel_rfl, by kernel_rfl⟩
theorem zc120 : ∀ I, HoldsL I [AV.rows 7 []] (Value.cells (.slice none 0 0)).toList := fun _ => ⟨⟨rows_nil _ _, rfl⟩, trivial⟩
theorem zo120 : ∀ u ∈ (Value.cells (.slice none 0 0)).toList, u.oneCell' = true := by simp [Value.cells, Value.oneCell']
theorem ty121 : Ty Tryz.prog 121 false 1 24 (.slice none 0 0) := ⟨by kernel_rfl, by kernel_rfl⟩
theorem zc121 : ∀ I, HoldsL I [AV.rows 3 []] (Value.cells (.slice none 0 0)).toList := fun _ => ⟨⟨rows_nil _ _, rfl⟩, trivial⟩
theorem zo121 : ∀ u ∈ (Value.cells (.slice none 0 0)).toList, u.oneCell' = true := by simp [Value.cells, Value.oneCell']
theorem ty123 : Ty Tryz.prog 123 true 7 136 (.agg #[.int .i64 0, .bool false, .slice none 0 0, .slice none 0 0, .slice none 0 0, .slice none 0 0, .slice none 0 0]) := ⟨by kernel_rfl, by kernel_rfl⟩
theorem zc123 : ∀ I, HoldsL I [AV.val (.int .i64 0), AV.val (.bool false), AV.rows 2 [], AV.rows 7 [], AV.rows 7 [], AV.rows 3 [], AV.rows 3 []] (Value.cells (.agg #[.int .i64 0, .bool false, .slice none 0 0, .slice none 0 0, .slice none 0 0, .slice none 0 0, .slice none 0 0])).toList := fun _ => ⟨⟨rfl, rfl⟩, ⟨rfl, rfl⟩, ⟨rows_nil _ _, rfl⟩, ⟨rows_nil _ _, rfl⟩, ⟨rows_nil _ _, rfl⟩, ⟨rows_nil _ _, rfl⟩, ⟨rows_nil _ _, rfl⟩, trivial⟩
theorem zo123 : ∀ u ∈ (Value.cells (.agg #[.int .i64 0, .bool false, .slice none 0 0, .slice none 0 0, .slice none 0 0, .slice none 0 0, .slice none 0 0])).toList, u.oneCell' = true := by simp [Value.cells, Value.oneCell']
theorem fk123 : fieldsKnown Tryz.prog 123 = true := by kernel_rfl
theorem ty125 : Ty Tryz.prog 125 true 2 16 (.agg #[.int .i64 0, .int .i64 0]) := ⟨by kernel_rfl, by kernel_rfl⟩
theorem zc125 : ∀ I, HoldsL I [AV.val (.int .i64 0), AV.val (.int .i64 0)] (Value.cells (.agg #[.int .i64 0, .int .i64 0])).toList := fun _ => ⟨⟨rfl, rfl⟩, ⟨rfl, rfl⟩, trivial⟩
theorem zo125 : ∀ u ∈ (Value.cells (.agg #[.int .i64 0, .int .i64 0])).toList, u.oneCell' = true := by simp [Value.cells, Value.oneCell']
theorem fk125 : fieldsKnown Tryz.prog 125 = true := by kernel_rfl
theorem ty127 : Ty Tryz.prog 127 true 15 184 (.agg #[.int .i64 0, .int .i64 0, .int .i64 0, .int .i64 0, .int .i64 0, .int .i64 0, .int .i64 0, .int .i64 0, .bool false, .slice none 0 0, .int .i64 0, .int .i64 0, .slice none 0 0, .slice none 0 0, .slice none 0 0]) := ⟨by kernel_rfl, by kernel_rfl⟩
theorem zc127 : ∀ I, HoldsL I [AV.val (.int .i64 0), AV.val (.int .i64 0), AV.val (.int .i64 0), AV.val (.int .i64 0), AV.val (.int .i64 0), AV.val (.int .i64 0), AV.val (.int .i64 0), AV.val (.int .i64 0), AV.val (.bool false), AV.rows 3 [], AV.val (.int .i64 0), AV.val (.int .i64 0), AV.rows 7 [], AV.rows 7 [], AV.rows 3 []] (Value.cells (.agg #[.int .i64 0, .int .i64 0, .int .i64 0, .int .i64 0, .int .i64 0, .int .i64 0, .int .i64 0, .int .i64 0, .bool false, .slice none 0 0, .int .i64 0, .int .i64 0, .slice none 0 0, .slice none 0 0, .slice none 0 0])).toList := fun _ => ⟨⟨rfl, rfl⟩, ⟨rfl, rfl⟩, ⟨rfl, rfl⟩, ⟨rfl, rfl⟩, ⟨rfl, rfl⟩, ⟨rfl, rfl⟩, ⟨rfl, rfl⟩, ⟨rfl, rfl⟩, ⟨rfl, rfl⟩, ⟨rows_nil _ _, rfl⟩, ⟨rfl, rfl⟩, ⟨rfl, rfl⟩, ⟨rows_nil _ _, rfl⟩, ⟨rows_nil _ _, rfl⟩, ⟨rows_nil _ _, rfl⟩, trivial⟩
theorem zo127 : ∀ u ∈ (Value.cells (.agg #[.int .i64 0, .int .i64 0, .int .i64 0, .int .i64 0, .int .i64 0, .int .i64 0, .int .i64 0, .int .i64 0, .bool false, .slice none 0 0, .int .i64 0, .int .i64 0, .slice none 0 0, .slice none 0 0, .slice none 0 0])).toList, u.oneCell' = true := by simp [Value.cells, Value.oneCell']
theorem fk127 : fieldsKnown Tryz.prog 127 = true := by kernel_rfl
theorem ty129 : Ty Tryz.prog 129 false 1 24 (.slice none 0 0) := ⟨by kernel_rfl, by kernel_rfl⟩
theorem zc129 : ∀ I, HoldsL I [AV.rows 9 []] (Value.cells (.slice none 0 0)).toList := fun _ => ⟨⟨rows_nil _ _, rfl⟩, trivial⟩
theorem zo129 : ∀ u ∈ (Value.cells (.slice none 0 0)).toList, u.oneCell' = true := by simp [Value.cells, Value.oneCell']
theorem ty131 : Ty Tryz.prog 131 true 13 168 (.agg #[.int .i64 0, .int .i64 0, .int .i64 0, .slice none 0 0, .int .i64 0, .slice none 0 0, .int .i64 0, .int .i64 0, .bool false, .int .i64 0, .int .i64 0, .slice none 0 0, .slice none 0 0]) := ⟨by kernel_rfl, by kernel_rfl⟩
theorem zc131 : ∀ I, HoldsL I [AV.val (.int .i64 0), AV.val (.int .i64 0), AV.val (.int .i64 0), AV.rows 1 [], AV.val (.int .i64 0), AV.rows 3 [], AV.val (.int .i64 0), AV.val (.int .i64 0), AV.val (.bool false), AV.val (.int .i64 0), AV.val (.int .i64 0), AV.rows 9 [], AV.rows 3 []] (Value.cells (.agg #[.int .i64 0, .int .i64 0, .int .i64 0, .slice none 0 0, .int .i64 0, .slice none 0 0, .int .i64 0, .int .i64 0, .bool false, .int .i64 0, .int .i64 0, .slice none 0 0, .slice none 0 0])).toList := fun _ => ⟨⟨rfl, rfl⟩, ⟨rfl, rfl⟩, ⟨rfl, rfl⟩, ⟨rows_nil _ _, rfl⟩, ⟨rfl, rfl⟩, ⟨rows_nil _ _, rfl⟩, ⟨rfl, rfl⟩, ⟨rfl, rfl⟩, ⟨rfl, rfl⟩, ⟨rfl, rfl⟩, ⟨rfl, rfl⟩, ⟨rows_nil _ _, rfl⟩, ⟨rows_nil _ _, rfl⟩, trivial⟩
theorem zo131 : ∀ u ∈ (Value.cells (.agg #[.int .i64 0, .int .i64 0, .int .i64 0, .slice none 0 0, .int .i64 0, .slice none 0 0, .int .i64 0, .int .i64 0, .bool false, .int .i64 0, .int .i64 0, .slice none 0 0, .slice none 0 0])).toList, u.oneCell' = true := by simp [Value.cells, Value.oneCell']
theorem fk131 : fieldsKnown Tryz.prog 131 = true := by kernel_rfl
theorem ty137 : Ty Tryz.prog 137 true 15 184 (.agg #[.int .i64 0, .int .i64 0, .int .i64 0, .int .i64 0, .int .i64 0, .int .i64 0, .int .i64 0, .int .i64 0, .bool false, .slice none 0 0, .int .i64 0, .int .i64 0, .slice none 0 0, .slice none 0 0, .slice none 0 0]) := ⟨by kernel_rfl, by kernel_rfl⟩
theorem zc137 : ∀ I, HoldsL I [AV.val (.int .i64 0), AV.val (.int .i64 0), AV.val (.int .i64 0), AV.val (.int .i64 0), AV.val (.int .i64 0), AV.val (.int .i64 0), AV.val (.int .i64 0), AV.val (.int .i64 0), AV.val (.bool false), AV.rows 3 [], AV.val (.int .i64 0), AV.val (.int .i64 0), AV.rows 7 [], AV.rows 7 [], AV.rows 3 []] (Value.cells (.agg #[.int .i64 0, .int .i64 0, .int .i64 0, .int .i64 0, .int .i64 0, .int .i64 0, .int .i64 0, .int .i64 0, .bool false, .slice none 0 0, .int .i64 0, .int .i64 0, .slice none 0 0, .slice none 0 0, .slice none 0 0])).toList := fun _ => ⟨⟨rfl, rfl⟩, ⟨rfl, rfl⟩, ⟨rfl, rfl⟩, ⟨rfl, rfl⟩, ⟨rfl, rfl⟩, ⟨rfl, rfl⟩, ⟨rfl, rfl⟩, ⟨rfl, rfl⟩, ⟨rfl, rfl⟩, ⟨rows_nil _ _, rfl⟩, ⟨rfl, rfl⟩, ⟨rfl, rfl⟩, ⟨rows_nil _ _, rfl⟩, ⟨rows_nil _ _, rfl⟩, ⟨rows_nil _ _, rfl⟩, trivial⟩
theorem zo137 : ∀ u ∈ (Value.cells (.agg #[.int .i64 0, .int .i64 0, .int .i64 0, .int .i64 0, .int .i64 0, .int .i64 0, .int .i64 0, .int .i64 0, .bool false, .slice none 0 0, .int .i64 0, .int .i64 0, .slice none 0 0, .slice none 0 0, .slice none 0 0])).toList, u.oneCell' = true := by simp [Value.cells, Value.oneCell']
theorem fk137 : fieldsKnown Tryz.prog 137 = true := by kernel_rfl
theorem ty140 : Ty Tryz.prog 140 true 9 88 (.agg #[.int .i64 0, .bool false, .int .i64 0, .int .i64 0, .int .i64 0, .int .i64 0, .int .i64 0, .int .i64 0, .slice none 0 0]) := ⟨by kernel_rfl, by kernel_rfl⟩
theorem zc140 : ∀ I, HoldsL I [AV.val (.int .i64 0), AV.val (.bool false), AV.val (.int .i64 0), AV.val (.int .i64 0), AV.val (.int .i64 0), AV.val (.int .i64 0), AV.val (.int .i64 0), AV.val (.int .i64 0), AV.rows 3 []] (Value.cells (.agg #[.int .i64 0, .bool false, .int .i64 0, .int .i64 0, .int .i64 0, .int .i64 0, .int .i64 0, .int .i64 0, .slice none 0 0])).toList := fun _ => ⟨⟨rfl, rfl⟩, ⟨rfl, rfl⟩, ⟨rfl, rfl⟩, ⟨rfl, rfl⟩, ⟨rfl, rfl⟩, ⟨rfl, rfl⟩, ⟨rfl, rfl⟩, ⟨rfl, rfl⟩, ⟨rows_nil _ _, rfl⟩, trivial⟩
theorem zo140 : ∀ u ∈ (Value.cells (.agg #[.int .i64 0, .bool false, .int .i64 0, .int .i64 0, .int .i64 0, .int .i64 0, .int .i64 0, .int .i64 0, .slice none 0 0])).toList, u.oneCell' = true := by simp [Value.cells, Value.oneCell']
theorem fk140 : fieldsKnown Tryz.prog 140 = true := by kernel_rfl
theorem ty164 : Ty Tryz.prog 164 true 2 16 (.agg #[.int .i64 0, .int .i64 0]) := ⟨by kernel_rfl, by kernel_rfl⟩
theorem zc164 : ∀ I, HoldsL I [AV.val (.int .i64 0), AV.val (.int .i64 0)] (Value.cells (.agg #[.int .i64 0, .int .i64 0])).toList := fun _ => ⟨⟨rfl, rfl⟩, ⟨rfl, rfl⟩, trivial⟩
theorem zo164 : ∀ u ∈ (Value.cells (.agg #[.int .i64 0, .int .i64 0])).toList, u.oneCell' = true := by simp [Value.cells, Value.oneCell']
theorem ty194 : Ty Tryz.prog 194 true 3 24 (.agg #[.int .i64 0, .int .i64 0, .int .i64 0]) := ⟨by kernel_rfl, by kernel_rfl⟩
theorem zc194 : ∀ I, HoldsL I [AV.val (.int .i64 0), AV.val (.int .i64 0), AV.val (.int .i64 0)] (Value.cells (.agg #[.int .i64 0, .int .i64 0, .int .i64 0])).toList := fun _ => ⟨⟨rfl, rfl⟩, ⟨rfl, rfl⟩, ⟨rfl, rfl⟩, trivial⟩
theorem zo194 : ∀ u ∈ (Value.cells (.agg #[.int .i64 0, .int .i64 0, .int .i64 0])).toList, u.oneCell' = true := by simp [Value.cells, Value.oneCell']
theorem fk194 : fieldsKnown Tryz.prog 194 = true := by kernel_rfl
theorem ty226 : Ty Tryz.prog 226 true 7 72 (.agg #[.int .i64 0, .int .i64 0, .int .i64 0, .int .i64 0, .int .i64 0, .int .i64 0, .slice none 0 0]) := ⟨by kernel_rfl, by kernel_rfl⟩
theorem zc226 : ∀ I, HoldsL I [AV.val (.int .i64 0), AV.val (.int .i64 0), AV.val (.int .i64 0), AV.val (.int .i64 0), AV.val (.int .i64 0), AV.val (.int .i64 0), AV.rows 3 []] (Value.cells (.agg #[.int .i64 0, .int .i64 0, .int .i64 0, .int .i64 0, .int .i64 0, .int .i64 0, .slice none 0 0])).toList := fun _ => ⟨⟨rfl, rfl⟩, ⟨rfl, rfl⟩, ⟨rfl, rfl⟩, ⟨rfl, rfl⟩, ⟨rfl, rfl⟩, ⟨rfl, rfl⟩, ⟨rows_nil _ _, rfl⟩, trivial⟩
theorem zo226 : ∀ u ∈ (Value.cells (.agg #[.int .i64 0, .int .i64 0, .int .i64 0, .int .i64 0, .int .i64 0, .int .i64 0, .slice none 0 0])).toList, u.oneCell' = true := by simp [Value.cells, Value.oneCell']
theorem fk226 : fieldsKnown Tryz.prog 226 = true := by kernel_rfl
theorem ty229 : Ty Tryz.prog 229 true 9 88 (.agg #[.int .i64 0, .bool false, .int .i64 0, .int .i64 0, .int .i64 0, .int .i64 0, .int .i64 0, .int .i64 0, .slice none 0 0]) := ⟨by kernel_rfl, by kernel_rfl⟩
theorem zc229 : ∀ I, HoldsL I [AV.val (.int .i64 0), AV.val (.bool false), AV.val (.int .i64 0), AV.val (.int .i64 0), AV.val (.int .i64 0), AV.val (.int .i64 0), AV.val (.int .i64 0), AV.val (.int .i64 0), AV.rows 3 []] (Value.cells (.agg #[.int .i64 0, .bool false, .int .i64 0, .int .i64 0, .int .i64 0, .int .i64 0, .int .i64 0, .int .i64 0, .slice none 0 0])).toList := fun _ => ⟨⟨rfl, rfl⟩, ⟨rfl, rfl⟩, ⟨rfl, rfl⟩, ⟨rfl, rfl⟩, ⟨rfl, rfl⟩, ⟨rfl, rfl⟩, ⟨rfl, rfl⟩, ⟨rfl, rfl⟩, ⟨rows_nil _ _, rfl⟩, trivial⟩
theorem zo229 : ∀ u ∈ (Value.cells (.agg #[.int .i64 0, .bool false, .int .i64 0, .int .i64 0, .int .i64 0, .int .i64 0, .int .i64 0, .int .i64 0, .slice none 0 0])).toList, u.oneCell' = true := by simp [Value.cells, Value.oneCell']
theorem fk229 : fieldsKnown Tryz.prog 229 = true := by kernel_rfl
theorem ty232 : Ty Tryz.prog 232 true 2 16 (.agg #[.int .i64 0, .int .i64 0]) := ⟨by kernel_rfl, by kernel_rfl⟩
theorem zc232 : ∀ I, HoldsL I [AV.val (.int .i64 0), AV.val (.int .i64 0)] (Value.cells (.agg #[.int .i64 0, .int .i64 0])).toList := fun _ => ⟨⟨rfl, rfl⟩, ⟨rfl, rfl⟩, trivial⟩
theorem zo232 : ∀ u ∈ (Value.cells (.agg #[.int .i64 0, .int .i64 0])).toList, u.oneCell' = true := by simp [Value.cells, Value.oneCell']
theorem fk232 : fieldsKnown Tryz.prog 232 = true := by kernel_rfl
theorem un3 : Tryz.prog.underlying 3 = some (.int .i64) := by kernel_rfl
theorem un4 : Tryz.prog.underlying 4 = some (.bool) := by kernel_rfl
theorem un22 : Tryz.prog.underlying 22 = some (.slice 123) := by kernel_rfl
theorem un23 : Tryz.prog.underlying 23 = some (.slice 127) := by kernel_rfl
theorem un24 : Tryz.prog.underlying 24 = some (.slice 131) := by kernel_rfl
theorem un25 : Tryz.prog.underlying 25 = some (.slice 121) := by kernel_rfl
theorem un30 : Tryz.prog.underlying 30 = some (.slice 89) := by kernel_rfl
theorem un31 : Tryz.prog.underlying 31 = some (.slice 137) := by kernel_rfl
theorem un32 : Tryz.prog.underlying 32 = some (.slice 70) := by kernel_rfl
theorem un33 : Tryz.prog.underlying 33 = some (.slice 65) := by kernel_rfl
theorem un48 : Tryz.prog.underlying 48 = some (.slice 94) := by kernel_rfl
theorem un64 : Tryz.prog.underlying 64 = some (.slice 3) := by kernel_rfl
theorem un65 : Tryz.prog.underlying 65 = some (.slice 74) := by kernel_rfl
theorem un68 : Tryz.prog.underlying 68 = some (.slice 140) := by kernel_rfl
theorem un87 : Tryz.prog.underlying 87 = some (.slice 91) := by kernel_rfl
theorem un119 : Tryz.prog.underlying 119 = some (.slice 232) := by kernel_rfl
theorem un120 : Tryz.prog.underlying 120 = some (.slice 226) := by kernel_rfl
theorem un121 : Tryz.prog.underlying 121 = some (.slice 194) := by kernel_rfl
theorem un129 : Tryz.prog.underlying 129 = some (.slice 229) := by kernel_rfl
theorem un163 : Tryz.prog.underlying 163 = some (.map 164 4) := by kernel_rfl
theorem un164 : Tryz.prog.underlying 164 = some (.array 2 3) := by kernel_rfl
theorem un197 : Tryz.prog.underlying 197 = some (.map 3 3) := by kernel_rfl
theorem un208 : Tryz.prog.underlying 208 = some (.slice 48) := by kernel_rfl
theorem fd27_0 : FieldIs Tryz.prog 27 0 0 1 := by unfold FieldIs; kernel_rfl
theorem sp27_0 : structPlace Tryz.prog 27 0 = some (0, 1) := by unfold structPlace; kernel_rfl
theorem fd27_1 : FieldIs Tryz.prog 27 1 1 1 := by unfold FieldIs; kernel_rfl
theorem sp27_1 : structPlace Tryz.prog 27 1 = some (1, 1) := by unfold structPlace; kernel_rfl
theorem fd27_2 : FieldIs Tryz.prog 27 2 2 1 := by unfold FieldIs; kernel_rfl
theorem sp27_2 : structPlace Tryz.prog 27 2 = some (2, 1) := by unfold structPlace; kernel_rfl
theorem fd27_3 : FieldIs Tryz.prog 27 3 3 1 := by unfold FieldIs; kernel_rfl
theorem sp27_3 : structPlace Tryz.prog 27 3 = some (3, 1) := by unfold structPlace; kernel_rfl
theorem fd27_4 : FieldIs Tryz.prog 27 4 4 1 := by unfold FieldIs; kernel_rfl
theorem sp27_4 : structPlace Tryz.prog 27 4 = some (4, 1) := by unfold structPlace; kernel_rfl
theorem fd35_0 : FieldIs Tryz.prog 35 0 0 1 := by unfold FieldIs; kernel_rfl
theorem sp35_0 : structPlace Tryz.prog 35 0 = some (0, 1) := by unfold structPlace; kernel_rfl
theorem fd35_1 : FieldIs Tryz.prog 35 1 1 1 := by unfold FieldIs; kernel_rfl
theorem sp35_1 : structPlace Tryz.prog 35 1 = some (1, 1) := by unfold structPlace; kernel_rfl
theorem fd35_2 : FieldIs Tryz.prog 35 2 2 1 := by unfold FieldIs; kernel_rfl
theorem sp35_2 : structPlace Tryz.prog 35 2 = some (2, 1) := by unfold structPlace; kernel_rfl
theorem fd35_3 : FieldIs Tryz.prog 35 3 3 1 := by unfold FieldIs; kernel_rfl
theorem sp35_3 : structPlace Tryz.prog 35 3 = some (3, 1) := by unfold structPlace; kernel_rfl
theorem fd35_4 : FieldIs Tryz.prog 35 4 4 1 := by unfold FieldIs; kernel_rfl
theorem sp35_4 : structPlace Tryz.prog 35 4 = some (4, 1) := by unfold structPlace; kernel_rfl
theorem fd67_0 : FieldIs Tryz.prog 67 0 0 1 := by unfold FieldIs; kernel_rfl
theorem sp67_0 : structPlace Tryz.prog 67 0 = some (0, 1) := by unfold structPlace; kernel_rfl
theorem fd67_1 : FieldIs Tryz.prog 67 1 1 1 := by unfold FieldIs; kernel_rfl
theorem sp67_1 : structPlace Tryz.prog 67 1 = some (1, 1) := by unfold structPlace; kernel_rfl
theorem fd70_0 : FieldIs Tryz.prog 70 0 0 1 := by unfold FieldIs; kernel_rfl
theorem sp70_0 : structPlace Tryz.prog 70 0 = some (0, 1) := by unfold structPlace; kernel_rfl
theorem fd70_1 : FieldIs Tryz.prog 70 1 1 1 := by unfold FieldIs; kernel_rfl
theorem sp70_1 : structPlace Tryz.prog 70 1 = some (1, 1) := by unfold structPlace; kernel_rfl
theorem fd70_2 : FieldIs Tryz.prog 70 2 2 1 := by unfold FieldIs; kernel_rfl
theorem sp70_2 : structPlace Tryz.prog 70 2 = some (2, 1) := by unfold structPlace; kernel_rfl
theorem fd70_3 : FieldIs Tryz.prog 70 3 3 1 := by unfold FieldIs; kernel_rfl
theorem sp70_3 : structPlace Tryz.prog 70 3 = some (3, 1) := by unfold structPlace; kernel_rfl
theorem fd70_4 : FieldIs Tryz.prog 70 4 4 1 := by unfold FieldIs; kernel_rfl
theorem sp70_4 : structPlace Tryz.prog 70 4 = some (4, 1) := by unfold structPlace; kernel_rfl
theorem fd70_5 : FieldIs Tryz.prog 70 5 5 1 := by unfold FieldIs; kernel_rfl
theorem sp70_5 : structPlace Tryz.prog 70 5 = some (5, 1) := by unfold structPlace; kernel_rfl
theorem fd70_6 : FieldIs Tryz.prog 70 6 6 1 := by unfold FieldIs; kernel_rfl
theorem sp70_6 : structPlace Tryz.prog 70 6 = some (6, 1) := by unfold structPlace; kernel_rfl
theorem fd70_7 : FieldIs Tryz.prog 70 7 7 1 := by unfold FieldIs; kernel_rfl
theorem sp70_7 : structPlace Tryz.prog 70 7 = some (7, 1) := by unfold structPlace; kernel_rfl
theorem fd70_8 : FieldIs Tryz.prog 70 8 8 1 := by unfold FieldIs; kernel_rfl
theorem sp70_8 : structPlace Tryz.prog 70 8 = some (8, 1) := by unfold structPlace; kernel_rfl
theorem fd70_9 : FieldIs Tryz.prog 70 9 9 2 := by unfold FieldIs; kernel_rfl
theorem sp70_9 : structPlace Tryz.prog 70 9 = some (9, 2) := by unfold structPlace; kernel_rfl
theorem fd70_10 : FieldIs Tryz.prog 70 10 11 1 := by unfold FieldIs; kernel_rfl
theorem sp70_10 : structPlace Tryz.prog 70 10 = some (11, 1) := by unfold structPlace; kernel_rfl
theorem fd70_11 : FieldIs Tryz.prog 70 11 12 1 := by unfold FieldIs; kernel_rfl
theorem sp70_11 : structPlace Tryz.prog 70 11 = some (12, 1) := by unfold structPlace; kernel_rfl
theorem fd74_0 : FieldIs Tryz.prog 74 0 0 1 := by unfold FieldIs; kernel_rfl
theorem sp74_0 : structPlace Tryz.prog 74 0 = some (0, 1) := by unfold structPlace; kernel_rfl
theorem fd74_1 : FieldIs Tryz.prog 74 1 1 2 := by unfold FieldIs; kernel_rfl
theorem sp74_1 : structPlace Tryz.prog 74 1 = some (1, 2) := by unfold structPlace; kernel_rfl
theorem fd89_0 : FieldIs Tryz.prog 89 0 0 1 := by unfold FieldIs; kernel_rfl
theorem sp89_0 : structPlace Tryz.prog 89 0 = some (0, 1) := by unfold structPlace; kernel_rfl
theorem fd89_1 : FieldIs Tryz.prog 89 1 1 1 := by unfold FieldIs; kernel_rfl
theorem sp89_1 : structPlace Tryz.prog 89 1 = some (1, 1) := by unfold structPlace; kernel_rfl
theorem fd89_2 : FieldIs Tryz.prog 89 2 2 1 := by unfold FieldIs; kernel_rfl
theorem sp89_2 : structPlace Tryz.prog 89 2 = some (2, 1) := by unfold structPlace; kernel_rfl
theorem fd89_3 : FieldIs Tryz.prog 89 3 3 1 := by unfold FieldIs; kernel_rfl
theorem sp89_3 : structPlace Tryz.prog 89 3 = some (3, 1) := by unfold structPlace; kernel_rfl
theorem fd89_4 : FieldIs Tryz.prog 89 4 4 1 := by unfold FieldIs; kernel_rfl
theorem sp89_4 : structPlace Tryz.prog 89 4 = some (4, 1) := by unfold structPlace; kernel_rfl
theorem fd89_5 : FieldIs Tryz.prog 89 5 5 1 := by unfold FieldIs; kernel_rfl
theorem sp89_5 : structPlace Tryz.prog 89 5 = some (5, 1) := by unfold structPlace; kernel_rfl
theorem fd89_6 : FieldIs Tryz.prog 89 6 6 1 := by unfold FieldIs; kernel_rfl
theorem sp89_6 : structPlace Tryz.prog 89 6 = some (6, 1) := by unfold structPlace; kernel_rfl
theorem fd91_0 : FieldIs Tryz.prog 91 0 0 1 := by unfold FieldIs; kernel_rfl
theorem sp91_0 : structPlace Tryz.prog 91 0 = some (0, 1) := by unfold structPlace; kernel_rfl
theorem fd91_1 : FieldIs Tryz.prog 91 1 1 1 := by unfold FieldIs; kernel_rfl
theorem sp91_1 : structPlace Tryz.prog 91 1 = some (1, 1) := by unfold structPlace; kernel_rfl
theorem fd94_0 : FieldIs Tryz.prog 94 0 0 1 := by unfold FieldIs; kernel_rfl
theorem sp94_0 : structPlace Tryz.prog 94 0 = some (0, 1) := by unfold structPlace; kernel_rfl
theorem fd94_1 : FieldIs Tryz.prog 94 1 1 2 := by unfold FieldIs; kernel_rfl
theorem sp94_1 : structPlace Tryz.prog 94 1 = some (1, 2) := by unfold structPlace; kernel_rfl
theorem fd94_2 : FieldIs Tryz.prog 94 2 3 1 := by unfold FieldIs; kernel_rfl
theorem sp94_2 : structPlace Tryz.prog 94 2 = some (3, 1) := by unfold structPlace; kernel_rfl
theorem fd94_3 : FieldIs Tryz.prog 94 3 4 1 := by unfold FieldIs; kernel_rfl
theorem sp94_3 : structPlace Tryz.prog 94 3 = some (4, 1) := by unfold structPlace; kernel_rfl
theorem fd94_4 : FieldIs Tryz.prog 94 4 5 1 := by unfold FieldIs; kernel_rfl
theorem sp94_4 : structPlace Tryz.prog 94 4 = some (5, 1) := by unfold structPlace; kernel_rfl
theorem fd94_5 : FieldIs Tryz.prog 94 5 6 1 := by unfold FieldIs; kernel_rfl
theorem sp94_5 : structPlace Tryz.prog 94 5 = some (6, 1) := by unfold structPlace; kernel_rfl
theorem fd123_0 : FieldIs Tryz.prog 123 0 0 1 := by unfold FieldIs; kernel_rfl
theorem sp123_0 : structPlace Tryz.prog 123 0 = some (0, 1) := by unfold structPlace; kernel_rfl
theorem fd123_1 : FieldIs Tryz.prog 123 1 1 1 := by unfold FieldIs; kernel_rfl
theorem sp123_1 : structPlace Tryz.prog 123 1 = some (1, 1) := by unfold structPlace; kernel_rfl
theorem fd123_2 : FieldIs Tryz.prog 123 2 2 1 := by unfold FieldIs; kernel_rfl
theorem sp123_2 : structPlace Tryz.prog 123 2 = some (2, 1) := by unfold structPlace; kernel_rfl
theorem fd123_3 : FieldIs Tryz.prog 123 3 3 1 := by unfold FieldIs; kernel_rfl
theorem sp123_3 : structPlace Tryz.prog 123 3 = some (3, 1) := by unfold structPlace; kernel_rfl
theorem fd123_4 : FieldIs Tryz.prog 123 4 4 1 := by unfold FieldIs; kernel_rfl
theorem sp123_4 : structPlace Tryz.prog 123 4 = some (4, 1) := by unfold structPlace; kernel_rfl
theorem fd123_5 : FieldIs Tryz.prog 123 5 5 1 := by unfold FieldIs; kernel_rfl
theorem sp123_5 : structPlace Tryz.prog 123 5 = some (5, 1) := by unfold structPlace; kernel_rfl
theorem fd123_6 : FieldIs Tryz.prog 123 6 6 1 := by unfold FieldIs; kernel_rfl
theorem sp123_6 : structPlace Tryz.prog 123 6 = some (6, 1) := by unfold structPlace; kernel_rfl
theorem fd125_0 : FieldIs Tryz.prog 125 0 0 1 := by unfold FieldIs; kernel_rfl
theorem sp125_0 : structPlace Tryz.prog 125 0 = some (0, 1) := by unfold structPlace; kernel_rfl
theorem fd125_1 : FieldIs Tryz.prog 125 1 1 1 := by unfold FieldIs; kernel_rfl
theorem sp125_1 : structPlace Tryz.prog 125 1 = some (1, 1) := by unfold structPlace; kernel_rfl
theorem fd127_0 : FieldIs Tryz.prog 127 0 0 1 := by unfold FieldIs; kernel_rfl
theorem sp127_0 : structPlace Tryz.prog 127 0 = some (0, 1) := by unfold structPlace; kernel_rfl
theorem fd127_1 : FieldIs Tryz.prog 127 1 1 1 := by unfold FieldIs; kernel_rfl
theorem sp127_1 : structPlace Tryz.prog 127 1 = some (1, 1) := by unfold structPlace; kernel_rfl
theorem fd127_2 : FieldIs Tryz.prog 127 2 2 1 := by unfold FieldIs; kernel_rfl
theorem sp127_2 : structPlace Tryz.prog 127 2 = some (2, 1) := by unfold structPlace; kernel_rfl
theorem fd127_3 : FieldIs Tryz.prog 127 3 3 1 := by unfold FieldIs; kernel_rfl
theorem sp127_3 : structPlace Tryz.prog 127 3 = some (3, 1) := by unfold structPlace; kernel_rfl
theorem fd127_4 : FieldIs Tryz.prog 127 4 4 1 := by unfold FieldIs; kernel_rfl
theorem sp127_4 : structPlace Tryz.prog 127 4 = some (4, 1) := by unfold structPlace; kernel_rfl
theorem fd127_5 : FieldIs Tryz.prog 127 5 5 2 := by unfold FieldIs; kernel_rfl
theorem sp127_5 : structPlace Tryz.prog 127 5 = some (5, 2) := by unfold structPlace; kernel_rfl
theorem fd127_6 : FieldIs Tryz.prog 127 6 7 1 := by unfold FieldIs; kernel_rfl
theorem sp127_6 : structPlace Tryz.prog 127 6 = some (7, 1) := by unfold structPlace; kernel_rfl
theorem fd127_7 : FieldIs Tryz.prog 127 7 8 1 := by unfold FieldIs; kernel_rfl
theorem sp127_7 : structPlace Tryz.prog 127 7 = some (8, 1) := by unfold structPlace; kernel_rfl
theorem fd127_8 : FieldIs Tryz.prog 127 8 9 1 := by unfold FieldIs; kernel_rfl
theorem sp127_8 : structPlace Tryz.prog 127 8 = some (9, 1) := by unfold structPlace; kernel_rfl
theorem fd127_9 : FieldIs Tryz.prog 127 9 10 1 := by unfold FieldIs; kernel_rfl
theorem sp127_9 : structPlace Tryz.prog 127 9 = some (10, 1) := by unfold structPlace; kernel_rfl
theorem fd127_10 : FieldIs Tryz.prog 127 10 11 1 := by unfold FieldIs; kernel_rfl
theorem sp127_10 : structPlace Tryz.prog 127 10 = some (11, 1) := by unfold structPlace; kernel_rfl
theorem fd127_11 : FieldIs Tryz.prog 127 11 12 1 := by unfold FieldIs; kernel_rfl
theorem sp127_11 : structPlace Tryz.prog 127 11 = some (12, 1) := by unfold structPlace; kernel_rfl
theorem fd127_12 : FieldIs Tryz.prog 127 12 13 1 := by unfold FieldIs; kernel_rfl
theorem sp127_12 : structPlace Tryz.prog 127 12 = some (13, 1) := by unfold structPlace; kernel_rfl
theorem fd127_13 : FieldIs Tryz.prog 127 13 14 1 := by unfold FieldIs; kernel_rfl
theorem sp127_13 : structPlace Tryz.prog 127 13 = some (14, 1) := by unfold structPlace; kernel_rfl
theorem fd131_0 : FieldIs Tryz.prog 131 0 0 1 := by unfold FieldIs; kernel_rfl
theorem sp131_0 : structPlace Tryz.prog 131 0 = some (0, 1) := by unfold structPlace; kernel_rfl
theorem fd131_1 : FieldIs Tryz.prog 131 1 1 1 := by unfold FieldIs; kernel_rfl
theorem sp131_1 : structPlace Tryz.prog 131 1 = some (1, 1) := by unfold structPlace; kernel_rfl
theorem fd131_2 : FieldIs Tryz.prog 131 2 2 1 := by unfold FieldIs; kernel_rfl
theorem sp131_2 : structPlace Tryz.prog 131 2 = some (2, 1) := by unfold structPlace; kernel_rfl
theorem fd131_3 : FieldIs Tryz.prog 131 3 3 1 := by unfold FieldIs; kernel_rfl
theorem sp131_3 : structPlace Tryz.prog 131 3 = some (3, 1) := by unfold structPlace; kernel_rfl
theorem fd131_4 : FieldIs Tryz.prog 131 4 4 1 := by unfold FieldIs; kernel_rfl
theorem sp131_4 : structPlace Tryz.prog 131 4 = some (4, 1) := by unfold structPlace; kernel_rfl
theorem fd131_5 : FieldIs Tryz.prog 131 5 5 1 := by unfold FieldIs; kernel_rfl
theorem sp131_5 : structPlace Tryz.prog 131 5 = some (5, 1) := by unfold structPlace; kernel_rfl
theorem fd131_6 : FieldIs Tryz.prog 131 6 6 1 := by unfold FieldIs; kernel_rfl
theorem sp131_6 : structPlace Tryz.prog 131 6 = some (6, 1) := by unfold structPlace; kernel_rfl
theorem fd131_7 : FieldIs Tryz.prog 131 7 7 1 := by unfold FieldIs; kernel_rfl
theorem sp131_7 : structPlace Tryz.prog 131 7 = some (7, 1) := by unfold structPlace; kernel_rfl
theorem fd131_8 : FieldIs Tryz.prog 131 8 8 1 := by unfold FieldIs; kernel_rfl
theorem sp131_8 : structPlace Tryz.prog 131 8 = some (8, 1) := by unfold structPlace; kernel_rfl
theorem fd131_9 : FieldIs Tryz.prog 131 9 9 2 := by unfold FieldIs; kernel_rfl
theorem sp131_9 : structPlace Tryz.prog 131 9 = some (9, 2) := by unfold structPlace; kernel_rfl
theorem fd131_10 : FieldIs Tryz.prog 131 10 11 1 := by unfold FieldIs; kernel_rfl
theorem sp131_10 : structPlace Tryz.prog 131 10 = some (11, 1) := by unfold structPlace; kernel_rfl
theorem fd131_11 : FieldIs Tryz.prog 131 11 12 1 := by unfold FieldIs; kernel_rfl
theorem sp131_11 : structPlace Tryz.prog 131 11 = some (12, 1) := by unfold structPlace; kernel_rfl
theorem fd137_0 : FieldIs Tryz.prog 137 0 0 1 := by unfold FieldIs; kernel_rfl
theorem sp137_0 : structPlace Tryz.prog 137 0 = some (0, 1) := by unfold structPlace; kernel_rfl
theorem fd137_1 : FieldIs Tryz.prog 137 1 1 1 := by unfold FieldIs; kernel_rfl
theorem sp137_1 : structPlace Tryz.prog 137 1 = some (1, 1) := by unfold structPlace; kernel_rfl
theorem fd137_2 : FieldIs Tryz.prog 137 2 2 1 := by unfold FieldIs; kernel_rfl
theorem sp137_2 : structPlace Tryz.prog 137 2 = some (2, 1) := by unfold structPlace; kernel_rfl
theorem fd137_3 : FieldIs Tryz.prog 137 3 3 1 := by unfold FieldIs; kernel_rfl
theorem sp137_3 : structPlace Tryz.prog 137 3 = some (3, 1) := by unfold structPlace; kernel_rfl
theorem fd137_4 : FieldIs Tryz.prog 137 4 4 1 := by unfold FieldIs; kernel_rfl
theorem sp137_4 : structPlace Tryz.prog 137 4 = some (4, 1) := by unfold structPlace; kernel_rfl
theorem fd137_5 : FieldIs Tryz.prog 137 5 5 2 := by unfold FieldIs; kernel_rfl
theorem sp137_5 : structPlace Tryz.prog 137 5 = some (5, 2) := by unfold structPlace; kernel_rfl
theorem fd137_6 : FieldIs Tryz.prog 137 6 7 1 := by unfold FieldIs; kernel_rfl
theorem sp137_6 : structPlace Tryz.prog 137 6 = some (7, 1) := by unfold structPlace; kernel_rfl
theorem fd137_7 : FieldIs Tryz.prog 137 7 8 1 := by unfold FieldIs; kernel_rfl
theorem sp137_7 : structPlace Tryz.prog 137 7 = some (8, 1) := by unfold structPlace; kernel_rfl
theorem fd137_8 : FieldIs Tryz.prog 137 8 9 1 := by unfold FieldIs; kernel_rfl
theorem sp137_8 : structPlace Tryz.prog 137 8 = some (9, 1) := by unfold structPlace; kernel_rfl
theorem fd137_9 : FieldIs Tryz.prog 137 9 10 1 := by unfold FieldIs; kernel_rfl
theorem sp137_9 : structPlace Tryz.prog 137 9 = some (10, 1) := by unfold structPlace; kernel_rfl
theorem fd137_10 : FieldIs Tryz.prog 137 10 11 1 := by unfold FieldIs; kernel_rfl
theorem sp137_10 : structPlace Tryz.prog 137 10 = some (11, 1) := by unfold structPlace; kernel_rfl
theorem fd137_11 : FieldIs Tryz.prog 137 11 12 1 := by unfold FieldIs; kernel_rfl
theorem sp137_11 : structPlace Tryz.prog 137 11 = some (12, 1) := by unfold structPlace; kernel_rfl
theorem fd137_12 : FieldIs Tryz.prog 137 12 13 1 := by unfold FieldIs; kernel_rfl
theorem sp137_12 : structPlace Tryz.prog 137 12 = some (13, 1) := by unfold structPlace; kernel_rfl
theorem fd137_13 : FieldIs Tryz.prog 137 13 14 1 := by unfold FieldIs; kernel_rfl
theorem sp137_13 : structPlace Tryz.prog 137 13 = some (14, 1) := by unfold structPlace; kernel_rfl
theorem fd140_0 : FieldIs Tryz.prog 140 0 0 1 := by unfold FieldIs; kernel_rfl
theorem sp140_0 : structPlace Tryz.prog 140 0 = some (0, 1) := by unfold structPlace; kernel_rfl
theorem fd140_1 : FieldIs Tryz.prog 140 1 1 1 := by unfold FieldIs; kernel_rfl
theorem sp140_1 : structPlace Tryz.prog 140 1 = some (1, 1) := by unfold structPlace; kernel_rfl
theorem fd140_2 : FieldIs Tryz.prog 140 2 2 7 := by unfold FieldIs; kernel_rfl
theorem sp140_2 : structPlace Tryz.prog 140 2 = some (2, 7) := by unfold structPlace; kernel_rfl
theorem fd194_0 : FieldIs Tryz.prog 194 0 0 1 := by unfold FieldIs; kernel_rfl
theorem sp194_0 : structPlace Tryz.prog 194 0 = some (0, 1) := by unfold structPlace; kernel_rfl
theorem fd194_1 : FieldIs Tryz.prog 194 1 1 2 := by unfold FieldIs; kernel_rfl
theorem sp194_1 : structPlace Tryz.prog 194 1 = some (1, 2) := by unfold structPlace; kernel_rfl
theorem fd226_0 : FieldIs Tryz.prog 226 0 0 1 := by unfold FieldIs; kernel_rfl
theorem sp226_0 : structPlace Tryz.prog 226 0 = some (0, 1) := by unfold structPlace; kernel_rfl
theorem fd226_1 : FieldIs Tryz.prog 226 1 1 2 := by unfold FieldIs; kernel_rfl
theorem sp226_1 : structPlace Tryz.prog 226 1 = some (1, 2) := by unfold structPlace; kernel_rfl
theorem fd226_2 : FieldIs Tryz.prog 226 2 3 1 := by unfold FieldIs; kernel_rfl
theorem sp226_2 : structPlace Tryz.prog 226 2 = some (3, 1) := by unfold structPlace; kernel_rfl
theorem fd226_3 : FieldIs Tryz.prog 226 3 4 1 := by unfold FieldIs; kernel_rfl
theorem sp226_3 : structPlace Tryz.prog 226 3 = some (4, 1) := by unfold structPlace; kernel_rfl
theorem fd226_4 : FieldIs Tryz.prog 226 4 5 1 := by unfold FieldIs; kernel_rfl
theorem sp226_4 : structPlace Tryz.prog 226 4 = some (5, 1) := by unfold structPlace; kernel_rfl
theorem fd226_5 : FieldIs Tryz.prog 226 5 6 1 := by unfold FieldIs; kernel_rfl
theorem sp226_5 : structPlace Tryz.prog 226 5 = some (6, 1) := by unfold structPlace; kernel_rfl
theorem fd229_0 : FieldIs Tryz.prog 229 0 0 1 := by unfold FieldIs; kernel_rfl
theorem sp229_0 : structPlace Tryz.prog 229 0 = some (0, 1) := by unfold structPlace; kernel_rfl
theorem fd229_1 : FieldIs Tryz.prog 229 1 1 1 := by unfold FieldIs; kernel_rfl
theorem sp229_1 : structPlace Tryz.prog 229 1 = some (1, 1) := by unfold structPlace; kernel_rfl
theorem fd229_2 : FieldIs Tryz.prog 229 2 2 7 := by unfold FieldIs; kernel_rfl
theorem sp229_2 : structPlace Tryz.prog 229 2 = some (2, 7) := by unfold structPlace; kernel_rfl
theorem fd232_0 : FieldIs Tryz.prog 232 0 0 1 := by unfold FieldIs; kernel_rfl
theorem sp232_0 : structPlace Tryz.prog 232 0 = some (0, 1) := by unfold structPlace; kernel_rfl
theorem fd232_1 : FieldIs Tryz.prog 232 1 1 1 := by unfold FieldIs; kernel_rfl
theorem sp232_1 : structPlace Tryz.prog 232 1 = some (1, 1) := by unfold structPlace; kernel_rfl
theorem eqt67 : EqTy Tryz.prog 67 2 := ⟨by kernel_rfl, fun xs ys w hx hy => by
  match xs, ys, hx, hy with
  | [x0, x1], [y0, y1], _, _ =>
    simp [go_sem, Tryz.underlying67]
    (repeat' split) <;> simp_all⟩
theorem eqt74 : EqTy Tryz.prog 74 3 := ⟨by kernel_rfl, fun xs ys w hx hy => by
  match xs, ys, hx, hy with
  | [x0, x1, x2], [y0, y1, y2], _, _ =>
    simp [go_sem, Tryz.underlying74]
    (repeat' split) <;> simp_all⟩
theorem eqt91 : EqTy Tryz.prog 91 2 := ⟨by kernel_rfl, fun xs ys w hx hy => by
  match xs, ys, hx, hy with
  | [x0, x1], [y0, y1], _, _ =>
    simp [go_sem, Tryz.underlying91]
    (repeat' split) <;> simp_all⟩
end Go.Proofs.YtlppgilifnkapaaGreat
