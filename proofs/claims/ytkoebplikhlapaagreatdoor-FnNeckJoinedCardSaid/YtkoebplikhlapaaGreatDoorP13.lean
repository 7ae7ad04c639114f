/- Part 13: rules of the proofs, contracts of functions, plain facts. -/
import Derived.Test.YtkoebplikhlapaaGreatDoorProg
import Derived.Test.YtkoebplikhlapaaGreatDoorP12
set_option linter.unusedVariables false
set_option linter.unusedSimpArgs false
set_option maxRecDepth 100000
namespace Go.Proofs.YtkoebplikhlapaaGreatDoor
open Go Go.RowKit
instance ti3 : TyF Tryz.prog 3 false 1 8 (.int .i64 0) := ⟨by kernel_rfl, by kernel_rfl⟩
theorem ty3 : Ty Tryz.prog 3 false 1 8 (.int .i64 0) := ti3.h
theorem zo3 : ∀ u ∈ (Value.cells (.int .i64 0)).toList, u.oneCell' = true := by simp [Value.cells, Value.oneCell']
instance ti4 : TyF Tryz.prog 4 false 1 1 (.bool false) := ⟨by kernel_rfl, by kernel_rfl⟩
theorem ty4 : Ty Tryz.prog 4 false 1 1 (.bool false) := ti4.h
instance ti5 : TyF Tryz.prog 5 false 1 1 (.int .u8 0) := ⟨by kernel_rfl, by kernel_rfl⟩
theorem ty5 : Ty Tryz.prog 5 false 1 1 (.int .u8 0) := ti5.h
theorem zo5 : ∀ u ∈ (Value.cells (.int .u8 0)).toList, u.oneCell' = true := by simp [Value.cells, Value.oneCell']
instance ti9 : TyF Tryz.prog 9 false 1 16 (.string ⟨#[]⟩) := ⟨by kernel_rfl, by kernel_rfl⟩
theorem ty9 : Ty Tryz.prog 9 false 1 16 (.string ⟨#[]⟩) := ti9.h
theorem zo9 : ∀ u ∈ (Value.cells (.string ⟨#[]⟩)).toList, u.oneCell' = true := by simp [Value.cells, Value.oneCell']
instance ti22 : TyF Tryz.prog 22 false 1 24 (.slice none 0 0) := ⟨by kernel_rfl, by kernel_rfl⟩
instance ti24 : TyF Tryz.prog 24 false 1 24 (.slice none 0 0) := ⟨by kernel_rfl, by kernel_rfl⟩
theorem ty24 : Ty Tryz.prog 24 false 1 24 (.slice none 0 0) := ti24.h
instance ti32 : TyF Tryz.prog 32 false 1 8 (.pointer none) := ⟨by kernel_rfl, by kernel_rfl⟩
instance ti36 : TyF Tryz.prog 36 false 1 24 (.slice none 0 0) := ⟨by kernel_rfl, by kernel_rfl⟩
instance ti37 : TyF Tryz.prog 37 false 1 24 (.slice none 0 0) := ⟨by kernel_rfl, by kernel_rfl⟩
instance ti38 : TyF Tryz.prog 38 false 1 24 (.slice none 0 0) := ⟨by kernel_rfl, by kernel_rfl⟩
instance ti39 : TyF Tryz.prog 39 false 1 24 (.slice none 0 0) := ⟨by kernel_rfl, by kernel_rfl⟩
instance ti41 : TyF Tryz.prog 41 true 5 104 (.agg #[.int .i64 0, .slice none 0 0, .slice none 0 0, .slice none 0 0, .slice none 0 0]) := ⟨by kernel_rfl, by kernel_rfl⟩
theorem ty41 : Ty Tryz.prog 41 true 5 104 (.agg #[.int .i64 0, .slice none 0 0, .slice none 0 0, .slice none 0 0, .slice none 0 0]) := ti41.h
theorem zc41 : ∀ I, HoldsL I [AV.val (.int .i64 0), AV.rows 7 [], AV.rows 15 [], AV.rows 13 [], AV.rows 1 []] (Value.cells (.agg #[.int .i64 0, .slice none 0 0, .slice none 0 0, .slice none 0 0, .slice none 0 0])).toList := fun _ => ⟨⟨rfl, rfl⟩, ⟨rows_nil _ _, rfl⟩, ⟨rows_nil _ _, rfl⟩, ⟨rows_nil _ _, rfl⟩, ⟨rows_nil _ _, rfl⟩, trivial⟩
theorem zx41 : ∀ I, HoldsL I [AV.val (.int .i64 0), AV.val (.slice none 0 0), AV.val (.slice none 0 0), AV.val (.slice none 0 0), AV.val (.slice none 0 0)] (Value.cells (.agg #[.int .i64 0, .slice none 0 0, .slice none 0 0, .slice none 0 0, .slice none 0 0])).toList := fun _ => ⟨⟨rfl, rfl⟩, ⟨rfl, rfl⟩, ⟨rfl, rfl⟩, ⟨rfl, rfl⟩, ⟨rfl, rfl⟩, trivial⟩
instance ki41 : FkF Tryz.prog 41 := ⟨by kernel_rfl⟩
instance ti43 : TyF Tryz.prog 43 true 7 136 (.agg #[.pointer none, .int .i64 0, .slice none 0 0, .slice none 0 0, .slice none 0 0, .slice none 0 0, .slice none 0 0]) := ⟨by kernel_rfl, by kernel_rfl⟩
theorem zx43 : ∀ I, HoldsL I [AV.val (.pointer none), AV.val (.int .i64 0), AV.val (.slice none 0 0), AV.val (.slice none 0 0), AV.val (.slice none 0 0), AV.val (.slice none 0 0), AV.val (.slice none 0 0)] (Value.cells (.agg #[.pointer none, .int .i64 0, .slice none 0 0, .slice none 0 0, .slice none 0 0, .slice none 0 0, .slice none 0 0])).toList := fun _ => ⟨⟨rfl, rfl⟩, ⟨rfl, rfl⟩, ⟨rfl, rfl⟩, ⟨rfl, rfl⟩, ⟨rfl, rfl⟩, ⟨rfl, rfl⟩, ⟨rfl, rfl⟩, trivial⟩
instance ki43 : FkF Tryz.prog 43 := ⟨by kernel_rfl⟩
instance ti50 : TyF Tryz.prog 50 true 11 88 (.agg #[.int .i64 0, .int .i64 0, .int .i64 0, .int .i64 0, .int .i64 0, .int .i64 0, .int .i64 0, .int .i64 0, .int .i64 0, .int .i64 0, .int .i64 0]) := ⟨by kernel_rfl, by kernel_rfl⟩
theorem ty50 : Ty Tryz.prog 50 true 11 88 (.agg #[.int .i64 0, .int .i64 0, .int .i64 0, .int .i64 0, .int .i64 0, .int .i64 0, .int .i64 0, .int .i64 0, .int .i64 0, .int .i64 0, .int .i64 0]) := ti50.h
theorem zc50 : ∀ I, HoldsL I [AV.val (.int .i64 0), AV.val (.int .i64 0), AV.val (.int .i64 0), AV.val (.int .i64 0), AV.val (.int .i64 0), AV.val (.int .i64 0), AV.val (.int .i64 0), AV.val (.int .i64 0), AV.val (.int .i64 0), AV.val (.int .i64 0), AV.val (.int .i64 0)] (Value.cells (.agg #[.int .i64 0, .int .i64 0, .int .i64 0, .int .i64 0, .int .i64 0, .int .i64 0, .int .i64 0, .int .i64 0, .int .i64 0, .int .i64 0, .int .i64 0])).toList := fun _ => ⟨⟨rfl, rfl⟩, ⟨rfl, rfl⟩, ⟨rfl, rfl⟩, ⟨rfl, rfl⟩, ⟨rfl, rfl⟩, ⟨rfl, rfl⟩, ⟨rfl, rfl⟩, ⟨rfl, rfl⟩, ⟨rfl, rfl⟩, ⟨rfl, rfl⟩, ⟨rfl, rfl⟩, trivial⟩
theorem zo50 : ∀ u ∈ (Value.cells (.agg #[.int .i64 0, .int .i64 0, .int .i64 0, .int .i64 0, .int .i64 0, .int .i64 0, .int .i64 0, .int .i64 0, .int .i64 0, .int .i64 0, .int .i64 0])).toList, u.oneCell' = true := by simp [Value.cells, Value.oneCell']
instance ki50 : FkF Tryz.prog 50 := ⟨by kernel_rfl⟩
instance ti54 : TyF Tryz.prog 54 false 1 24 (.slice none 0 0) := ⟨by kernel_rfl, by kernel_rfl⟩
instance ti58 : TyF Tryz.prog 58 true 2 32 (.agg #[.pointer none, .slice none 0 0]) := ⟨by kernel_rfl, by kernel_rfl⟩
theorem ty58 : Ty Tryz.prog 58 true 2 32 (.agg #[.pointer none, .slice none 0 0]) := ti58.h
instance ti66 : TyF Tryz.prog 66 true 2 32 (.agg #[.slice none 0 0, .int .i64 0]) := ⟨by kernel_rfl, by kernel_rfl⟩
theorem zc66 : ∀ I, HoldsL I [AV.rows 1 [], AV.val (.int .i64 0)] (Value.cells (.agg #[.slice none 0 0, .int .i64 0])).toList := fun _ => ⟨⟨rows_nil _ _, rfl⟩, ⟨rfl, rfl⟩, trivial⟩
instance ki66 : FkF Tryz.prog 66 := ⟨by kernel_rfl⟩
instance ti76 : TyF Tryz.prog 76 false 1 8 (.nilFunc) := ⟨by kernel_rfl, by kernel_rfl⟩
instance ti78 : TyF Tryz.prog 78 true 13 112 (.agg #[.string ⟨#[]⟩, .int .i64 0, .int .i64 0, .int .i64 0, .int .i64 0, .int .i64 0, .int .i64 0, .int .i64 0, .int .i64 0, .int .i64 0, .int .i64 0, .int .i64 0, .nilFunc]) := ⟨by kernel_rfl, by kernel_rfl⟩
theorem ty78 : Ty Tryz.prog 78 true 13 112 (.agg #[.string ⟨#[]⟩, .int .i64 0, .int .i64 0, .int .i64 0, .int .i64 0, .int .i64 0, .int .i64 0, .int .i64 0, .int .i64 0, .int .i64 0, .int .i64 0, .int .i64 0, .nilFunc]) := ti78.h
theorem zc78 : ∀ I, HoldsL I [AV.val (.string ⟨#[]⟩), AV.val (.int .i64 0), AV.val (.int .i64 0), AV.val (.int .i64 0), AV.val (.int .i64 0), AV.val (.int .i64 0), AV.val (.int .i64 0), AV.val (.int .i64 0), AV.val (.int .i64 0), AV.val (.int .i64 0), AV.val (.int .i64 0), AV.val (.int .i64 0), AV.val (.nilFunc)] (Value.cells (.agg #[.string ⟨#[]⟩, .int .i64 0, .int .i64 0, .int .i64 0, .int .i64 0, .int .i64 0, .int .i64 0, .int .i64 0, .int .i64 0, .int .i64 0, .int .i64 0, .int .i64 0, .nilFunc])).toList := fun _ => ⟨⟨rfl, rfl⟩, ⟨rfl, rfl⟩, ⟨rfl, rfl⟩, ⟨rfl, rfl⟩, ⟨rfl, rfl⟩, ⟨rfl, rfl⟩, ⟨rfl, rfl⟩, ⟨rfl, rfl⟩, ⟨rfl, rfl⟩, ⟨rfl, rfl⟩, ⟨rfl, rfl⟩, ⟨rfl, rfl⟩, ⟨rfl, rfl⟩, trivial⟩
theorem zo78 : ∀ u ∈ (Value.cells (.agg #[.string ⟨#[]⟩, .int .i64 0, .int .i64 0, .int .i64 0, .int .i64 0, .int .i64 0, .int .i64 0, .int .i64 0, .int .i64 0, .int .i64 0, .int .i64 0, .int .i64 0, .nilFunc])).toList, u.oneCell' = true := by simp [Value.cells, Value.oneCell']
instance ki78 : FkF Tryz.prog 78 := ⟨by kernel_rfl⟩
instance ti83 : TyF Tryz.prog 83 false 1 8 (.pointer none) := ⟨by kernel_rfl, by kernel_rfl⟩
theorem ty83 : Ty Tryz.prog 83 false 1 8 (.pointer none) := ti83.h
theorem zo83 : ∀ u ∈ (Value.cells (.pointer none)).toList, u.oneCell' = true := by simp [Value.cells, Value.oneCell']
instance ti85 : TyF Tryz.prog 85 false 1 24 (.slice none 0 0) := ⟨by kernel_rfl, by kernel_rfl⟩
instance ti86 : TyF Tryz.prog 86 false 1 24 (.slice none 0 0) := ⟨by kernel_rfl, by kernel_rfl⟩
instance ti87 : TyF Tryz.prog 87 false 1 24 (.slice none 0 0) := ⟨by kernel_rfl, by kernel_rfl⟩
theorem ty87 : Ty Tryz.prog 87 false 1 24 (.slice none 0 0) := ti87.h
theorem zo87 : ∀ u ∈ (Value.cells (.slice none 0 0)).toList, u.oneCell' = true := by simp [Value.cells, Value.oneCell']
instance ti89 : TyF Tryz.prog 89 true 7 136 (.agg #[.int .i64 0, .bool false, .slice none 0 0, .slice none 0 0, .slice none 0 0, .slice none 0 0, .slice none 0 0]) := ⟨by kernel_rfl, by kernel_rfl⟩
theorem ty89 : Ty Tryz.prog 89 true 7 136 (.agg #[.int .i64 0, .bool false, .slice none 0 0, .slice none 0 0, .slice none 0 0, .slice none 0 0, .slice none 0 0]) := ti89.h
theorem zc89 : ∀ I, HoldsL I [AV.val (.int .i64 0), AV.val (.bool false), AV.rows 2 [], AV.rows 7 [], AV.rows 7 [], AV.rows 3 [], AV.rows 3 []] (Value.cells (.agg #[.int .i64 0, .bool false, .slice none 0 0, .slice none 0 0, .slice none 0 0, .slice none 0 0, .slice none 0 0])).toList := fun _ => ⟨⟨rfl, rfl⟩, ⟨rfl, rfl⟩, ⟨rows_nil _ _, rfl⟩, ⟨rows_nil _ _, rfl⟩, ⟨rows_nil _ _, rfl⟩, ⟨rows_nil _ _, rfl⟩, ⟨rows_nil _ _, rfl⟩, trivial⟩
theorem zx89 : ∀ I, HoldsL I [AV.val (.int .i64 0), AV.val (.bool false), AV.val (.slice none 0 0), AV.val (.slice none 0 0), AV.val (.slice none 0 0), AV.val (.slice none 0 0), AV.val (.slice none 0 0)] (Value.cells (.agg #[.int .i64 0, .bool false, .slice none 0 0, .slice none 0 0, .slice none 0 0, .slice none 0 0, .slice none 0 0])).toList := fun _ => ⟨⟨rfl, rfl⟩, ⟨rfl, rfl⟩, ⟨rfl, rfl⟩, ⟨rfl, rfl⟩, ⟨rfl, rfl⟩, ⟨rfl, rfl⟩, ⟨rfl, rfl⟩, trivial⟩
theorem zo89 : ∀ u ∈ (Value.cells (.agg #[.int .i64 0, .bool false, .slice none 0 0, .slice none 0 0, .slice none 0 0, .slice none 0 0, .slice none 0 0])).toList, u.oneCell' = true := by simp [Value.cells, Value.oneCell']
instance ki89 : FkF Tryz.prog 89 := ⟨by kernel_rfl⟩
instance ti100 : TyF Tryz.prog 100 true 2 16 (.agg #[.int .i64 0, .int .i64 0]) := ⟨by kernel_rfl, by kernel_rfl⟩
theorem ty100 : Ty Tryz.prog 100 true 2 16 (.agg #[.int .i64 0, .int .i64 0]) := ti100.h
theorem zc100 : ∀ I, HoldsL I [AV.val (.int .i64 0), AV.val (.int .i64 0)] (Value.cells (.agg #[.int .i64 0, .int .i64 0])).toList := fun _ => ⟨⟨rfl, rfl⟩, ⟨rfl, rfl⟩, trivial⟩
theorem zo100 : ∀ u ∈ (Value.cells (.agg #[.int .i64 0, .int .i64 0])).toList, u.oneCell' = true := by simp [Value.cells, Value.oneCell']
instance ki100 : FkF Tryz.prog 100 := ⟨by kernel_rfl⟩
instance ti115 : TyF Tryz.prog 115 true 2 16 (.agg #[.int .i64 0, .int .i64 0]) := ⟨by kernel_rfl, by kernel_rfl⟩
theorem ty115 : Ty Tryz.prog 115 true 2 16 (.agg #[.int .i64 0, .int .i64 0]) := ti115.h
theorem zc115 : ∀ I, HoldsL I [AV.val (.int .i64 0), AV.val (.int .i64 0)] (Value.cells (.agg #[.int .i64 0, .int .i64 0])).toList := fun _ => ⟨⟨rfl, rfl⟩, ⟨rfl, rfl⟩, trivial⟩
theorem zo115 : ∀ u ∈ (Value.cells (.agg #[.int .i64 0, .int .i64 0])).toList, u.oneCell' = true := by simp [Value.cells, Value.oneCell']
instance ki115 : FkF Tryz.prog 115 := ⟨by kernel_rfl⟩
instance ti116 : TyF Tryz.prog 116 false 1 24 (.slice none 0 0) := ⟨by kernel_rfl, by kernel_rfl⟩
instance ti118 : TyF Tryz.prog 118 true 13 168 (.agg #[.int .i64 0, .int .i64 0, .int .i64 0, .slice none 0 0, .int .i64 0, .slice none 0 0, .int .i64 0, .int .i64 0, .bool false, .int .i64 0, .int .i64 0, .slice none 0 0, .slice none 0 0]) := ⟨by kernel_rfl, by kernel_rfl⟩
theorem ty118 : Ty Tryz.prog 118 true 13 168 (.agg #[.int .i64 0, .int .i64 0, .int .i64 0, .slice none 0 0, .int .i64 0, .slice none 0 0, .int .i64 0, .int .i64 0, .bool false, .int .i64 0, .int .i64 0, .slice none 0 0, .slice none 0 0]) := ti118.h
theorem zc118 : ∀ I, HoldsL I [AV.val (.int .i64 0), AV.val (.int .i64 0), AV.val (.int .i64 0), AV.rows 1 [], AV.val (.int .i64 0), AV.rows 3 [], AV.val (.int .i64 0), AV.val (.int .i64 0), AV.val (.bool false), AV.val (.int .i64 0), AV.val (.int .i64 0), AV.rows 9 [], AV.rows 3 []] (Value.cells (.agg #[.int .i64 0, .int .i64 0, .int .i64 0, .slice none 0 0, .int .i64 0, .slice none 0 0, .int .i64 0, .int .i64 0, .bool false, .int .i64 0, .int .i64 0, .slice none 0 0, .slice none 0 0])).toList := fun _ => ⟨⟨rfl, rfl⟩, ⟨rfl, rfl⟩, ⟨rfl, rfl⟩, ⟨rows_nil _ _, rfl⟩, ⟨rfl, rfl⟩, ⟨rows_nil _ _, rfl⟩, ⟨rfl, rfl⟩, ⟨rfl, rfl⟩, ⟨rfl, rfl⟩, ⟨rfl, rfl⟩, ⟨rfl, rfl⟩, ⟨rows_nil _ _, rfl⟩, ⟨rows_nil _ _, rfl⟩, trivial⟩
theorem zo118 : ∀ u ∈ (Value.cells (.agg #[.int .i64 0, .int .i64 0, .int .i64 0, .slice none 0 0, .int .i64 0, .slice none 0 0, .int .i64 0, .int .i64 0, .bool false, .int .i64 0, .int .i64 0, .slice none 0 0, .slice none 0 0])).toList, u.oneCell' = true := by simp [Value.cells, Value.oneCell']
instance ki118 : FkF Tryz.prog 118 := ⟨by kernel_rfl⟩
instance ti135 : TyF Tryz.prog 135 true 15 184 (.agg #[.int .i64 0, .int .i64 0, .int .i64 0, .int .i64 0, .int .i64 0, .int .i64 0, .int .i64 0, .int .i64 0, .bool false, .slice none 0 0, .int .i64 0, .int .i64 0, .slice none 0 0, .slice none 0 0, .slice none 0 0]) := ⟨by kernel_rfl, by kernel_rfl⟩
theorem ty135 : Ty Tryz.prog 135 true 15 184 (.agg #[.int .i64 0, .int .i64 0, .int .i64 0, .int .i64 0, .int .i64 0, .int .i64 0, .int .i64 0, .int .i64 0, .bool false, .slice none 0 0, .int .i64 0, .int .i64 0, .slice none 0 0, .slice none 0 0, .slice none 0 0]) := ti135.h
theorem zc135 : ∀ I, HoldsL I [AV.val (.int .i64 0), AV.val (.int .i64 0), AV.val (.int .i64 0), AV.val (.int .i64 0), AV.val (.int .i64 0), AV.val (.int .i64 0), AV.val (.int .i64 0), AV.val (.int .i64 0), AV.val (.bool false), AV.rows 3 [], AV.val (.int .i64 0), AV.val (.int .i64 0), AV.rows 7 [], AV.rows 7 [], AV.rows 3 []] (Value.cells (.agg #[.int .i64 0, .int .i64 0, .int .i64 0, .int .i64 0, .int .i64 0, .int .i64 0, .int .i64 0, .int .i64 0, .bool false, .slice none 0 0, .int .i64 0, .int .i64 0, .slice none 0 0, .slice none 0 0, .slice none 0 0])).toList := fun _ => ⟨⟨rfl, rfl⟩, ⟨rfl, rfl⟩, ⟨rfl, rfl⟩, ⟨rfl, rfl⟩, ⟨rfl, rfl⟩, ⟨rfl, rfl⟩, ⟨rfl, rfl⟩, ⟨rfl, rfl⟩, ⟨rfl, rfl⟩, ⟨rows_nil _ _, rfl⟩, ⟨rfl, rfl⟩, ⟨rfl, rfl⟩, ⟨rows_nil _ _, rfl⟩, ⟨rows_nil _ _, rfl⟩, ⟨rows_nil _ _, rfl⟩, trivial⟩
theorem zx135 : ∀ I, HoldsL I [AV.val (.int .i64 0), AV.val (.int .i64 0), AV.val (.int .i64 0), AV.val (.int .i64 0), AV.val (.int .i64 0), AV.val (.int .i64 0), AV.val (.int .i64 0), AV.val (.int .i64 0), AV.val (.bool false), AV.val (.slice none 0 0), AV.val (.int .i64 0), AV.val (.int .i64 0), AV.val (.slice none 0 0), AV.val (.slice none 0 0), AV.val (.slice none 0 0)] (Value.cells (.agg #[.int .i64 0, .int .i64 0, .int .i64 0, .int .i64 0, .int .i64 0, .int .i64 0, .int .i64 0, .int .i64 0, .bool false, .slice none 0 0, .int .i64 0, .int .i64 0, .slice none 0 0, .slice none 0 0, .slice none 0 0])).toList := fun _ => ⟨⟨rfl, rfl⟩, ⟨rfl, rfl⟩, ⟨rfl, rfl⟩, ⟨rfl, rfl⟩, ⟨rfl, rfl⟩, ⟨rfl, rfl⟩, ⟨rfl, rfl⟩, ⟨rfl, rfl⟩, ⟨rfl, rfl⟩, ⟨rfl, rfl⟩, ⟨rfl, rfl⟩, ⟨rfl, rfl⟩, ⟨rfl, rfl⟩, ⟨rfl, rfl⟩, ⟨rfl, rfl⟩, trivial⟩
theorem zo135 : ∀ u ∈ (Value.cells (.agg #[.int .i64 0, .int .i64 0, .int .i64 0, .int .i64 0, .int .i64 0, .int .i64 0, .int .i64 0, .int .i64 0, .bool false, .slice none 0 0, .int .i64 0, .int .i64 0, .slice none 0 0, .slice none 0 0, .slice none 0 0])).toList, u.oneCell' = true := by simp [Value.cells, Value.oneCell']
instance ki135 : FkF Tryz.prog 135 := ⟨by kernel_rfl⟩
instance ti165 : TyF Tryz.prog 165 true 3 24 (.agg #[.int .i64 0, .int .i64 0, .int .i64 0]) := ⟨by kernel_rfl, by kernel_rfl⟩
theorem ty165 : Ty Tryz.prog 165 true 3 24 (.agg #[.int .i64 0, .int .i64 0, .int .i64 0]) := ti165.h
theorem zc165 : ∀ I, HoldsL I [AV.val (.int .i64 0), AV.val (.int .i64 0), AV.val (.int .i64 0)] (Value.cells (.agg #[.int .i64 0, .int .i64 0, .int .i64 0])).toList := fun _ => ⟨⟨rfl, rfl⟩, ⟨rfl, rfl⟩, ⟨rfl, rfl⟩, trivial⟩
theorem zo165 : ∀ u ∈ (Value.cells (.agg #[.int .i64 0, .int .i64 0, .int .i64 0])).toList, u.oneCell' = true := by simp [Value.cells, Value.oneCell']
instance ki165 : FkF Tryz.prog 165 := ⟨by kernel_rfl⟩
instance ti173 : TyF Tryz.prog 173 true 7 72 (.agg #[.int .i64 0, .int .i64 0, .int .i64 0, .int .i64 0, .int .i64 0, .int .i64 0, .slice none 0 0]) := ⟨by kernel_rfl, by kernel_rfl⟩
theorem ty173 : Ty Tryz.prog 173 true 7 72 (.agg #[.int .i64 0, .int .i64 0, .int .i64 0, .int .i64 0, .int .i64 0, .int .i64 0, .slice none 0 0]) := ti173.h
theorem zc173 : ∀ I, HoldsL I [AV.val (.int .i64 0), AV.val (.int .i64 0), AV.val (.int .i64 0), AV.val (.int .i64 0), AV.val (.int .i64 0), AV.val (.int .i64 0), AV.rows 3 []] (Value.cells (.agg #[.int .i64 0, .int .i64 0, .int .i64 0, .int .i64 0, .int .i64 0, .int .i64 0, .slice none 0 0])).toList := fun _ => ⟨⟨rfl, rfl⟩, ⟨rfl, rfl⟩, ⟨rfl, rfl⟩, ⟨rfl, rfl⟩, ⟨rfl, rfl⟩, ⟨rfl, rfl⟩, ⟨rows_nil _ _, rfl⟩, trivial⟩
theorem zo173 : ∀ u ∈ (Value.cells (.agg #[.int .i64 0, .int .i64 0, .int .i64 0, .int .i64 0, .int .i64 0, .int .i64 0, .slice none 0 0])).toList, u.oneCell' = true := by simp [Value.cells, Value.oneCell']
instance ki173 : FkF Tryz.prog 173 := ⟨by kernel_rfl⟩
instance ti186 : TyF Tryz.prog 186 true 9 88 (.agg #[.int .i64 0, .bool false, .int .i64 0, .int .i64 0, .int .i64 0, .int .i64 0, .int .i64 0, .int .i64 0, .slice none 0 0]) := ⟨by kernel_rfl, by kernel_rfl⟩
theorem ty186 : Ty Tryz.prog 186 true 9 88 (.agg #[.int .i64 0, .bool false, .int .i64 0, .int .i64 0, .int .i64 0, .int .i64 0, .int .i64 0, .int .i64 0, .slice none 0 0]) := ti186.h
theorem zc186 : ∀ I, HoldsL I [AV.val (.int .i64 0), AV.val (.bool false), AV.val (.int .i64 0), AV.val (.int .i64 0), AV.val (.int .i64 0), AV.val (.int .i64 0), AV.val (.int .i64 0), AV.val (.int .i64 0), AV.rows 3 []] (Value.cells (.agg #[.int .i64 0, .bool false, .int .i64 0, .int .i64 0, .int .i64 0, .int .i64 0, .int .i64 0, .int .i64 0, .slice none 0 0])).toList := fun _ => ⟨⟨rfl, rfl⟩, ⟨rfl, rfl⟩, ⟨rfl, rfl⟩, ⟨rfl, rfl⟩, ⟨rfl, rfl⟩, ⟨rfl, rfl⟩, ⟨rfl, rfl⟩, ⟨rfl, rfl⟩, ⟨rows_nil _ _, rfl⟩, trivial⟩
theorem zo186 : ∀ u ∈ (Value.cells (.agg #[.int .i64 0, .bool false, .int .i64 0, .int .i64 0, .int .i64 0, .int .i64 0, .int .i64 0, .int .i64 0, .slice none 0 0])).toList, u.oneCell' = true := by simp [Value.cells, Value.oneCell']
instance ki186 : FkF Tryz.prog 186 := ⟨by kernel_rfl⟩
instance ui3 : UnF Tryz.prog 3 (.int .i64) := ⟨by kernel_rfl⟩
theorem un3 : Tryz.prog.underlying 3 = some (.int .i64) := ui3.h
instance ui5 : UnF Tryz.prog 5 (.int .u8) := ⟨by kernel_rfl⟩
theorem un5 : Tryz.prog.underlying 5 = some (.int .u8) := ui5.h
instance ui9 : UnF Tryz.prog 9 (.string) := ⟨by kernel_rfl⟩
theorem un9 : Tryz.prog.underlying 9 = some (.string) := ui9.h
instance ui22 : UnF Tryz.prog 22 (.slice 5) := ⟨by kernel_rfl⟩
theorem un22 : Tryz.prog.underlying 22 = some (.slice 5) := ui22.h
instance ui24 : UnF Tryz.prog 24 (.slice 50) := ⟨by kernel_rfl⟩
theorem un24 : Tryz.prog.underlying 24 = some (.slice 50) := ui24.h
instance ui36 : UnF Tryz.prog 36 (.slice 89) := ⟨by kernel_rfl⟩
theorem un36 : Tryz.prog.underlying 36 = some (.slice 89) := ui36.h
instance ui37 : UnF Tryz.prog 37 (.slice 135) := ⟨by kernel_rfl⟩
theorem un37 : Tryz.prog.underlying 37 = some (.slice 135) := ui37.h
instance ui38 : UnF Tryz.prog 38 (.slice 118) := ⟨by kernel_rfl⟩
theorem un38 : Tryz.prog.underlying 38 = some (.slice 118) := ui38.h
instance ui39 : UnF Tryz.prog 39 (.slice 87) := ⟨by kernel_rfl⟩
theorem un39 : Tryz.prog.underlying 39 = some (.slice 87) := ui39.h
instance ui47 : UnF Tryz.prog 47 (.slice 9) := ⟨by kernel_rfl⟩
theorem un47 : Tryz.prog.underlying 47 = some (.slice 9) := ui47.h
instance ui54 : UnF Tryz.prog 54 (.slice 3) := ⟨by kernel_rfl⟩
theorem un54 : Tryz.prog.underlying 54 = some (.slice 3) := ui54.h
instance ui74 : UnF Tryz.prog 74 (.slice 78) := ⟨by kernel_rfl⟩
theorem un74 : Tryz.prog.underlying 74 = some (.slice 78) := ui74.h
instance ui79 : UnF Tryz.prog 79 (.slice 83) := ⟨by kernel_rfl⟩
theorem un79 : Tryz.prog.underlying 79 = some (.slice 83) := ui79.h
instance ui85 : UnF Tryz.prog 85 (.slice 100) := ⟨by kernel_rfl⟩
theorem un85 : Tryz.prog.underlying 85 = some (.slice 100) := ui85.h
instance ui86 : UnF Tryz.prog 86 (.slice 173) := ⟨by kernel_rfl⟩
theorem un86 : Tryz.prog.underlying 86 = some (.slice 173) := ui86.h
instance ui87 : UnF Tryz.prog 87 (.slice 165) := ⟨by kernel_rfl⟩
theorem un87 : Tryz.prog.underlying 87 = some (.slice 165) := ui87.h
instance ui116 : UnF Tryz.prog 116 (.slice 186) := ⟨by kernel_rfl⟩
theorem un116 : Tryz.prog.underlying 116 = some (.slice 186) := ui116.h
instance ui200 : UnF Tryz.prog 200 (.slice 115) := ⟨by kernel_rfl⟩
theorem un200 : Tryz.prog.underlying 200 = some (.slice 115) := ui200.h
instance fi41_0 : FdF Tryz.prog 41 0 0 1 := ⟨by unfold FieldIs; kernel_rfl⟩
instance fi41_1 : FdF Tryz.prog 41 1 1 1 := ⟨by unfold FieldIs; kernel_rfl⟩
instance fi41_2 : FdF Tryz.prog 41 2 2 1 := ⟨by unfold FieldIs; kernel_rfl⟩
instance fi41_3 : FdF Tryz.prog 41 3 3 1 := ⟨by unfold FieldIs; kernel_rfl⟩
instance fi41_4 : FdF Tryz.prog 41 4 4 1 := ⟨by unfold FieldIs; kernel_rfl⟩
instance fi43_0 : FdF Tryz.prog 43 0 0 1 := ⟨by unfold FieldIs; kernel_rfl⟩
instance si43_0 : SpF Tryz.prog 43 0 0 1 := ⟨by unfold structPlace; kernel_rfl⟩
instance fi43_1 : FdF Tryz.prog 43 1 1 5 := ⟨by unfold FieldIs; kernel_rfl⟩
instance si43_1 : SpF Tryz.prog 43 1 1 5 := ⟨by unfold structPlace; kernel_rfl⟩
instance fi43_2 : FdF Tryz.prog 43 2 6 1 := ⟨by unfold FieldIs; kernel_rfl⟩
instance fi50_0 : FdF Tryz.prog 50 0 0 1 := ⟨by unfold FieldIs; kernel_rfl⟩
instance si50_0 : SpF Tryz.prog 50 0 0 1 := ⟨by unfold structPlace; kernel_rfl⟩
instance fi50_1 : FdF Tryz.prog 50 1 1 1 := ⟨by unfold FieldIs; kernel_rfl⟩
instance si50_1 : SpF Tryz.prog 50 1 1 1 := ⟨by unfold structPlace; kernel_rfl⟩
instance fi50_2 : FdF Tryz.prog 50 2 2 1 := ⟨by unfold FieldIs; kernel_rfl⟩
instance si50_2 : SpF Tryz.prog 50 2 2 1 := ⟨by unfold structPlace; kernel_rfl⟩
instance fi50_3 : FdF Tryz.prog 50 3 3 1 := ⟨by unfold FieldIs; kernel_rfl⟩
instance si50_3 : SpF Tryz.prog 50 3 3 1 := ⟨by unfold structPlace; kernel_rfl⟩
instance fi50_4 : FdF Tryz.prog 50 4 4 1 := ⟨by unfold FieldIs; kernel_rfl⟩
instance si50_4 : SpF Tryz.prog 50 4 4 1 := ⟨by unfold structPlace; kernel_rfl⟩
instance fi50_5 : FdF Tryz.prog 50 5 5 1 := ⟨by unfold FieldIs; kernel_rfl⟩
instance si50_5 : SpF Tryz.prog 50 5 5 1 := ⟨by unfold structPlace; kernel_rfl⟩
instance fi50_6 : FdF Tryz.prog 50 6 6 1 := ⟨by unfold FieldIs; kernel_rfl⟩
instance si50_6 : SpF Tryz.prog 50 6 6 1 := ⟨by unfold structPlace; kernel_rfl⟩
instance fi50_7 : FdF Tryz.prog 50 7 7 1 := ⟨by unfold FieldIs; kernel_rfl⟩
instance si50_7 : SpF Tryz.prog 50 7 7 1 := ⟨by unfold structPlace; kernel_rfl⟩
instance fi50_8 : FdF Tryz.prog 50 8 8 1 := ⟨by unfold FieldIs; kernel_rfl⟩
instance si50_8 : SpF Tryz.prog 50 8 8 1 := ⟨by unfold structPlace; kernel_rfl⟩
instance fi50_9 : FdF Tryz.prog 50 9 9 1 := ⟨by unfold FieldIs; kernel_rfl⟩
instance si50_9 : SpF Tryz.prog 50 9 9 1 := ⟨by unfold structPlace; kernel_rfl⟩
instance fi50_10 : FdF Tryz.prog 50 10 10 1 := ⟨by unfold FieldIs; kernel_rfl⟩
instance si50_10 : SpF Tryz.prog 50 10 10 1 := ⟨by unfold structPlace; kernel_rfl⟩
instance fi66_0 : FdF Tryz.prog 66 0 0 1 := ⟨by unfold FieldIs; kernel_rfl⟩
instance si66_0 : SpF Tryz.prog 66 0 0 1 := ⟨by unfold structPlace; kernel_rfl⟩
instance fi66_1 : FdF Tryz.prog 66 1 1 1 := ⟨by unfold FieldIs; kernel_rfl⟩
instance fi78_0 : FdF Tryz.prog 78 0 0 1 := ⟨by unfold FieldIs; kernel_rfl⟩
instance si78_0 : SpF Tryz.prog 78 0 0 1 := ⟨by unfold structPlace; kernel_rfl⟩
instance fi78_1 : FdF Tryz.prog 78 1 1 11 := ⟨by unfold FieldIs; kernel_rfl⟩
instance si78_1 : SpF Tryz.prog 78 1 1 11 := ⟨by unfold structPlace; kernel_rfl⟩
instance fi78_2 : FdF Tryz.prog 78 2 12 1 := ⟨by unfold FieldIs; kernel_rfl⟩
instance si78_2 : SpF Tryz.prog 78 2 12 1 := ⟨by unfold structPlace; kernel_rfl⟩
theorem sp78_2 : structPlace Tryz.prog 78 2 = some (12, 1) := si78_2.h
instance fi89_0 : FdF Tryz.prog 89 0 0 1 := ⟨by unfold FieldIs; kernel_rfl⟩
instance si89_0 : SpF Tryz.prog 89 0 0 1 := ⟨by unfold structPlace; kernel_rfl⟩
instance fi89_1 : FdF Tryz.prog 89 1 1 1 := ⟨by unfold FieldIs; kernel_rfl⟩
instance si89_1 : SpF Tryz.prog 89 1 1 1 := ⟨by unfold structPlace; kernel_rfl⟩
instance fi89_2 : FdF Tryz.prog 89 2 2 1 := ⟨by unfold FieldIs; kernel_rfl⟩
instance fi89_3 : FdF Tryz.prog 89 3 3 1 := ⟨by unfold FieldIs; kernel_rfl⟩
instance fi89_4 : FdF Tryz.prog 89 4 4 1 := ⟨by unfold FieldIs; kernel_rfl⟩
instance fi89_5 : FdF Tryz.prog 89 5 5 1 := ⟨by unfold FieldIs; kernel_rfl⟩
instance fi89_6 : FdF Tryz.prog 89 6 6 1 := ⟨by unfold FieldIs; kernel_rfl⟩
instance fi100_0 : FdF Tryz.prog 100 0 0 1 := ⟨by unfold FieldIs; kernel_rfl⟩
instance si100_0 : SpF Tryz.prog 100 0 0 1 := ⟨by unfold structPlace; kernel_rfl⟩
instance fi100_1 : FdF Tryz.prog 100 1 1 1 := ⟨by unfold FieldIs; kernel_rfl⟩
instance si100_1 : SpF Tryz.prog 100 1 1 1 := ⟨by unfold structPlace; kernel_rfl⟩
instance fi115_0 : FdF Tryz.prog 115 0 0 1 := ⟨by unfold FieldIs; kernel_rfl⟩
instance si115_0 : SpF Tryz.prog 115 0 0 1 := ⟨by unfold structPlace; kernel_rfl⟩
instance fi115_1 : FdF Tryz.prog 115 1 1 1 := ⟨by unfold FieldIs; kernel_rfl⟩
instance si115_1 : SpF Tryz.prog 115 1 1 1 := ⟨by unfold structPlace; kernel_rfl⟩
instance fi118_0 : FdF Tryz.prog 118 0 0 1 := ⟨by unfold FieldIs; kernel_rfl⟩
instance si118_0 : SpF Tryz.prog 118 0 0 1 := ⟨by unfold structPlace; kernel_rfl⟩
instance fi118_1 : FdF Tryz.prog 118 1 1 1 := ⟨by unfold FieldIs; kernel_rfl⟩
instance si118_1 : SpF Tryz.prog 118 1 1 1 := ⟨by unfold structPlace; kernel_rfl⟩
instance fi118_2 : FdF Tryz.prog 118 2 2 1 := ⟨by unfold FieldIs; kernel_rfl⟩
instance si118_2 : SpF Tryz.prog 118 2 2 1 := ⟨by unfold structPlace; kernel_rfl⟩
instance fi118_3 : FdF Tryz.prog 118 3 3 1 := ⟨by unfold FieldIs; kernel_rfl⟩
instance si118_3 : SpF Tryz.prog 118 3 3 1 := ⟨by unfold structPlace; kernel_rfl⟩
instance fi118_4 : FdF Tryz.prog 118 4 4 1 := ⟨by unfold FieldIs; kernel_rfl⟩
instance fi118_5 : FdF Tryz.prog 118 5 5 1 := ⟨by unfold FieldIs; kernel_rfl⟩
instance si118_5 : SpF Tryz.prog 118 5 5 1 := ⟨by unfold structPlace; kernel_rfl⟩
instance fi118_6 : FdF Tryz.prog 118 6 6 1 := ⟨by unfold FieldIs; kernel_rfl⟩
instance si118_6 : SpF Tryz.prog 118 6 6 1 := ⟨by unfold structPlace; kernel_rfl⟩
instance fi118_7 : FdF Tryz.prog 118 7 7 1 := ⟨by unfold FieldIs; kernel_rfl⟩
instance fi118_8 : FdF Tryz.prog 118 8 8 1 := ⟨by unfold FieldIs; kernel_rfl⟩
instance fi118_9 : FdF Tryz.prog 118 9 9 2 := ⟨by unfold FieldIs; kernel_rfl⟩
instance fi118_10 : FdF Tryz.prog 118 10 11 1 := ⟨by unfold FieldIs; kernel_rfl⟩
instance fi118_11 : FdF Tryz.prog 118 11 12 1 := ⟨by unfold FieldIs; kernel_rfl⟩
instance fi135_0 : FdF Tryz.prog 135 0 0 1 := ⟨by unfold FieldIs; kernel_rfl⟩
instance si135_0 : SpF Tryz.prog 135 0 0 1 := ⟨by unfold structPlace; kernel_rfl⟩
instance fi135_1 : FdF Tryz.prog 135 1 1 1 := ⟨by unfold FieldIs; kernel_rfl⟩
instance si135_1 : SpF Tryz.prog 135 1 1 1 := ⟨by unfold structPlace; kernel_rfl⟩
instance fi135_2 : FdF Tryz.prog 135 2 2 1 := ⟨by unfold FieldIs; kernel_rfl⟩
instance si135_2 : SpF Tryz.prog 135 2 2 1 := ⟨by unfold structPlace; kernel_rfl⟩
instance fi135_3 : FdF Tryz.prog 135 3 3 1 := ⟨by unfold FieldIs; kernel_rfl⟩
instance si135_3 : SpF Tryz.prog 135 3 3 1 := ⟨by unfold structPlace; kernel_rfl⟩
instance fi135_4 : FdF Tryz.prog 135 4 4 1 := ⟨by unfold FieldIs; kernel_rfl⟩
instance si135_4 : SpF Tryz.prog 135 4 4 1 := ⟨by unfold structPlace; kernel_rfl⟩
instance fi135_5 : FdF Tryz.prog 135 5 5 2 := ⟨by unfold FieldIs; kernel_rfl⟩
instance si135_5 : SpF Tryz.prog 135 5 5 2 := ⟨by unfold structPlace; kernel_rfl⟩
instance fi135_6 : FdF Tryz.prog 135 6 7 1 := ⟨by unfold FieldIs; kernel_rfl⟩
instance si135_6 : SpF Tryz.prog 135 6 7 1 := ⟨by unfold structPlace; kernel_rfl⟩
instance fi135_7 : FdF Tryz.prog 135 7 8 1 := ⟨by unfold FieldIs; kernel_rfl⟩
instance si135_7 : SpF Tryz.prog 135 7 8 1 := ⟨by unfold structPlace; kernel_rfl⟩
instance fi135_8 : FdF Tryz.prog 135 8 9 1 := ⟨by unfold FieldIs; kernel_rfl⟩
instance si135_8 : SpF Tryz.prog 135 8 9 1 := ⟨by unfold structPlace; kernel_rfl⟩
instance fi135_9 : FdF Tryz.prog 135 9 10 1 := ⟨by unfold FieldIs; kernel_rfl⟩
instance si135_9 : SpF Tryz.prog 135 9 10 1 := ⟨by unfold structPlace; kernel_rfl⟩
instance fi135_10 : FdF Tryz.prog 135 10 11 1 := ⟨by unfold FieldIs; kernel_rfl⟩
instance si135_10 : SpF Tryz.prog 135 10 11 1 := ⟨by unfold structPlace; kernel_rfl⟩
instance fi135_11 : FdF Tryz.prog 135 11 12 1 := ⟨by unfold FieldIs; kernel_rfl⟩
instance si135_11 : SpF Tryz.prog 135 11 12 1 := ⟨by unfold structPlace; kernel_rfl⟩
instance fi135_12 : FdF Tryz.prog 135 12 13 1 := ⟨by unfold FieldIs; kernel_rfl⟩
instance fi135_13 : FdF Tryz.prog 135 13 14 1 := ⟨by unfold FieldIs; kernel_rfl⟩
instance fi165_0 : FdF Tryz.prog 165 0 0 1 := ⟨by unfold FieldIs; kernel_rfl⟩
instance si165_0 : SpF Tryz.prog 165 0 0 1 := ⟨by unfold structPlace; kernel_rfl⟩
instance fi165_1 : FdF Tryz.prog 165 1 1 2 := ⟨by unfold FieldIs; kernel_rfl⟩
instance si165_1 : SpF Tryz.prog 165 1 1 2 := ⟨by unfold structPlace; kernel_rfl⟩
instance fi173_0 : FdF Tryz.prog 173 0 0 1 := ⟨by unfold FieldIs; kernel_rfl⟩
instance si173_0 : SpF Tryz.prog 173 0 0 1 := ⟨by unfold structPlace; kernel_rfl⟩
instance fi173_1 : FdF Tryz.prog 173 1 1 2 := ⟨by unfold FieldIs; kernel_rfl⟩
instance si173_1 : SpF Tryz.prog 173 1 1 2 := ⟨by unfold structPlace; kernel_rfl⟩
instance fi173_2 : FdF Tryz.prog 173 2 3 1 := ⟨by unfold FieldIs; kernel_rfl⟩
instance si173_2 : SpF Tryz.prog 173 2 3 1 := ⟨by unfold structPlace; kernel_rfl⟩
instance fi173_3 : FdF Tryz.prog 173 3 4 1 := ⟨by unfold FieldIs; kernel_rfl⟩
instance si173_3 : SpF Tryz.prog 173 3 4 1 := ⟨by unfold structPlace; kernel_rfl⟩
instance fi173_4 : FdF Tryz.prog 173 4 5 1 := ⟨by unfold FieldIs; kernel_rfl⟩
instance si173_4 : SpF Tryz.prog 173 4 5 1 := ⟨by unfold structPlace; kernel_rfl⟩
instance fi173_5 : FdF Tryz.prog 173 5 6 1 := ⟨by unfold FieldIs; kernel_rfl⟩
instance si173_5 : SpF Tryz.prog 173 5 6 1 := ⟨by unfold structPlace; kernel_rfl⟩
instance fi186_0 : FdF Tryz.prog 186 0 0 1 := ⟨by unfold FieldIs; kernel_rfl⟩
instance si186_0 : SpF Tryz.prog 186 0 0 1 := ⟨by unfold structPlace; kernel_rfl⟩
instance fi186_1 : FdF Tryz.prog 186 1 1 1 := ⟨by unfold FieldIs; kernel_rfl⟩
instance si186_1 : SpF Tryz.prog 186 1 1 1 := ⟨by unfold structPlace; kernel_rfl⟩
instance fi186_2 : FdF Tryz.prog 186 2 2 7 := ⟨by unfold FieldIs; kernel_rfl⟩
theorem eqt115 : EqTy Tryz.prog 115 2 := ⟨by kernel_rfl, fun xs ys w hx hy => by
  match xs, ys, hx, hy with
  | [x0, x1], [y0, y1], _, _ =>
    simp [go_sem, Tryz.underlying115]
    (repeat' split) <;> simp_all⟩
theorem eqt165 : EqTy Tryz.prog 165 3 := ⟨by kernel_rfl, fun xs ys w hx hy => by
  match xs, ys, hx, hy with
  | [x0, x1, x2], [y0, y1, y2], _, _ =>
    simp [go_sem, Tryz.underlying165]
    (repeat' split) <;> simp_all⟩
theorem eqt50 : EqTy Tryz.prog 50 11 := EqTy.flat (T3 := 3) (by kernel_rfl) (zv := .int .i64 0) (m := 8) ⟨by kernel_rfl, by kernel_rfl⟩ (by kernel_rfl) (by kernel_rfl) (by kernel_rfl) (by kernel_rfl) (by kernel_rfl)
end Go.Proofs.YtkoebplikhlapaaGreatDoor
