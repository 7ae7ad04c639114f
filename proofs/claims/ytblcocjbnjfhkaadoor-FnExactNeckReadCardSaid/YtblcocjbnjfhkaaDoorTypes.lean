/- Facts of the translation on the types that the walks meet. -/
import Derived.Test.YtblcocjbnjfhkaaDoorProg
import Derived.Test.YtblcocjbnjfhkaaDoorStr
set_option linter.unusedVariables false
set_option linter.unusedSimpArgs false
set_option maxRecDepth 100000
namespace Go.Proofs.YtblcocjbnjfhkaaDoor
open Go Go.RowKit
theorem ty3 : Ty Tryd.prog 3 false 1 8 (.int .i64 0) := ⟨by kernel_rfl, by kernel_rfl⟩
theorem zc3 : ∀ I, HoldsL I [AV.val (.int .i64 0)] (Value.cells (.int .i64 0)).toList := fun _ => ⟨⟨rfl, rfl⟩, trivial⟩
theorem zo3 : ∀ u ∈ (Value.cells (.int .i64 0)).toList, u.oneCell' = true := by simp [Value.cells, Value.oneCell']
theorem ty5 : Ty Tryd.prog 5 false 1 1 (.int .u8 0) := ⟨by kernel_rfl, by kernel_rfl⟩
theorem zc5 : ∀ I, HoldsL I [AV.val (.int .u8 0)] (Value.cells (.int .u8 0)).toList := fun _ => ⟨⟨rfl, rfl⟩, trivial⟩
theorem zo5 : ∀ u ∈ (Value.cells (.int .u8 0)).toList, u.oneCell' = true := by simp [Value.cells, Value.oneCell']
theorem ty9 : Ty Tryd.prog 9 false 1 16 (.string ⟨#[]⟩) := ⟨by kernel_rfl, by kernel_rfl⟩
theorem zc9 : ∀ I, HoldsL I [AV.val (.string ⟨#[]⟩)] (Value.cells (.string ⟨#[]⟩)).toList := fun _ => ⟨⟨rfl, rfl⟩, trivial⟩
theorem zo9 : ∀ u ∈ (Value.cells (.string ⟨#[]⟩)).toList, u.oneCell' = true := by simp [Value.cells, Value.oneCell']
theorem ty35 : Ty Tryd.prog 35 true 11 88 (.agg #[.int .i64 0, .int .i64 0, .int .i64 0, .int .i64 0, .int .i64 0, .int .i64 0, .int .i64 0, .int .i64 0, .int .i64 0, .int .i64 0, .int .i64 0]) := ⟨by kernel_rfl, by kernel_rfl⟩
theorem zc35 : ∀ I, HoldsL I [AV.val (.int .i64 0), AV.val (.int .i64 0), AV.val (.int .i64 0), AV.val (.int .i64 0), AV.val (.int .i64 0), AV.val (.int .i64 0), AV.val (.int .i64 0), AV.val (.int .i64 0), AV.val (.int .i64 0), AV.val (.int .i64 0), AV.val (.int .i64 0)] (Value.cells (.agg #[.int .i64 0, .int .i64 0, .int .i64 0, .int .i64 0, .int .i64 0, .int .i64 0, .int .i64 0, .int .i64 0, .int .i64 0, .int .i64 0, .int .i64 0])).toList := fun _ => ⟨⟨rfl, rfl⟩, ⟨rfl, rfl⟩, ⟨rfl, rfl⟩, ⟨rfl, rfl⟩, ⟨rfl, rfl⟩, ⟨rfl, rfl⟩, ⟨rfl, rfl⟩, ⟨rfl, rfl⟩, ⟨rfl, rfl⟩, ⟨rfl, rfl⟩, ⟨rfl, rfl⟩, trivial⟩
theorem zo35 : ∀ u ∈ (Value.cells (.agg #[.int .i64 0, .int .i64 0, .int .i64 0, .int .i64 0, .int .i64 0, .int .i64 0, .int .i64 0, .int .i64 0, .int .i64 0, .int .i64 0, .int .i64 0])).toList, u.oneCell' = true := by simp [Value.cells, Value.oneCell']
theorem fk35 : fieldsKnown Tryd.prog 35 = true := by kernel_rfl
theorem ty39 : Ty Tryd.prog 39 true 11 88 (.agg #[.int .i64 0, .int .i64 0, .int .i64 0, .int .i64 0, .int .i64 0, .int .i64 0, .int .i64 0, .int .i64 0, .int .i64 0, .int .i64 0, .int .i64 0]) := ⟨by kernel_rfl, by kernel_rfl⟩
theorem zc39 : ∀ I, HoldsL I [AV.val (.int .i64 0), AV.val (.int .i64 0), AV.val (.int .i64 0), AV.val (.int .i64 0), AV.val (.int .i64 0), AV.val (.int .i64 0), AV.val (.int .i64 0), AV.val (.int .i64 0), AV.val (.int .i64 0), AV.val (.int .i64 0), AV.val (.int .i64 0)] (Value.cells (.agg #[.int .i64 0, .int .i64 0, .int .i64 0, .int .i64 0, .int .i64 0, .int .i64 0, .int .i64 0, .int .i64 0, .int .i64 0, .int .i64 0, .int .i64 0])).toList := fun _ => ⟨⟨rfl, rfl⟩, ⟨rfl, rfl⟩, ⟨rfl, rfl⟩, ⟨rfl, rfl⟩, ⟨rfl, rfl⟩, ⟨rfl, rfl⟩, ⟨rfl, rfl⟩, ⟨rfl, rfl⟩, ⟨rfl, rfl⟩, ⟨rfl, rfl⟩, ⟨rfl, rfl⟩, trivial⟩
theorem zo39 : ∀ u ∈ (Value.cells (.agg #[.int .i64 0, .int .i64 0, .int .i64 0, .int .i64 0, .int .i64 0, .int .i64 0, .int .i64 0, .int .i64 0, .int .i64 0, .int .i64 0, .int .i64 0])).toList, u.oneCell' = true := by simp [Value.cells, Value.oneCell']
theorem fk39 : fieldsKnown Tryd.prog 39 = true := by kernel_rfl
theorem ty43 : Ty Tryd.prog 43 true 2 32 (.agg #[.pointer none, .slice none 0 0]) := ⟨by kernel_rfl, by kernel_rfl⟩
theorem zc43 : ∀ I, HoldsL I [AV.val (.pointer none), AV.rows 1 []] (Value.cells (.agg #[.pointer none, .slice none 0 0])).toList := fun _ => ⟨⟨rfl, rfl⟩, ⟨rows_nil _ _, rfl⟩, trivial⟩
theorem zo43 : ∀ u ∈ (Value.cells (.agg #[.pointer none, .slice none 0 0])).toList, u.oneCell' = true := by simp [Value.cells, Value.oneCell']
theorem fk43 : fieldsKnown Tryd.prog 43 = true := by kernel_rfl
theorem ty61 : Ty Tryd.prog 61 false 1 8 (.nilFunc) := ⟨by kernel_rfl, by kernel_rfl⟩
theorem zc61 : ∀ I, HoldsL I [AV.val (.nilFunc)] (Value.cells (.nilFunc)).toList := fun _ => ⟨⟨rfl, rfl⟩, trivial⟩
theorem zo61 : ∀ u ∈ (Value.cells (.nilFunc)).toList, u.oneCell' = true := by simp [Value.cells, Value.oneCell']
theorem ty63 : Ty Tryd.prog 63 true 13 112 (.agg #[.string ⟨#[]⟩, .int .i64 0, .int .i64 0, .int .i64 0, .int .i64 0, .int .i64 0, .int .i64 0, .int .i64 0, .int .i64 0, .int .i64 0, .int .i64 0, .int .i64 0, .nilFunc]) := ⟨by kernel_rfl, by kernel_rfl⟩
theorem zc63 : ∀ I, HoldsL I [AV.val (.string ⟨#[]⟩), AV.val (.int .i64 0), AV.val (.int .i64 0), AV.val (.int .i64 0), AV.val (.int .i64 0), AV.val (.int .i64 0), AV.val (.int .i64 0), AV.val (.int .i64 0), AV.val (.int .i64 0), AV.val (.int .i64 0), AV.val (.int .i64 0), AV.val (.int .i64 0), AV.val (.nilFunc)] (Value.cells (.agg #[.string ⟨#[]⟩, .int .i64 0, .int .i64 0, .int .i64 0, .int .i64 0, .int .i64 0, .int .i64 0, .int .i64 0, .int .i64 0, .int .i64 0, .int .i64 0, .int .i64 0, .nilFunc])).toList := fun _ => ⟨⟨rfl, rfl⟩, ⟨rfl, rfl⟩, ⟨rfl, rfl⟩, ⟨rfl, rfl⟩, ⟨rfl, rfl⟩, ⟨rfl, rfl⟩, ⟨rfl, rfl⟩, ⟨rfl, rfl⟩, ⟨rfl, rfl⟩, ⟨rfl, rfl⟩, ⟨rfl, rfl⟩, ⟨rfl, rfl⟩, ⟨rfl, rfl⟩, trivial⟩
theorem zo63 : ∀ u ∈ (Value.cells (.agg #[.string ⟨#[]⟩, .int .i64 0, .int .i64 0, .int .i64 0, .int .i64 0, .int .i64 0, .int .i64 0, .int .i64 0, .int .i64 0, .int .i64 0, .int .i64 0, .int .i64 0, .nilFunc])).toList, u.oneCell' = true := by simp [Value.cells, Value.oneCell']
theorem fk63 : fieldsKnown Tryd.prog 63 = true := by kernel_rfl
theorem ty69 : Ty Tryd.prog 69 false 1 8 (.pointer none) := ⟨by kernel_rfl, by kernel_rfl⟩
theorem zc69 : ∀ I, HoldsL I [AV.val (.pointer none)] (Value.cells (.pointer none)).toList := fun _ => ⟨⟨rfl, rfl⟩, trivial⟩
theorem zo69 : ∀ u ∈ (Value.cells (.pointer none)).toList, u.oneCell' = true := by simp [Value.cells, Value.oneCell']
theorem un3 : Tryd.prog.underlying 3 = some (.int .i64) := by kernel_rfl
theorem un5 : Tryd.prog.underlying 5 = some (.int .u8) := by kernel_rfl
theorem un9 : Tryd.prog.underlying 9 = some (.string) := by kernel_rfl
theorem un22 : Tryd.prog.underlying 22 = some (.slice 39) := by kernel_rfl
theorem un25 : Tryd.prog.underlying 25 = some (.slice 35) := by kernel_rfl
theorem un41 : Tryd.prog.underlying 41 = some (.slice 5) := by kernel_rfl
theorem un51 : Tryd.prog.underlying 51 = some (.slice 9) := by kernel_rfl
theorem un56 : Tryd.prog.underlying 56 = some (.slice 3) := by kernel_rfl
theorem un59 : Tryd.prog.underlying 59 = some (.slice 63) := by kernel_rfl
theorem un66 : Tryd.prog.underlying 66 = some (.slice 69) := by kernel_rfl
theorem fd35_0 : FieldIs Tryd.prog 35 0 0 1 := by unfold FieldIs; kernel_rfl
theorem sp35_0 : structPlace Tryd.prog 35 0 = some (0, 1) := by unfold structPlace; kernel_rfl
theorem fd35_1 : FieldIs Tryd.prog 35 1 1 1 := by unfold FieldIs; kernel_rfl
theorem sp35_1 : structPlace Tryd.prog 35 1 = some (1, 1) := by unfold structPlace; kernel_rfl
theorem fd35_2 : FieldIs Tryd.prog 35 2 2 1 := by unfold FieldIs; kernel_rfl
theorem sp35_2 : structPlace Tryd.prog 35 2 = some (2, 1) := by unfold structPlace; kernel_rfl
theorem fd35_3 : FieldIs Tryd.prog 35 3 3 1 := by unfold FieldIs; kernel_rfl
theorem sp35_3 : structPlace Tryd.prog 35 3 = some (3, 1) := by unfold structPlace; kernel_rfl
theorem fd35_4 : FieldIs Tryd.prog 35 4 4 1 := by unfold FieldIs; kernel_rfl
theorem sp35_4 : structPlace Tryd.prog 35 4 = some (4, 1) := by unfold structPlace; kernel_rfl
theorem fd35_5 : FieldIs Tryd.prog 35 5 5 1 := by unfold FieldIs; kernel_rfl
theorem sp35_5 : structPlace Tryd.prog 35 5 = some (5, 1) := by unfold structPlace; kernel_rfl
theorem fd35_6 : FieldIs Tryd.prog 35 6 6 1 := by unfold FieldIs; kernel_rfl
theorem sp35_6 : structPlace Tryd.prog 35 6 = some (6, 1) := by unfold structPlace; kernel_rfl
theorem fd35_7 : FieldIs Tryd.prog 35 7 7 1 := by unfold FieldIs; kernel_rfl
theorem sp35_7 : structPlace Tryd.prog 35 7 = some (7, 1) := by unfold structPlace; kernel_rfl
theorem fd35_8 : FieldIs Tryd.prog 35 8 8 1 := by unfold FieldIs; kernel_rfl
theorem sp35_8 : structPlace Tryd.prog 35 8 = some (8, 1) := by unfold structPlace; kernel_rfl
theorem fd35_9 : FieldIs Tryd.prog 35 9 9 1 := by unfold FieldIs; kernel_rfl
theorem sp35_9 : structPlace Tryd.prog 35 9 = some (9, 1) := by unfold structPlace; kernel_rfl
theorem fd35_10 : FieldIs Tryd.prog 35 10 10 1 := by unfold FieldIs; kernel_rfl
theorem sp35_10 : structPlace Tryd.prog 35 10 = some (10, 1) := by unfold structPlace; kernel_rfl
theorem fd39_0 : FieldIs Tryd.prog 39 0 0 1 := by unfold FieldIs; kernel_rfl
theorem sp39_0 : structPlace Tryd.prog 39 0 = some (0, 1) := by unfold structPlace; kernel_rfl
theorem fd39_1 : FieldIs Tryd.prog 39 1 1 1 := by unfold FieldIs; kernel_rfl
theorem sp39_1 : structPlace Tryd.prog 39 1 = some (1, 1) := by unfold structPlace; kernel_rfl
theorem fd39_2 : FieldIs Tryd.prog 39 2 2 1 := by unfold FieldIs; kernel_rfl
theorem sp39_2 : structPlace Tryd.prog 39 2 = some (2, 1) := by unfold structPlace; kernel_rfl
theorem fd39_3 : FieldIs Tryd.prog 39 3 3 1 := by unfold FieldIs; kernel_rfl
theorem sp39_3 : structPlace Tryd.prog 39 3 = some (3, 1) := by unfold structPlace; kernel_rfl
theorem fd39_4 : FieldIs Tryd.prog 39 4 4 1 := by unfold FieldIs; kernel_rfl
theorem sp39_4 : structPlace Tryd.prog 39 4 = some (4, 1) := by unfold structPlace; kernel_rfl
theorem fd39_5 : FieldIs Tryd.prog 39 5 5 1 := by unfold FieldIs; kernel_rfl
theorem sp39_5 : structPlace Tryd.prog 39 5 = some (5, 1) := by unfold structPlace; kernel_rfl
theorem fd39_6 : FieldIs Tryd.prog 39 6 6 1 := by unfold FieldIs; kernel_rfl
theorem sp39_6 : structPlace Tryd.prog 39 6 = some (6, 1) := by unfold structPlace; kernel_rfl
theorem fd39_7 : FieldIs Tryd.prog 39 7 7 1 := by unfold FieldIs; kernel_rfl
theorem sp39_7 : structPlace Tryd.prog 39 7 = some (7, 1) := by unfold structPlace; kernel_rfl
theorem fd39_8 : FieldIs Tryd.prog 39 8 8 1 := by unfold FieldIs; kernel_rfl
theorem sp39_8 : structPlace Tryd.prog 39 8 = some (8, 1) := by unfold structPlace; kernel_rfl
theorem fd39_9 : FieldIs Tryd.prog 39 9 9 1 := by unfold FieldIs; kernel_rfl
theorem sp39_9 : structPlace Tryd.prog 39 9 = some (9, 1) := by unfold structPlace; kernel_rfl
theorem fd39_10 : FieldIs Tryd.prog 39 10 10 1 := by unfold FieldIs; kernel_rfl
theorem sp39_10 : structPlace Tryd.prog 39 10 = some (10, 1) := by unfold structPlace; kernel_rfl
theorem fd63_0 : FieldIs Tryd.prog 63 0 0 1 := by unfold FieldIs; kernel_rfl
theorem sp63_0 : structPlace Tryd.prog 63 0 = some (0, 1) := by unfold structPlace; kernel_rfl
theorem fd63_1 : FieldIs Tryd.prog 63 1 1 11 := by unfold FieldIs; kernel_rfl
theorem sp63_1 : structPlace Tryd.prog 63 1 = some (1, 11) := by unfold structPlace; kernel_rfl
theorem fd63_2 : FieldIs Tryd.prog 63 2 12 1 := by unfold FieldIs; kernel_rfl
theorem sp63_2 : structPlace Tryd.prog 63 2 = some (12, 1) := by unfold structPlace; kernel_rfl
theorem eqt35 : EqTy Tryd.prog 35 11 := EqTy.flat (T3 := 3) (by kernel_rfl) (zv := .int .i64 0) (m := 8) ⟨by kernel_rfl, by kernel_rfl⟩ (by kernel_rfl) (by kernel_rfl) (by kernel_rfl) (by kernel_rfl) (by kernel_rfl)
end Go.Proofs.YtblcocjbnjfhkaaDoor
