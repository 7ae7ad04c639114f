/- What came in from outside, read as plain data: the laws' types. -/
import Derived.Test.YtlppgilifnkapaaGreatOpen
import Derived.Test.YtlppgilifnkapaaGreatTypes
set_option linter.unusedVariables false
set_option linter.unusedSimpArgs false
set_option maxRecDepth 100000
namespace Go.Proofs.YtlppgilifnkapaaGreat
open Go Go.RowKit

theorem opens_t125 {H : Type} {enc : TypeId × Value → H} {W : World} : Opens enc Tryz.prog W Stamp.cells Stamp.Deep 125 := fun n cs x h => by
  obtain ⟨xs, m, _, _, hl, hx, hf⟩ := DataW.trod_struct (show Tryz.prog.underlying 125 = some (.struct (Tryz.prog.fieldsOf 125)) by kernel_rfl) h
  rw [show Tryz.prog.cellsOf 125 = 2 by kernel_rfl] at hl
  obtain ⟨y0, a0, b0⟩ := part (ft := 3) (off := 0) (s := 1) (i := 0) (opens_int (t := 3) (by kernel_rfl)) hx hf (by kernel_rfl) (by kernel_rfl)
  obtain ⟨y1, a1, b1⟩ := part (ft := 3) (off := 1) (s := 1) (i := 1) (opens_int (t := 3) (by kernel_rfl)) hx hf (by kernel_rfl) (by kernel_rfl)
  exact ⟨⟨y0, y1⟩, hold_cons a0 (hold_cons a1 (hold_nil hl)), ⟨b0, b1⟩⟩
theorem opens_t194 {H : Type} {enc : TypeId × Value → H} {W : World} : Opens enc Tryz.prog W Dep.cells Dep.Deep 194 := fun n cs x h => by
  obtain ⟨xs, m, _, _, hl, hx, hf⟩ := DataW.trod_struct (show Tryz.prog.underlying 194 = some (.struct (Tryz.prog.fieldsOf 194)) by kernel_rfl) h
  rw [show Tryz.prog.cellsOf 194 = 3 by kernel_rfl] at hl
  obtain ⟨y0, a0, b0⟩ := part (ft := 3) (off := 0) (s := 1) (i := 0) (opens_int (t := 3) (by kernel_rfl)) hx hf (by kernel_rfl) (by kernel_rfl)
  obtain ⟨y1, a1, b1⟩ := part (ft := 125) (off := 1) (s := 2) (i := 1) opens_t125 hx hf (by kernel_rfl) (by kernel_rfl)
  exact ⟨⟨y0, y1⟩, hold_cons a0 (hold_cons a1 (hold_nil hl)), ⟨b0, b1⟩⟩
theorem opens_t226 {H : Type} {enc : TypeId × Value → H} {W : World} : Opens enc Tryz.prog W Ver.cells Ver.Deep 226 := fun n cs x h => by
  obtain ⟨xs, m, _, _, hl, hx, hf⟩ := DataW.trod_struct (show Tryz.prog.underlying 226 = some (.struct (Tryz.prog.fieldsOf 226)) by kernel_rfl) h
  rw [show Tryz.prog.cellsOf 226 = 7 by kernel_rfl] at hl
  obtain ⟨y0, a0, b0⟩ := part (ft := 3) (off := 0) (s := 1) (i := 0) (opens_int (t := 3) (by kernel_rfl)) hx hf (by kernel_rfl) (by kernel_rfl)
  obtain ⟨y1, a1, b1⟩ := part (ft := 125) (off := 1) (s := 2) (i := 1) opens_t125 hx hf (by kernel_rfl) (by kernel_rfl)
  obtain ⟨y2, a2, b2⟩ := part (ft := 3) (off := 3) (s := 1) (i := 2) (opens_int (t := 3) (by kernel_rfl)) hx hf (by kernel_rfl) (by kernel_rfl)
  obtain ⟨y3, a3, b3⟩ := part (ft := 3) (off := 4) (s := 1) (i := 3) (opens_int (t := 3) (by kernel_rfl)) hx hf (by kernel_rfl) (by kernel_rfl)
  obtain ⟨y4, a4, b4⟩ := part (ft := 3) (off := 5) (s := 1) (i := 4) (opens_int (t := 3) (by kernel_rfl)) hx hf (by kernel_rfl) (by kernel_rfl)
  obtain ⟨y5, a5, b5⟩ := part (ft := 121) (off := 6) (s := 1) (i := 5) (opens_rows (t := 121) (sz := 3) (by kernel_rfl) (by kernel_rfl) (by decide) (fun _ => rfl) opens_t194) hx hf (by kernel_rfl) (by kernel_rfl)
  exact ⟨⟨y0, y1, y2, y3, y4, y5⟩, hold_cons a0 (hold_cons a1 (hold_cons a2 (hold_cons a3 (hold_cons a4 (hold_cons a5 (hold_nil hl)))))), ⟨b0, b1, b2, b3, b4, b5⟩⟩
theorem opens_t127 {H : Type} {enc : TypeId × Value → H} {W : World} : Opens enc Tryz.prog W Word.cells Word.Deep 127 := fun n cs x h => by
  obtain ⟨xs, m, _, _, hl, hx, hf⟩ := DataW.trod_struct (show Tryz.prog.underlying 127 = some (.struct (Tryz.prog.fieldsOf 127)) by kernel_rfl) h
  rw [show Tryz.prog.cellsOf 127 = 15 by kernel_rfl] at hl
  obtain ⟨y0, a0, b0⟩ := part (ft := 3) (off := 0) (s := 1) (i := 0) (opens_int (t := 3) (by kernel_rfl)) hx hf (by kernel_rfl) (by kernel_rfl)
  obtain ⟨y1, a1, b1⟩ := part (ft := 3) (off := 1) (s := 1) (i := 1) (opens_int (t := 3) (by kernel_rfl)) hx hf (by kernel_rfl) (by kernel_rfl)
  obtain ⟨y2, a2, b2⟩ := part (ft := 3) (off := 2) (s := 1) (i := 2) (opens_int (t := 3) (by kernel_rfl)) hx hf (by kernel_rfl) (by kernel_rfl)
  obtain ⟨y3, a3, b3⟩ := part (ft := 3) (off := 3) (s := 1) (i := 3) (opens_int (t := 3) (by kernel_rfl)) hx hf (by kernel_rfl) (by kernel_rfl)
  obtain ⟨y4, a4, b4⟩ := part (ft := 3) (off := 4) (s := 1) (i := 4) (opens_int (t := 3) (by kernel_rfl)) hx hf (by kernel_rfl) (by kernel_rfl)
  obtain ⟨y5, a5, b5⟩ := part (ft := 125) (off := 5) (s := 2) (i := 5) opens_t125 hx hf (by kernel_rfl) (by kernel_rfl)
  obtain ⟨y6, a6, b6⟩ := part (ft := 3) (off := 7) (s := 1) (i := 6) (opens_int (t := 3) (by kernel_rfl)) hx hf (by kernel_rfl) (by kernel_rfl)
  obtain ⟨y7, a7, b7⟩ := part (ft := 4) (off := 8) (s := 1) (i := 7) (opens_bool (t := 4) (by kernel_rfl)) hx hf (by kernel_rfl) (by kernel_rfl)
  obtain ⟨y8, a8, b8⟩ := part (ft := 121) (off := 9) (s := 1) (i := 8) (opens_rows (t := 121) (sz := 3) (by kernel_rfl) (by kernel_rfl) (by decide) (fun _ => rfl) opens_t194) hx hf (by kernel_rfl) (by kernel_rfl)
  obtain ⟨y9, a9, b9⟩ := part (ft := 3) (off := 10) (s := 1) (i := 9) (opens_int (t := 3) (by kernel_rfl)) hx hf (by kernel_rfl) (by kernel_rfl)
  obtain ⟨y10, a10, b10⟩ := part (ft := 3) (off := 11) (s := 1) (i := 10) (opens_int (t := 3) (by kernel_rfl)) hx hf (by kernel_rfl) (by kernel_rfl)
  obtain ⟨y11, a11, b11⟩ := part (ft := 120) (off := 12) (s := 1) (i := 11) (opens_rows (t := 120) (sz := 7) (by kernel_rfl) (by kernel_rfl) (by decide) (fun _ => rfl) opens_t226) hx hf (by kernel_rfl) (by kernel_rfl)
  obtain ⟨y12, a12, b12⟩ := part (ft := 120) (off := 13) (s := 1) (i := 12) (opens_rows (t := 120) (sz := 7) (by kernel_rfl) (by kernel_rfl) (by decide) (fun _ => rfl) opens_t226) hx hf (by kernel_rfl) (by kernel_rfl)
  obtain ⟨y13, a13, b13⟩ := part (ft := 121) (off := 14) (s := 1) (i := 13) (opens_rows (t := 121) (sz := 3) (by kernel_rfl) (by kernel_rfl) (by decide) (fun _ => rfl) opens_t194) hx hf (by kernel_rfl) (by kernel_rfl)
  exact ⟨⟨y0, y1, y2, y3, y4, y5, y6, y7, y8, y9, y10, y11, y12, y13⟩, hold_cons a0 (hold_cons a1 (hold_cons a2 (hold_cons a3 (hold_cons a4 (hold_cons a5 (hold_cons a6 (hold_cons a7 (hold_cons a8 (hold_cons a9 (hold_cons a10 (hold_cons a11 (hold_cons a12 (hold_cons a13 (hold_nil hl)))))))))))))), ⟨b0, b1, b2, b3, b4, b5, b6, b7, b8, b9, b10, b11, b12, b13⟩⟩
theorem opens_t232 {H : Type} {enc : TypeId × Value → H} {W : World} : Opens enc Tryz.prog W Slot.cells Slot.Deep 232 := fun n cs x h => by
  obtain ⟨xs, m, _, _, hl, hx, hf⟩ := DataW.trod_struct (show Tryz.prog.underlying 232 = some (.struct (Tryz.prog.fieldsOf 232)) by kernel_rfl) h
  rw [show Tryz.prog.cellsOf 232 = 2 by kernel_rfl] at hl
  obtain ⟨y0, a0, b0⟩ := part (ft := 3) (off := 0) (s := 1) (i := 0) (opens_int (t := 3) (by kernel_rfl)) hx hf (by kernel_rfl) (by kernel_rfl)
  obtain ⟨y1, a1, b1⟩ := part (ft := 3) (off := 1) (s := 1) (i := 1) (opens_int (t := 3) (by kernel_rfl)) hx hf (by kernel_rfl) (by kernel_rfl)
  exact ⟨⟨y0, y1⟩, hold_cons a0 (hold_cons a1 (hold_nil hl)), ⟨b0, b1⟩⟩
theorem opens_t123 {H : Type} {enc : TypeId × Value → H} {W : World} : Opens enc Tryz.prog W Server.cells Server.Deep 123 := fun n cs x h => by
  obtain ⟨xs, m, _, _, hl, hx, hf⟩ := DataW.trod_struct (show Tryz.prog.underlying 123 = some (.struct (Tryz.prog.fieldsOf 123)) by kernel_rfl) h
  rw [show Tryz.prog.cellsOf 123 = 7 by kernel_rfl] at hl
  obtain ⟨y0, a0, b0⟩ := part (ft := 3) (off := 0) (s := 1) (i := 0) (opens_int (t := 3) (by kernel_rfl)) hx hf (by kernel_rfl) (by kernel_rfl)
  obtain ⟨y1, a1, b1⟩ := part (ft := 4) (off := 1) (s := 1) (i := 1) (opens_bool (t := 4) (by kernel_rfl)) hx hf (by kernel_rfl) (by kernel_rfl)
  obtain ⟨y2, a2, b2⟩ := part (ft := 119) (off := 2) (s := 1) (i := 2) (opens_rows (t := 119) (sz := 2) (by kernel_rfl) (by kernel_rfl) (by decide) (fun _ => rfl) opens_t232) hx hf (by kernel_rfl) (by kernel_rfl)
  obtain ⟨y3, a3, b3⟩ := part (ft := 120) (off := 3) (s := 1) (i := 3) (opens_rows (t := 120) (sz := 7) (by kernel_rfl) (by kernel_rfl) (by decide) (fun _ => rfl) opens_t226) hx hf (by kernel_rfl) (by kernel_rfl)
  obtain ⟨y4, a4, b4⟩ := part (ft := 120) (off := 4) (s := 1) (i := 4) (opens_rows (t := 120) (sz := 7) (by kernel_rfl) (by kernel_rfl) (by decide) (fun _ => rfl) opens_t226) hx hf (by kernel_rfl) (by kernel_rfl)
  obtain ⟨y5, a5, b5⟩ := part (ft := 121) (off := 5) (s := 1) (i := 5) (opens_rows (t := 121) (sz := 3) (by kernel_rfl) (by kernel_rfl) (by decide) (fun _ => rfl) opens_t194) hx hf (by kernel_rfl) (by kernel_rfl)
  obtain ⟨y6, a6, b6⟩ := part (ft := 121) (off := 6) (s := 1) (i := 6) (opens_rows (t := 121) (sz := 3) (by kernel_rfl) (by kernel_rfl) (by decide) (fun _ => rfl) opens_t194) hx hf (by kernel_rfl) (by kernel_rfl)
  exact ⟨⟨y0, y1, y2, y3, y4, y5, y6⟩, hold_cons a0 (hold_cons a1 (hold_cons a2 (hold_cons a3 (hold_cons a4 (hold_cons a5 (hold_cons a6 (hold_nil hl))))))), ⟨b0, b1, b2, b3, b4, b5, b6⟩⟩
theorem opens_t229 {H : Type} {enc : TypeId × Value → H} {W : World} : Opens enc Tryz.prog W Answer.cells Answer.Deep 229 := fun n cs x h => by
  obtain ⟨xs, m, _, _, hl, hx, hf⟩ := DataW.trod_struct (show Tryz.prog.underlying 229 = some (.struct (Tryz.prog.fieldsOf 229)) by kernel_rfl) h
  rw [show Tryz.prog.cellsOf 229 = 9 by kernel_rfl] at hl
  obtain ⟨y0, a0, b0⟩ := part (ft := 3) (off := 0) (s := 1) (i := 0) (opens_int (t := 3) (by kernel_rfl)) hx hf (by kernel_rfl) (by kernel_rfl)
  obtain ⟨y1, a1, b1⟩ := part (ft := 4) (off := 1) (s := 1) (i := 1) (opens_bool (t := 4) (by kernel_rfl)) hx hf (by kernel_rfl) (by kernel_rfl)
  obtain ⟨y2, a2, b2⟩ := part (ft := 226) (off := 2) (s := 7) (i := 2) opens_t226 hx hf (by kernel_rfl) (by kernel_rfl)
  exact ⟨⟨y0, y1, y2⟩, hold_cons a0 (hold_cons a1 (hold_cons a2 (hold_nil hl))), ⟨b0, b1, b2⟩⟩
theorem opens_t131 {H : Type} {enc : TypeId × Value → H} {W : World} : Opens enc Tryz.prog W Call.cells Call.Deep 131 := fun n cs x h => by
  obtain ⟨xs, m, _, _, hl, hx, hf⟩ := DataW.trod_struct (show Tryz.prog.underlying 131 = some (.struct (Tryz.prog.fieldsOf 131)) by kernel_rfl) h
  rw [show Tryz.prog.cellsOf 131 = 13 by kernel_rfl] at hl
  obtain ⟨y0, a0, b0⟩ := part (ft := 3) (off := 0) (s := 1) (i := 0) (opens_int (t := 3) (by kernel_rfl)) hx hf (by kernel_rfl) (by kernel_rfl)
  obtain ⟨y1, a1, b1⟩ := part (ft := 3) (off := 1) (s := 1) (i := 1) (opens_int (t := 3) (by kernel_rfl)) hx hf (by kernel_rfl) (by kernel_rfl)
  obtain ⟨y2, a2, b2⟩ := part (ft := 3) (off := 2) (s := 1) (i := 2) (opens_int (t := 3) (by kernel_rfl)) hx hf (by kernel_rfl) (by kernel_rfl)
  obtain ⟨y3, a3, b3⟩ := part (ft := 64) (off := 3) (s := 1) (i := 3) (opens_rows (t := 64) (sz := 1) (by kernel_rfl) (by kernel_rfl) (by decide) (fun _ => rfl) (opens_int (t := 3) (by kernel_rfl))) hx hf (by kernel_rfl) (by kernel_rfl)
  obtain ⟨y4, a4, b4⟩ := part (ft := 3) (off := 4) (s := 1) (i := 4) (opens_int (t := 3) (by kernel_rfl)) hx hf (by kernel_rfl) (by kernel_rfl)
  obtain ⟨y5, a5, b5⟩ := part (ft := 121) (off := 5) (s := 1) (i := 5) (opens_rows (t := 121) (sz := 3) (by kernel_rfl) (by kernel_rfl) (by decide) (fun _ => rfl) opens_t194) hx hf (by kernel_rfl) (by kernel_rfl)
  obtain ⟨y6, a6, b6⟩ := part (ft := 3) (off := 6) (s := 1) (i := 6) (opens_int (t := 3) (by kernel_rfl)) hx hf (by kernel_rfl) (by kernel_rfl)
  obtain ⟨y7, a7, b7⟩ := part (ft := 3) (off := 7) (s := 1) (i := 7) (opens_int (t := 3) (by kernel_rfl)) hx hf (by kernel_rfl) (by kernel_rfl)
  obtain ⟨y8, a8, b8⟩ := part (ft := 4) (off := 8) (s := 1) (i := 8) (opens_bool (t := 4) (by kernel_rfl)) hx hf (by kernel_rfl) (by kernel_rfl)
  obtain ⟨y9, a9, b9⟩ := part (ft := 125) (off := 9) (s := 2) (i := 9) opens_t125 hx hf (by kernel_rfl) (by kernel_rfl)
  obtain ⟨y10, a10, b10⟩ := part (ft := 129) (off := 11) (s := 1) (i := 10) (opens_rows (t := 129) (sz := 9) (by kernel_rfl) (by kernel_rfl) (by decide) (fun _ => rfl) opens_t229) hx hf (by kernel_rfl) (by kernel_rfl)
  obtain ⟨y11, a11, b11⟩ := part (ft := 121) (off := 12) (s := 1) (i := 11) (opens_rows (t := 121) (sz := 3) (by kernel_rfl) (by kernel_rfl) (by decide) (fun _ => rfl) opens_t194) hx hf (by kernel_rfl) (by kernel_rfl)
  exact ⟨⟨y0, y1, y2, y3, y4, y5, y6, y7, y8, y9, y10, y11⟩, hold_cons a0 (hold_cons a1 (hold_cons a2 (hold_cons a3 (hold_cons a4 (hold_cons a5 (hold_cons a6 (hold_cons a7 (hold_cons a8 (hold_cons a9 (hold_cons a10 (hold_cons a11 (hold_nil hl)))))))))))), ⟨b0, b1, b2, b3, b4, b5, b6, b7, b8, b9, b10, b11⟩⟩
theorem opens_t27 {H : Type} {enc : TypeId × Value → H} {W : World} : Opens enc Tryz.prog W Neck.cells Neck.Deep 27 := fun n cs x h => by
  obtain ⟨xs, m, _, _, hl, hx, hf⟩ := DataW.trod_struct (show Tryz.prog.underlying 27 = some (.struct (Tryz.prog.fieldsOf 27)) by kernel_rfl) h
  rw [show Tryz.prog.cellsOf 27 = 5 by kernel_rfl] at hl
  obtain ⟨y0, a0, b0⟩ := part (ft := 3) (off := 0) (s := 1) (i := 0) (opens_int (t := 3) (by kernel_rfl)) hx hf (by kernel_rfl) (by kernel_rfl)
  obtain ⟨y1, a1, b1⟩ := part (ft := 22) (off := 1) (s := 1) (i := 1) (opens_rows (t := 22) (sz := 7) (by kernel_rfl) (by kernel_rfl) (by decide) (fun _ => rfl) opens_t123) hx hf (by kernel_rfl) (by kernel_rfl)
  obtain ⟨y2, a2, b2⟩ := part (ft := 23) (off := 2) (s := 1) (i := 2) (opens_rows (t := 23) (sz := 15) (by kernel_rfl) (by kernel_rfl) (by decide) (fun _ => rfl) opens_t127) hx hf (by kernel_rfl) (by kernel_rfl)
  obtain ⟨y3, a3, b3⟩ := part (ft := 24) (off := 3) (s := 1) (i := 3) (opens_rows (t := 24) (sz := 13) (by kernel_rfl) (by kernel_rfl) (by decide) (fun _ => rfl) opens_t131) hx hf (by kernel_rfl) (by kernel_rfl)
  obtain ⟨y4, a4, b4⟩ := part (ft := 25) (off := 4) (s := 1) (i := 4) (opens_rows (t := 25) (sz := 1) (by kernel_rfl) (by kernel_rfl) (by decide) (fun _ => rfl) (opens_rows (t := 121) (sz := 3) (by kernel_rfl) (by kernel_rfl) (by decide) (fun _ => rfl) opens_t194)) hx hf (by kernel_rfl) (by kernel_rfl)
  exact ⟨⟨y0, y1, y2, y3, y4⟩, hold_cons a0 (hold_cons a1 (hold_cons a2 (hold_cons a3 (hold_cons a4 (hold_nil hl))))), ⟨b0, b1, b2, b3, b4⟩⟩
theorem opens_t54 {H : Type} {enc : TypeId × Value → H} {W : World} : Opens enc Tryz.prog W Ev.cells Ev.Deep 54 := fun n cs x h => by
  obtain ⟨xs, m, _, _, hl, hx, hf⟩ := DataW.trod_struct (show Tryz.prog.underlying 54 = some (.struct (Tryz.prog.fieldsOf 54)) by kernel_rfl) h
  rw [show Tryz.prog.cellsOf 54 = 11 by kernel_rfl] at hl
  obtain ⟨y0, a0, b0⟩ := part (ft := 3) (off := 0) (s := 1) (i := 0) (opens_int (t := 3) (by kernel_rfl)) hx hf (by kernel_rfl) (by kernel_rfl)
  obtain ⟨y1, a1, b1⟩ := part (ft := 3) (off := 1) (s := 1) (i := 1) (opens_int (t := 3) (by kernel_rfl)) hx hf (by kernel_rfl) (by kernel_rfl)
  obtain ⟨y2, a2, b2⟩ := part (ft := 3) (off := 2) (s := 1) (i := 2) (opens_int (t := 3) (by kernel_rfl)) hx hf (by kernel_rfl) (by kernel_rfl)
  obtain ⟨y3, a3, b3⟩ := part (ft := 3) (off := 3) (s := 1) (i := 3) (opens_int (t := 3) (by kernel_rfl)) hx hf (by kernel_rfl) (by kernel_rfl)
  obtain ⟨y4, a4, b4⟩ := part (ft := 3) (off := 4) (s := 1) (i := 4) (opens_int (t := 3) (by kernel_rfl)) hx hf (by kernel_rfl) (by kernel_rfl)
  obtain ⟨y5, a5, b5⟩ := part (ft := 3) (off := 5) (s := 1) (i := 5) (opens_int (t := 3) (by kernel_rfl)) hx hf (by kernel_rfl) (by kernel_rfl)
  obtain ⟨y6, a6, b6⟩ := part (ft := 3) (off := 6) (s := 1) (i := 6) (opens_int (t := 3) (by kernel_rfl)) hx hf (by kernel_rfl) (by kernel_rfl)
  obtain ⟨y7, a7, b7⟩ := part (ft := 3) (off := 7) (s := 1) (i := 7) (opens_int (t := 3) (by kernel_rfl)) hx hf (by kernel_rfl) (by kernel_rfl)
  obtain ⟨y8, a8, b8⟩ := part (ft := 3) (off := 8) (s := 1) (i := 8) (opens_int (t := 3) (by kernel_rfl)) hx hf (by kernel_rfl) (by kernel_rfl)
  obtain ⟨y9, a9, b9⟩ := part (ft := 3) (off := 9) (s := 1) (i := 9) (opens_int (t := 3) (by kernel_rfl)) hx hf (by kernel_rfl) (by kernel_rfl)
  obtain ⟨y10, a10, b10⟩ := part (ft := 3) (off := 10) (s := 1) (i := 10) (opens_int (t := 3) (by kernel_rfl)) hx hf (by kernel_rfl) (by kernel_rfl)
  exact ⟨⟨y0, y1, y2, y3, y4, y5, y6, y7, y8, y9, y10⟩, hold_cons a0 (hold_cons a1 (hold_cons a2 (hold_cons a3 (hold_cons a4 (hold_cons a5 (hold_cons a6 (hold_cons a7 (hold_cons a8 (hold_cons a9 (hold_cons a10 (hold_nil hl))))))))))), ⟨b0, b1, b2, b3, b4, b5, b6, b7, b8, b9, b10⟩⟩
end Go.Proofs.YtlppgilifnkapaaGreat
