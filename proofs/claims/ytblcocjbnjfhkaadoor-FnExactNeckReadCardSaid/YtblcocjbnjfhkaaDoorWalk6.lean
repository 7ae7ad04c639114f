/- Walks: the forms of lines, and what they write. -/
import Derived.Test.YtblcocjbnjfhkaaDoorLib
set_option linter.unusedVariables false
set_option linter.unusedSimpArgs false
set_option maxRecDepth 100000
namespace Go.Proofs.YtblcocjbnjfhkaaDoor
open Go Go.RowKit


def ptrCell (b : Nat) (o : Nat) : List AV := [.val (.pointer (some ⟨b, o, none⟩))]

theorem c_impl_forms_1 (b : Nat) :
    Fn Tryd.prog 36 [AV.val (.pointer (some ⟨b, 0, none⟩))] (AV.rows 1 ([2].map (ptrCell b))) := by
  refine Fn.intro 7 Tryd.func36 rfl Tryd.ntmps36 rfl (by kernel_rfl) (fun W I a hs => ?_)
  refine wp_seq ?_
  refine St.region ?_
  refine hs.op rfl rfl rfl (ok_assign .c) fun I a w hs => ?_
  refine wpList_nil ?_
  refine then_n ?_
  refine wp_seq ?_
  refine St.region ?_
  refine hs.op rfl rfl rfl (ok_move (.t rfl)) fun I a w hs => ?_
  refine hs.op rfl rfl rfl ((by first | exact ok_nilV (.t rfl) | exact ok_nilPtr (.t rfl) | exact ok_nilF (.t rfl))) fun I a w hs => ?_
  refine hs.op rfl rfl rfl (ok_fieldV fd35_2 rfl (.t rfl)) fun I a w hs => ?_
  refine hs.op rfl rfl rfl (ok_litAll (lxs := [_]) un66 ty69 rfl zo69 rfl rfl (Parts.c rfl rfl (.t rfl) (by first | exact one_val rfl | exact one_rows | exact one_ptr | exact one_fn) Parts.nil) rfl (by simp only [List.forall_mem_cons]; exact ⟨rfl, fun _ h => by simp at h⟩)) fun I a w hs => ?_
  refine hs.op rfl rfl rfl (ok_assign (.t rfl)) fun I a w hs => ?_
  refine wpList_nil ?_
  refine then_n ?_
  refine wp_ret ?_
  refine hs.ret rfl (.cons (by first | exact .t rfl | exact .nil rfl) ResL.nil) ?_
  rfl

theorem c_impl_forms_2 (b : Nat) :
    Fn Tryd.prog 37 [AV.val (.pointer (some ⟨b, 0, none⟩))] (AV.rows 1 ([3].map (ptrCell b))) := by
  refine Fn.intro 7 Tryd.func37 rfl Tryd.ntmps37 rfl (by kernel_rfl) (fun W I a hs => ?_)
  refine wp_seq ?_
  refine St.region ?_
  refine hs.op rfl rfl rfl (ok_assign .c) fun I a w hs => ?_
  refine wpList_nil ?_
  refine then_n ?_
  refine wp_seq ?_
  refine St.region ?_
  refine hs.op rfl rfl rfl (ok_move (.t rfl)) fun I a w hs => ?_
  refine hs.op rfl rfl rfl ((by first | exact ok_nilV (.t rfl) | exact ok_nilPtr (.t rfl) | exact ok_nilF (.t rfl))) fun I a w hs => ?_
  refine hs.op rfl rfl rfl (ok_fieldV fd35_3 rfl (.t rfl)) fun I a w hs => ?_
  refine hs.op rfl rfl rfl (ok_litAll (lxs := [_]) un66 ty69 rfl zo69 rfl rfl (Parts.c rfl rfl (.t rfl) (by first | exact one_val rfl | exact one_rows | exact one_ptr | exact one_fn) Parts.nil) rfl (by simp only [List.forall_mem_cons]; exact ⟨rfl, fun _ h => by simp at h⟩)) fun I a w hs => ?_
  refine hs.op rfl rfl rfl (ok_assign (.t rfl)) fun I a w hs => ?_
  refine wpList_nil ?_
  refine then_n ?_
  refine wp_ret ?_
  refine hs.ret rfl (.cons (by first | exact .t rfl | exact .nil rfl) ResL.nil) ?_
  rfl

theorem c_impl_forms_3 (b : Nat) :
    Fn Tryd.prog 38 [AV.val (.pointer (some ⟨b, 0, none⟩))] (AV.rows 1 ([1].map (ptrCell b))) := by
  refine Fn.intro 7 Tryd.func38 rfl Tryd.ntmps38 rfl (by kernel_rfl) (fun W I a hs => ?_)
  refine wp_seq ?_
  refine St.region ?_
  refine hs.op rfl rfl rfl (ok_assign .c) fun I a w hs => ?_
  refine wpList_nil ?_
  refine then_n ?_
  refine wp_seq ?_
  refine St.region ?_
  refine hs.op rfl rfl rfl (ok_move (.t rfl)) fun I a w hs => ?_
  refine hs.op rfl rfl rfl ((by first | exact ok_nilV (.t rfl) | exact ok_nilPtr (.t rfl) | exact ok_nilF (.t rfl))) fun I a w hs => ?_
  refine hs.op rfl rfl rfl (ok_fieldV fd35_1 rfl (.t rfl)) fun I a w hs => ?_
  refine hs.op rfl rfl rfl (ok_litAll (lxs := [_]) un66 ty69 rfl zo69 rfl rfl (Parts.c rfl rfl (.t rfl) (by first | exact one_val rfl | exact one_rows | exact one_ptr | exact one_fn) Parts.nil) rfl (by simp only [List.forall_mem_cons]; exact ⟨rfl, fun _ h => by simp at h⟩)) fun I a w hs => ?_
  refine hs.op rfl rfl rfl (ok_assign (.t rfl)) fun I a w hs => ?_
  refine wpList_nil ?_
  refine then_n ?_
  refine wp_ret ?_
  refine hs.ret rfl (.cons (by first | exact .t rfl | exact .nil rfl) ResL.nil) ?_
  rfl

theorem c_impl_forms_4 (b : Nat) :
    Fn Tryd.prog 39 [AV.val (.pointer (some ⟨b, 0, none⟩))] (AV.rows 1 ([2, 7, 10].map (ptrCell b))) := by
  refine Fn.intro 13 Tryd.func39 rfl Tryd.ntmps39 rfl (by kernel_rfl) (fun W I a hs => ?_)
  refine wp_seq ?_
  refine St.region ?_
  refine hs.op rfl rfl rfl (ok_assign .c) fun I a w hs => ?_
  refine wpList_nil ?_
  refine then_n ?_
  refine wp_seq ?_
  refine hs.drawK (by kernel_rfl) (by kernel_rfl) rfl ?_
  refine RunK.cons (.of rfl (ok_move (.t rfl))) ?_
  refine RunK.cons (.of rfl ((by first | exact ok_nilV (.t rfl) | exact ok_nilPtr (.t rfl) | exact ok_nilF (.t rfl)))) ?_
  refine RunK.cons (.of rfl (ok_fieldV fd35_2 rfl (.t rfl))) ?_
  refine RunK.cons (.of rfl (ok_move (.t rfl))) ?_
  refine RunK.cons (.of rfl ((by first | exact ok_nilV (.t rfl) | exact ok_nilPtr (.t rfl) | exact ok_nilF (.t rfl)))) ?_
  refine RunK.cons (.of rfl (ok_fieldV fd35_7 rfl (.t rfl))) ?_
  refine RunK.cons (.of rfl (ok_move (.t rfl))) ?_
  refine RunK.cons (.of rfl ((by first | exact ok_nilV (.t rfl) | exact ok_nilPtr (.t rfl) | exact ok_nilF (.t rfl)))) ?_
  refine RunK.cons (.of rfl (ok_fieldV fd35_10 rfl (.t rfl))) ?_
  refine RunK.cons (.of rfl (ok_litAll (lxs := [_, _, _]) un66 ty69 rfl zo69 rfl rfl (Parts.c rfl rfl (.t rfl) (by first | exact one_val rfl | exact one_rows | exact one_ptr | exact one_fn) (Parts.c rfl rfl (.t rfl) (by first | exact one_val rfl | exact one_rows | exact one_ptr | exact one_fn) (Parts.c rfl rfl (.t rfl) (by first | exact one_val rfl | exact one_rows | exact one_ptr | exact one_fn) Parts.nil))) rfl (by simp only [List.forall_mem_cons]; exact ⟨rfl, ⟨rfl, ⟨rfl, fun _ h => by simp at h⟩⟩⟩))) ?_
  refine RunK.cons (.of rfl (ok_assign (.t rfl))) ?_
  refine RunK.nil ?_
  intro I a w hs
  refine then_n ?_
  refine wp_ret ?_
  refine hs.ret rfl (.cons (by first | exact .t rfl | exact .nil rfl) ResL.nil) ?_
  rfl

theorem c_impl_forms_5 (b : Nat) :
    Fn Tryd.prog 40 [AV.val (.pointer (some ⟨b, 0, none⟩))] (AV.rows 1 ([2, 7, 8, 9].map (ptrCell b))) := by
  refine Fn.intro 16 Tryd.func40 rfl Tryd.ntmps40 rfl (by kernel_rfl) (fun W I a hs => ?_)
  refine wp_seq ?_
  refine St.region ?_
  refine hs.op rfl rfl rfl (ok_assign .c) fun I a w hs => ?_
  refine wpList_nil ?_
  refine then_n ?_
  refine wp_seq ?_
  refine hs.drawK (by kernel_rfl) (by kernel_rfl) rfl ?_
  refine RunK.cons (.of rfl (ok_move (.t rfl))) ?_
  refine RunK.cons (.of rfl ((by first | exact ok_nilV (.t rfl) | exact ok_nilPtr (.t rfl) | exact ok_nilF (.t rfl)))) ?_
  refine RunK.cons (.of rfl (ok_fieldV fd35_2 rfl (.t rfl))) ?_
  refine RunK.cons (.of rfl (ok_move (.t rfl))) ?_
  refine RunK.cons (.of rfl ((by first | exact ok_nilV (.t rfl) | exact ok_nilPtr (.t rfl) | exact ok_nilF (.t rfl)))) ?_
  refine RunK.cons (.of rfl (ok_fieldV fd35_7 rfl (.t rfl))) ?_
  refine RunK.cons (.of rfl (ok_move (.t rfl))) ?_
  refine RunK.cons (.of rfl ((by first | exact ok_nilV (.t rfl) | exact ok_nilPtr (.t rfl) | exact ok_nilF (.t rfl)))) ?_
  refine RunK.cons (.of rfl (ok_fieldV fd35_8 rfl (.t rfl))) ?_
  refine RunK.cons (.of rfl (ok_move (.t rfl))) ?_
  refine RunK.cons (.of rfl ((by first | exact ok_nilV (.t rfl) | exact ok_nilPtr (.t rfl) | exact ok_nilF (.t rfl)))) ?_
  refine RunK.cons (.of rfl (ok_fieldV fd35_9 rfl (.t rfl))) ?_
  refine RunK.cons (.of rfl (ok_litAll (lxs := [_, _, _, _]) un66 ty69 rfl zo69 rfl rfl (Parts.c rfl rfl (.t rfl) (by first | exact one_val rfl | exact one_rows | exact one_ptr | exact one_fn) (Parts.c rfl rfl (.t rfl) (by first | exact one_val rfl | exact one_rows | exact one_ptr | exact one_fn) (Parts.c rfl rfl (.t rfl) (by first | exact one_val rfl | exact one_rows | exact one_ptr | exact one_fn) (Parts.c rfl rfl (.t rfl) (by first | exact one_val rfl | exact one_rows | exact one_ptr | exact one_fn) Parts.nil)))) rfl (by simp only [List.forall_mem_cons]; exact ⟨rfl, ⟨rfl, ⟨rfl, ⟨rfl, fun _ h => by simp at h⟩⟩⟩⟩))) ?_
  refine RunK.cons (.of rfl (ok_assign (.t rfl))) ?_
  refine RunK.nil ?_
  intro I a w hs
  refine then_n ?_
  refine wp_ret ?_
  refine hs.ret rfl (.cons (by first | exact .t rfl | exact .nil rfl) ResL.nil) ?_
  rfl

theorem c_impl_forms_6 (b : Nat) :
    Fn Tryd.prog 41 [AV.val (.pointer (some ⟨b, 0, none⟩))] (AV.rows 1 ([1, 5].map (ptrCell b))) := by
  refine Fn.intro 10 Tryd.func41 rfl Tryd.ntmps41 rfl (by kernel_rfl) (fun W I a hs => ?_)
  refine wp_seq ?_
  refine St.region ?_
  refine hs.op rfl rfl rfl (ok_assign .c) fun I a w hs => ?_
  refine wpList_nil ?_
  refine then_n ?_
  refine wp_seq ?_
  refine hs.drawK (by kernel_rfl) (by kernel_rfl) rfl ?_
  refine RunK.cons (.of rfl (ok_move (.t rfl))) ?_
  refine RunK.cons (.of rfl ((by first | exact ok_nilV (.t rfl) | exact ok_nilPtr (.t rfl) | exact ok_nilF (.t rfl)))) ?_
  refine RunK.cons (.of rfl (ok_fieldV fd35_1 rfl (.t rfl))) ?_
  refine RunK.cons (.of rfl (ok_move (.t rfl))) ?_
  refine RunK.cons (.of rfl ((by first | exact ok_nilV (.t rfl) | exact ok_nilPtr (.t rfl) | exact ok_nilF (.t rfl)))) ?_
  refine RunK.cons (.of rfl (ok_fieldV fd35_5 rfl (.t rfl))) ?_
  refine RunK.cons (.of rfl (ok_litAll (lxs := [_, _]) un66 ty69 rfl zo69 rfl rfl (Parts.c rfl rfl (.t rfl) (by first | exact one_val rfl | exact one_rows | exact one_ptr | exact one_fn) (Parts.c rfl rfl (.t rfl) (by first | exact one_val rfl | exact one_rows | exact one_ptr | exact one_fn) Parts.nil)) rfl (by simp only [List.forall_mem_cons]; exact ⟨rfl, ⟨rfl, fun _ h => by simp at h⟩⟩))) ?_
  refine RunK.cons (.of rfl (ok_assign (.t rfl))) ?_
  refine RunK.nil ?_
  intro I a w hs
  refine then_n ?_
  refine wp_ret ?_
  refine hs.ret rfl (.cons (by first | exact .t rfl | exact .nil rfl) ResL.nil) ?_
  rfl


def formFn (j : Nat) : Nat := [39, 40, 36, 36, 37, 37, 37, 38, 38, 38, 41].getD j 0
def formAt (j : Nat) : Form := formsL.getD j default
def formCells (j : Nat) : List AV := .text (formAt j).word :: ((formAt j).ev.cells ++ [.val (.func (.func (formFn j)) #[] #[])])
theorem form_fields (b : Nat) : ∀ j, j < 11 → FnV Tryd.prog (.val (.func (.func (formFn j)) #[] #[])) [.val (.pointer (some ⟨b, 0, none⟩))] (.rows 1 ((formAt j).offs.map (ptrCell b)))
  | 0, _ => Fn.valF (c_impl_forms_4 b)
  | 1, _ => Fn.valF (c_impl_forms_5 b)
  | 2, _ => Fn.valF (c_impl_forms_1 b)
  | 3, _ => Fn.valF (c_impl_forms_1 b)
  | 4, _ => Fn.valF (c_impl_forms_2 b)
  | 5, _ => Fn.valF (c_impl_forms_2 b)
  | 6, _ => Fn.valF (c_impl_forms_2 b)
  | 7, _ => Fn.valF (c_impl_forms_3 b)
  | 8, _ => Fn.valF (c_impl_forms_3 b)
  | 9, _ => Fn.valF (c_impl_forms_3 b)
  | 10, _ => Fn.valF (c_impl_forms_6 b)
theorem form_offs : ∀ j, j < 11 → ∀ o ∈ (formAt j).offs, o < 11 := by
  have : ∀ j : Fin 11, ∀ o ∈ (formAt j.val).offs, o < 11 := by decide
  exact fun j hj => this ⟨j, hj⟩
theorem form_offs_len : ∀ j, j < 11 → (formAt j).offs.length ≤ 4 := by
  have : ∀ j : Fin 11, (formAt j.val).offs.length ≤ 4 := by decide
  exact fun j hj => this ⟨j, hj⟩
theorem form_word_len : ∀ j, j < 11 → (formAt j).word.length ≤ 7 := by
  have : ∀ j : Fin 11, (formAt j.val).word.length ≤ 7 := by decide
  exact fun j hj => this ⟨j, hj⟩
/-- What the making has come to, behind some fields. -/
def madeTo (j : Nat) (e : Ev) (k : Nat) : List Int := ((formAt j).offs.take k).foldl (fun m o => m.set o (e.ints.getD o 0)) (formAt j).ev.ints
theorem set_len {e : Ev} : ∀ (os : List Nat) (m : List Int), (os.foldl (fun m o => m.set o (e.ints.getD o 0)) m).length = m.length
  | [], m => rfl
  | o :: os, m => by rw [List.foldl_cons, set_len os]; simp
theorem madeTo_len (j : Nat) (e : Ev) (k : Nat) : (madeTo j e k).length = 11 := by unfold madeTo; rw [set_len]; rfl
theorem madeTo_succ {j : Nat} {e : Ev} {k : Nat} (h : k < (formAt j).offs.length) : ((madeTo j e k).map AV.int).set (elt (formAt j).offs k) (.int (e.ints.getD (elt (formAt j).offs k) 0)) = (madeTo j e (k + 1)).map AV.int := by
  unfold madeTo
  rw [take_elt h, List.foldl_append]
  simp only [List.foldl_cons, List.foldl_nil, List.map_set]
theorem madeTo_all {j : Nat} {e : Ev} {k : Nat} (h : (formAt j).offs.length ≤ k) : madeTo j e k = (formAt j).made e := by
  unfold madeTo Form.made; rw [List.take_of_length_le h]
def lineTo (j : Nat) (e : Ev) (k : Nat) : List UInt8 := (formAt j).word ++ fieldsB (((formAt j).vals e).take k)
theorem lineTo_succ {j : Nat} {e : Ev} {k : Nat} (h : k < (formAt j).offs.length) : lineTo j e k ++ ([32] ++ dec (e.ints.getD (elt (formAt j).offs k) 0)) = lineTo j e (k + 1) := by
  unfold lineTo Form.vals
  rw [← List.map_take, ← List.map_take, take_elt h]
  simp [fieldsB]
theorem ints_get {e : Ev} {q : Nat} (h : q < 11) : e.cells[q]? = some (AV.int (e.ints.getD q 0)) := by
  rw [Ev.cells_ints, List.getElem?_map, List.getD_eq_getElem?_getD, List.getElem?_eq_getElem (show q < e.ints.length from h)]; rfl
theorem ints_mem {e : Ev} {q : Nat} (h : q < 11) : e.ints.getD q 0 ∈ e.ints := by
  rw [List.getD_eq_getElem?_getD, List.getElem?_eq_getElem (show q < e.ints.length from h)]; exact List.getElem_mem _
theorem elt_mem {l : List Nat} {k : Nat} (h : k < l.length) : elt l k ∈ l := by
  unfold elt; rw [List.getD_eq_getElem?_getD, List.getElem?_eq_getElem h]; exact List.getElem_mem _
theorem lineTo_len {j : Nat} {e : Ev} {k : Nat} (hj : j < 11) (he : e.Fit) : (lineTo j e k).length ≤ 95 := by
  have h1 := form_word_len j hj
  have h2 := form_offs_len j hj
  have h3 : ((formAt j).vals e).length = (formAt j).offs.length := by simp [Form.vals]
  have h4 : ∀ n ∈ ((formAt j).vals e).take k, i64r n := fun n hn => by
    have hn := List.mem_of_mem_take hn
    obtain ⟨o, ho, rfl⟩ := List.mem_map.1 hn
    exact he _ (ints_mem (form_offs j hj o ho))
  have h5 := fields_len h4
  have h6 : (((formAt j).vals e).take k).length ≤ 4 := by simp [h3]; omega
  unfold lineTo
  rw [List.length_append]; omega
theorem write_bad {j : Nat} {e : Ev} {k : Nat} (h : k < (formAt j).offs.length) (hw : written (e.ints.getD (elt (formAt j).offs k) 0) = false) : (formAt j).write e = [] := by
  unfold Form.write
  rw [if_neg]
  intro hh
  simp only [Bool.and_eq_true, List.all_eq_true] at hh
  have := hh.1 _ (List.mem_map_of_mem (f := fun o => e.ints.getD o 0) (elt_mem h))
  rw [this] at hw; cases hw
theorem write_ne {j : Nat} {e : Ev} (h : (formAt j).made e ≠ e.ints) : (formAt j).write e = [] := by
  unfold Form.write; rw [if_neg]; simp [h]
theorem write_ok {j : Nat} {e : Ev} {k : Nat} (hk : (formAt j).offs.length ≤ k) (hw : ∀ i, i < k → i < (formAt j).offs.length → written (e.ints.getD (elt (formAt j).offs i) 0) = true) (h : (formAt j).made e = e.ints) : (formAt j).write e = lineTo j e k ++ [10] := by
  unfold Form.write lineTo
  rw [List.take_of_length_le (by simp [Form.vals]; omega), if_pos]
  simp only [Bool.and_eq_true, List.all_eq_true, decide_eq_true_eq]
  refine ⟨fun n hn => ?_, h⟩
  obtain ⟨o, ho, rfl⟩ := List.mem_map.1 hn
  obtain ⟨i, hi, rfl⟩ := List.getElem_of_mem ho
  have := hw i (by omega) hi
  simpa [elt, hi] using this

theorem c_impl_forms  :
    Fn Tryd.prog 29 [] (AV.rows 13 ((List.range 11).map formCells)) := by
  refine Fn.intro 35 Tryd.func29 rfl Tryd.ntmps29 rfl (by kernel_rfl) (fun W I a hs => ?_)
  refine wp_seq ?_
  refine St.region ?_
  refine hs.op rfl rfl rfl (ok_assign .c) fun I a w hs => ?_
  refine wpList_nil ?_
  refine then_n ?_
  refine wp_seq ?_
  refine St.region ?_
  refine hs.op rfl rfl rfl (ok_assign .f) fun I a w hs => ?_
  refine wpList_nil ?_
  refine then_n ?_
  refine wp_seq ?_
  refine St.region ?_
  refine hs.op rfl rfl rfl (ok_assign .f) fun I a w hs => ?_
  refine wpList_nil ?_
  refine then_n ?_
  refine wp_seq ?_
  refine St.region ?_
  refine hs.op rfl rfl rfl (ok_assign .f) fun I a w hs => ?_
  refine wpList_nil ?_
  refine then_n ?_
  refine wp_seq ?_
  refine St.region ?_
  refine hs.op rfl rfl rfl (ok_build (l0 := [AV.val (.int .i64 0), AV.val (.int .i64 0), AV.val (.int .i64 0), AV.val (.int .i64 0), AV.val (.int .i64 0), AV.val (.int .i64 0), AV.val (.int .i64 0), AV.val (.int .i64 0), AV.val (.int .i64 0), AV.val (.int .i64 0), AV.val (.int .i64 0)]) ty35 fk35 zc35 rfl (Parts.c sp35_0 rfl .c (by first | exact one_val rfl | exact one_rows | exact one_ptr | exact one_fn) (Parts.c sp35_6 rfl .c (by first | exact one_val rfl | exact one_rows | exact one_ptr | exact one_fn) Parts.nil))) fun I a w hs => ?_
  refine hs.op rfl rfl rfl (ok_build (l0 := [AV.val (.string ⟨#[]⟩), AV.val (.int .i64 0), AV.val (.int .i64 0), AV.val (.int .i64 0), AV.val (.int .i64 0), AV.val (.int .i64 0), AV.val (.int .i64 0), AV.val (.int .i64 0), AV.val (.int .i64 0), AV.val (.int .i64 0), AV.val (.int .i64 0), AV.val (.int .i64 0), AV.val (.nilFunc)]) ty63 fk63 zc63 rfl (Parts.c sp63_0 rfl .c (by first | exact one_val rfl | exact one_rows | exact one_ptr | exact one_fn) (Parts.s sp63_1 rfl rfl (.t rfl) (Parts.c sp63_2 rfl .f (by first | exact one_val rfl | exact one_rows | exact one_ptr | exact one_fn) Parts.nil)))) fun I a w hs => ?_
  refine hs.op rfl rfl rfl (ok_build (l0 := [AV.val (.int .i64 0), AV.val (.int .i64 0), AV.val (.int .i64 0), AV.val (.int .i64 0), AV.val (.int .i64 0), AV.val (.int .i64 0), AV.val (.int .i64 0), AV.val (.int .i64 0), AV.val (.int .i64 0), AV.val (.int .i64 0), AV.val (.int .i64 0)]) ty35 fk35 zc35 rfl (Parts.c sp35_0 rfl .c (by first | exact one_val rfl | exact one_rows | exact one_ptr | exact one_fn) (Parts.c sp35_6 rfl .c (by first | exact one_val rfl | exact one_rows | exact one_ptr | exact one_fn) Parts.nil))) fun I a w hs => ?_
  refine hs.op rfl rfl rfl (ok_build (l0 := [AV.val (.string ⟨#[]⟩), AV.val (.int .i64 0), AV.val (.int .i64 0), AV.val (.int .i64 0), AV.val (.int .i64 0), AV.val (.int .i64 0), AV.val (.int .i64 0), AV.val (.int .i64 0), AV.val (.int .i64 0), AV.val (.int .i64 0), AV.val (.int .i64 0), AV.val (.int .i64 0), AV.val (.nilFunc)]) ty63 fk63 zc63 rfl (Parts.c sp63_0 rfl .c (by first | exact one_val rfl | exact one_rows | exact one_ptr | exact one_fn) (Parts.s sp63_1 rfl rfl (.t rfl) (Parts.c sp63_2 rfl .f (by first | exact one_val rfl | exact one_rows | exact one_ptr | exact one_fn) Parts.nil)))) fun I a w hs => ?_
  refine hs.op rfl rfl rfl (ok_build (l0 := [AV.val (.int .i64 0), AV.val (.int .i64 0), AV.val (.int .i64 0), AV.val (.int .i64 0), AV.val (.int .i64 0), AV.val (.int .i64 0), AV.val (.int .i64 0), AV.val (.int .i64 0), AV.val (.int .i64 0), AV.val (.int .i64 0), AV.val (.int .i64 0)]) ty35 fk35 zc35 rfl (Parts.c sp35_0 rfl .c (by first | exact one_val rfl | exact one_rows | exact one_ptr | exact one_fn) Parts.nil)) fun I a w hs => ?_
  refine hs.op rfl rfl rfl (ok_move (.t rfl)) fun I a w hs => ?_
  refine hs.op rfl rfl rfl (ok_build (l0 := [AV.val (.string ⟨#[]⟩), AV.val (.int .i64 0), AV.val (.int .i64 0), AV.val (.int .i64 0), AV.val (.int .i64 0), AV.val (.int .i64 0), AV.val (.int .i64 0), AV.val (.int .i64 0), AV.val (.int .i64 0), AV.val (.int .i64 0), AV.val (.int .i64 0), AV.val (.int .i64 0), AV.val (.nilFunc)]) ty63 fk63 zc63 rfl (Parts.c sp63_0 rfl .c (by first | exact one_val rfl | exact one_rows | exact one_ptr | exact one_fn) (Parts.s sp63_1 rfl rfl (.t rfl) (Parts.c sp63_2 rfl (.t rfl) (by first | exact one_val rfl | exact one_rows | exact one_ptr | exact one_fn) Parts.nil)))) fun I a w hs => ?_
  refine hs.op rfl rfl rfl (ok_build (l0 := [AV.val (.int .i64 0), AV.val (.int .i64 0), AV.val (.int .i64 0), AV.val (.int .i64 0), AV.val (.int .i64 0), AV.val (.int .i64 0), AV.val (.int .i64 0), AV.val (.int .i64 0), AV.val (.int .i64 0), AV.val (.int .i64 0), AV.val (.int .i64 0)]) ty35 fk35 zc35 rfl (Parts.c sp35_0 rfl .c (by first | exact one_val rfl | exact one_rows | exact one_ptr | exact one_fn) Parts.nil)) fun I a w hs => ?_
  refine hs.op rfl rfl rfl (ok_move (.t rfl)) fun I a w hs => ?_
  refine hs.op rfl rfl rfl (ok_build (l0 := [AV.val (.string ⟨#[]⟩), AV.val (.int .i64 0), AV.val (.int .i64 0), AV.val (.int .i64 0), AV.val (.int .i64 0), AV.val (.int .i64 0), AV.val (.int .i64 0), AV.val (.int .i64 0), AV.val (.int .i64 0), AV.val (.int .i64 0), AV.val (.int .i64 0), AV.val (.int .i64 0), AV.val (.nilFunc)]) ty63 fk63 zc63 rfl (Parts.c sp63_0 rfl .c (by first | exact one_val rfl | exact one_rows | exact one_ptr | exact one_fn) (Parts.s sp63_1 rfl rfl (.t rfl) (Parts.c sp63_2 rfl (.t rfl) (by first | exact one_val rfl | exact one_rows | exact one_ptr | exact one_fn) Parts.nil)))) fun I a w hs => ?_
  refine hs.op rfl rfl rfl (ok_build (l0 := [AV.val (.int .i64 0), AV.val (.int .i64 0), AV.val (.int .i64 0), AV.val (.int .i64 0), AV.val (.int .i64 0), AV.val (.int .i64 0), AV.val (.int .i64 0), AV.val (.int .i64 0), AV.val (.int .i64 0), AV.val (.int .i64 0), AV.val (.int .i64 0)]) ty35 fk35 zc35 rfl (Parts.c sp35_0 rfl .c (by first | exact one_val rfl | exact one_rows | exact one_ptr | exact one_fn) Parts.nil)) fun I a w hs => ?_
  refine hs.op rfl rfl rfl (ok_move (.t rfl)) fun I a w hs => ?_
  refine hs.op rfl rfl rfl (ok_build (l0 := [AV.val (.string ⟨#[]⟩), AV.val (.int .i64 0), AV.val (.int .i64 0), AV.val (.int .i64 0), AV.val (.int .i64 0), AV.val (.int .i64 0), AV.val (.int .i64 0), AV.val (.int .i64 0), AV.val (.int .i64 0), AV.val (.int .i64 0), AV.val (.int .i64 0), AV.val (.int .i64 0), AV.val (.nilFunc)]) ty63 fk63 zc63 rfl (Parts.c sp63_0 rfl .c (by first | exact one_val rfl | exact one_rows | exact one_ptr | exact one_fn) (Parts.s sp63_1 rfl rfl (.t rfl) (Parts.c sp63_2 rfl (.t rfl) (by first | exact one_val rfl | exact one_rows | exact one_ptr | exact one_fn) Parts.nil)))) fun I a w hs => ?_
  refine hs.op rfl rfl rfl (ok_build (l0 := [AV.val (.int .i64 0), AV.val (.int .i64 0), AV.val (.int .i64 0), AV.val (.int .i64 0), AV.val (.int .i64 0), AV.val (.int .i64 0), AV.val (.int .i64 0), AV.val (.int .i64 0), AV.val (.int .i64 0), AV.val (.int .i64 0), AV.val (.int .i64 0)]) ty35 fk35 zc35 rfl (Parts.c sp35_0 rfl .c (by first | exact one_val rfl | exact one_rows | exact one_ptr | exact one_fn) (Parts.c sp35_4 rfl .c (by first | exact one_val rfl | exact one_rows | exact one_ptr | exact one_fn) Parts.nil))) fun I a w hs => ?_
  refine hs.op rfl rfl rfl (ok_move (.t rfl)) fun I a w hs => ?_
  refine hs.op rfl rfl rfl (ok_build (l0 := [AV.val (.string ⟨#[]⟩), AV.val (.int .i64 0), AV.val (.int .i64 0), AV.val (.int .i64 0), AV.val (.int .i64 0), AV.val (.int .i64 0), AV.val (.int .i64 0), AV.val (.int .i64 0), AV.val (.int .i64 0), AV.val (.int .i64 0), AV.val (.int .i64 0), AV.val (.int .i64 0), AV.val (.nilFunc)]) ty63 fk63 zc63 rfl (Parts.c sp63_0 rfl .c (by first | exact one_val rfl | exact one_rows | exact one_ptr | exact one_fn) (Parts.s sp63_1 rfl rfl (.t rfl) (Parts.c sp63_2 rfl (.t rfl) (by first | exact one_val rfl | exact one_rows | exact one_ptr | exact one_fn) Parts.nil)))) fun I a w hs => ?_
  refine hs.op rfl rfl rfl (ok_build (l0 := [AV.val (.int .i64 0), AV.val (.int .i64 0), AV.val (.int .i64 0), AV.val (.int .i64 0), AV.val (.int .i64 0), AV.val (.int .i64 0), AV.val (.int .i64 0), AV.val (.int .i64 0), AV.val (.int .i64 0), AV.val (.int .i64 0), AV.val (.int .i64 0)]) ty35 fk35 zc35 rfl (Parts.c sp35_0 rfl .c (by first | exact one_val rfl | exact one_rows | exact one_ptr | exact one_fn) Parts.nil)) fun I a w hs => ?_
  refine hs.op rfl rfl rfl (ok_move (.t rfl)) fun I a w hs => ?_
  refine hs.op rfl rfl rfl (ok_build (l0 := [AV.val (.string ⟨#[]⟩), AV.val (.int .i64 0), AV.val (.int .i64 0), AV.val (.int .i64 0), AV.val (.int .i64 0), AV.val (.int .i64 0), AV.val (.int .i64 0), AV.val (.int .i64 0), AV.val (.int .i64 0), AV.val (.int .i64 0), AV.val (.int .i64 0), AV.val (.int .i64 0), AV.val (.nilFunc)]) ty63 fk63 zc63 rfl (Parts.c sp63_0 rfl .c (by first | exact one_val rfl | exact one_rows | exact one_ptr | exact one_fn) (Parts.s sp63_1 rfl rfl (.t rfl) (Parts.c sp63_2 rfl (.t rfl) (by first | exact one_val rfl | exact one_rows | exact one_ptr | exact one_fn) Parts.nil)))) fun I a w hs => ?_
  refine hs.op rfl rfl rfl (ok_build (l0 := [AV.val (.int .i64 0), AV.val (.int .i64 0), AV.val (.int .i64 0), AV.val (.int .i64 0), AV.val (.int .i64 0), AV.val (.int .i64 0), AV.val (.int .i64 0), AV.val (.int .i64 0), AV.val (.int .i64 0), AV.val (.int .i64 0), AV.val (.int .i64 0)]) ty35 fk35 zc35 rfl (Parts.c sp35_0 rfl .c (by first | exact one_val rfl | exact one_rows | exact one_ptr | exact one_fn) Parts.nil)) fun I a w hs => ?_
  refine hs.op rfl rfl rfl (ok_move (.t rfl)) fun I a w hs => ?_
  refine hs.op rfl rfl rfl (ok_build (l0 := [AV.val (.string ⟨#[]⟩), AV.val (.int .i64 0), AV.val (.int .i64 0), AV.val (.int .i64 0), AV.val (.int .i64 0), AV.val (.int .i64 0), AV.val (.int .i64 0), AV.val (.int .i64 0), AV.val (.int .i64 0), AV.val (.int .i64 0), AV.val (.int .i64 0), AV.val (.int .i64 0), AV.val (.nilFunc)]) ty63 fk63 zc63 rfl (Parts.c sp63_0 rfl .c (by first | exact one_val rfl | exact one_rows | exact one_ptr | exact one_fn) (Parts.s sp63_1 rfl rfl (.t rfl) (Parts.c sp63_2 rfl (.t rfl) (by first | exact one_val rfl | exact one_rows | exact one_ptr | exact one_fn) Parts.nil)))) fun I a w hs => ?_
  refine hs.op rfl rfl rfl (ok_build (l0 := [AV.val (.int .i64 0), AV.val (.int .i64 0), AV.val (.int .i64 0), AV.val (.int .i64 0), AV.val (.int .i64 0), AV.val (.int .i64 0), AV.val (.int .i64 0), AV.val (.int .i64 0), AV.val (.int .i64 0), AV.val (.int .i64 0), AV.val (.int .i64 0)]) ty35 fk35 zc35 rfl (Parts.c sp35_0 rfl .c (by first | exact one_val rfl | exact one_rows | exact one_ptr | exact one_fn) Parts.nil)) fun I a w hs => ?_
  refine hs.op rfl rfl rfl (ok_move (.t rfl)) fun I a w hs => ?_
  refine hs.op rfl rfl rfl (ok_build (l0 := [AV.val (.string ⟨#[]⟩), AV.val (.int .i64 0), AV.val (.int .i64 0), AV.val (.int .i64 0), AV.val (.int .i64 0), AV.val (.int .i64 0), AV.val (.int .i64 0), AV.val (.int .i64 0), AV.val (.int .i64 0), AV.val (.int .i64 0), AV.val (.int .i64 0), AV.val (.int .i64 0), AV.val (.nilFunc)]) ty63 fk63 zc63 rfl (Parts.c sp63_0 rfl .c (by first | exact one_val rfl | exact one_rows | exact one_ptr | exact one_fn) (Parts.s sp63_1 rfl rfl (.t rfl) (Parts.c sp63_2 rfl (.t rfl) (by first | exact one_val rfl | exact one_rows | exact one_ptr | exact one_fn) Parts.nil)))) fun I a w hs => ?_
  refine hs.op rfl rfl rfl (ok_build (l0 := [AV.val (.int .i64 0), AV.val (.int .i64 0), AV.val (.int .i64 0), AV.val (.int .i64 0), AV.val (.int .i64 0), AV.val (.int .i64 0), AV.val (.int .i64 0), AV.val (.int .i64 0), AV.val (.int .i64 0), AV.val (.int .i64 0), AV.val (.int .i64 0)]) ty35 fk35 zc35 rfl (Parts.c sp35_0 rfl .c (by first | exact one_val rfl | exact one_rows | exact one_ptr | exact one_fn) Parts.nil)) fun I a w hs => ?_
  refine hs.op rfl rfl rfl (ok_move (.t rfl)) fun I a w hs => ?_
  refine hs.op rfl rfl rfl (ok_build (l0 := [AV.val (.string ⟨#[]⟩), AV.val (.int .i64 0), AV.val (.int .i64 0), AV.val (.int .i64 0), AV.val (.int .i64 0), AV.val (.int .i64 0), AV.val (.int .i64 0), AV.val (.int .i64 0), AV.val (.int .i64 0), AV.val (.int .i64 0), AV.val (.int .i64 0), AV.val (.int .i64 0), AV.val (.nilFunc)]) ty63 fk63 zc63 rfl (Parts.c sp63_0 rfl .c (by first | exact one_val rfl | exact one_rows | exact one_ptr | exact one_fn) (Parts.s sp63_1 rfl rfl (.t rfl) (Parts.c sp63_2 rfl (.t rfl) (by first | exact one_val rfl | exact one_rows | exact one_ptr | exact one_fn) Parts.nil)))) fun I a w hs => ?_
  refine hs.op rfl rfl rfl (ok_build (l0 := [AV.val (.int .i64 0), AV.val (.int .i64 0), AV.val (.int .i64 0), AV.val (.int .i64 0), AV.val (.int .i64 0), AV.val (.int .i64 0), AV.val (.int .i64 0), AV.val (.int .i64 0), AV.val (.int .i64 0), AV.val (.int .i64 0), AV.val (.int .i64 0)]) ty35 fk35 zc35 rfl (Parts.c sp35_0 rfl .c (by first | exact one_val rfl | exact one_rows | exact one_ptr | exact one_fn) Parts.nil)) fun I a w hs => ?_
  refine hs.op rfl rfl rfl (ok_build (l0 := [AV.val (.string ⟨#[]⟩), AV.val (.int .i64 0), AV.val (.int .i64 0), AV.val (.int .i64 0), AV.val (.int .i64 0), AV.val (.int .i64 0), AV.val (.int .i64 0), AV.val (.int .i64 0), AV.val (.int .i64 0), AV.val (.int .i64 0), AV.val (.int .i64 0), AV.val (.int .i64 0), AV.val (.nilFunc)]) ty63 fk63 zc63 rfl (Parts.c sp63_0 rfl .c (by first | exact one_val rfl | exact one_rows | exact one_ptr | exact one_fn) (Parts.s sp63_1 rfl rfl (.t rfl) (Parts.c sp63_2 rfl .f (by first | exact one_val rfl | exact one_rows | exact one_ptr | exact one_fn) Parts.nil)))) fun I a w hs => ?_
  refine hs.op rfl rfl rfl (ok_litAll (lxs := [_, _, _, _, _, _, _, _, _, _, _]) un59 ty63 rfl zo63 rfl rfl (Parts.s rfl rfl rfl (.t rfl) (Parts.s rfl rfl rfl (.t rfl) (Parts.s rfl rfl rfl (.t rfl) (Parts.s rfl rfl rfl (.t rfl) (Parts.s rfl rfl rfl (.t rfl) (Parts.s rfl rfl rfl (.t rfl) (Parts.s rfl rfl rfl (.t rfl) (Parts.s rfl rfl rfl (.t rfl) (Parts.s rfl rfl rfl (.t rfl) (Parts.s rfl rfl rfl (.t rfl) (Parts.s rfl rfl rfl (.t rfl) Parts.nil))))))))))) rfl (by simp only [List.forall_mem_cons]; exact ⟨rfl, ⟨rfl, ⟨rfl, ⟨rfl, ⟨rfl, ⟨rfl, ⟨rfl, ⟨rfl, ⟨rfl, ⟨rfl, ⟨rfl, fun _ h => by simp at h⟩⟩⟩⟩⟩⟩⟩⟩⟩⟩⟩)) fun I a w hs => ?_
  refine hs.op rfl rfl rfl (ok_assign (.t rfl)) fun I a w hs => ?_
  refine wpList_nil ?_
  refine then_n ?_
  refine wp_ret ?_
  refine hs.ret rfl (.cons (by first | exact .t rfl | exact .nil rfl) ResL.nil) ?_
  rfl

theorem c_impl_form_write (j : Nat) (hj : j < 11) (e : Ev) (he : e.Fit) :
    Fn Tryd.prog 30 [AV.agg (formCells j), AV.tab e.av] (AV.text ((formAt j).write e)) := by
  refine Fn.intro 52 Tryd.func30 rfl Tryd.ntmps30 rfl (by kernel_rfl) (fun W I a hs => ?_)
  have h4 := form_offs_len j hj
  refine wp_seq ?_
  refine St.region ?_
  refine hs.op rfl rfl rfl (ok_boxP (.t rfl)) fun I a w hs => ?_
  refine hs.box rfl (.untab rfl) fun b3 I a w hs => ?_
  refine hs.op rfl rfl rfl (ok_assign .c) fun I a w hs => ?_
  refine wpList_nil ?_
  refine then_n ?_
  refine wp_seq ?_
  refine St.region ?_
  refine hs.op rfl rfl rfl (ok_fieldP fd63_0 rfl (.t rfl)) fun I a w hs => ?_
  refine hs.op rfl rfl rfl (ok_load1 ty9 (.t rfl)) fun I a w hs => ?_
  refine hs.op rfl rfl rfl (ok_assign (.t rfl)) fun I a w hs => ?_
  refine wpList_nil ?_
  refine then_n ?_
  refine wp_seq ?_
  refine St.region ?_
  refine hs.op rfl rfl rfl (ok_fieldP fd63_1 rfl (.t rfl)) fun I a w hs => ?_
  refine hs.op rfl rfl rfl ((by first | exact ok_loadA ty35 (.t rfl) rfl | exact ok_loadS ty35 (.t rfl) rfl)) fun I a w hs => ?_
  refine hs.alloc rfl ty35 zc35 fun b6 I a w hs => ?_
  refine hs.storeB 1 ty35 (.t rfl) (.t rfl) rfl (by first | rfl | assumption) rfl fun a w hs => ?_
  refine wpList_nil ?_
  refine then_n ?_
  refine wp_seq ?_
  refine St.region ?_
  refine hs.op rfl rfl rfl (ok_fieldP fd63_2 rfl (.t rfl)) fun I a w hs => ?_
  refine hs.op rfl rfl rfl (ok_load1 ty61 (.t rfl)) fun I a w hs => ?_
  refine hs.op rfl rfl rfl (ok_callV (form_fields _ j hj) (.t rfl) (args_cons (.t rfl) args_nil)) fun I a w hs => ?_
  refine hs.op rfl rfl rfl (ok_assign (.t rfl)) fun I a w hs => ?_
  refine wpList_nil ?_
  refine then_n ?_
  refine wp_seq ?_
  refine wp_seq ?_
  refine St.region ?_
  refine hs.op rfl rfl rfl (ok_fieldP fd63_2 rfl (.t rfl)) fun I a w hs => ?_
  refine hs.op rfl rfl rfl (ok_load1 ty61 (.t rfl)) fun I a w hs => ?_
  refine hs.op rfl rfl rfl (ok_callV (form_fields _ j hj) (.t rfl) (args_cons (.t rfl) args_nil)) fun I a w hs => ?_
  refine hs.op rfl rfl rfl ((by first | exact ok_lenM un66 (.t rfl) | exact ok_len un66 (.t rfl) | exact ok_lenV un66 (.t rfl))) fun I a w hs => ?_
  refine hs.op rfl rfl rfl (ok_move .c) fun I a w hs => ?_
  refine wpList_nil ?_
  refine then_n ?_
  refine wp_block ?_
  refine St.loopS (σ := Nat) (4 :: 5 :: 8 :: 9 :: 21 :: 22 :: 23 :: 24 :: 25 :: 26 :: 27 :: 28 :: 29 :: 30 :: 31 :: 32 :: 33 :: 34 :: 35 :: 36 :: 37 :: 38 :: 39 :: 40 :: 41 :: 42 :: 43 :: 44 :: 45 :: 46 :: []) ⟨fun k => [(21, AV.int k), (5, AV.text (lineTo j e k))], fun k => [Own.box b3 35 e.cells, Own.box b6 35 ((madeTo j e k).map AV.int)], fun k => k ≤ (formAt j).offs.length ∧ ∀ i, i < k → i < (formAt j).offs.length → written (e.ints.getD (elt (formAt j).offs i) 0) = true⟩ (fun k => (formAt j).offs.length - k) 0 hs rfl ?ok1 ?env1 ?round1
  case ok1 => exact ⟨by omega, fun i hi => by omega⟩
  case env1 => exact (Env.le_consE rfl (by rfl) (Env.le_consE rfl (by simp [lineTo, fieldsB]) Env.le_nil))
  case round1 =>
    rintro k I a w hok hs
    obtain ⟨hk, hall⟩ := hok
    change St _ _ [Own.box b3 35 e.cells, Own.box b6 35 ((madeTo j e k).map AV.int)] _ _ _ at hs
    refine wp_seq ?_
    refine St.region ?_
    refine hs.op rfl rfl rfl (ok_lss (.t rfl) (.t rfl)) fun I a w hs => ?_
    refine wpList_nil ?_
    refine then_n ?_
    refine wp_seq ?_
    refine hs.cond (.t rfl) (fun hb1 => ?_) (fun hb1 => ?_)
    · try simp only [decide_eq_true_eq, decide_eq_false_iff_not, Bool.not_eq_true', Bool.not_eq_false', Bool.and_eq_true, Bool.or_eq_true, Bool.and_eq_false_iff, Bool.or_eq_false_iff, beq_iff_eq, bne_iff_ne, bne_eq_false_iff_eq, beq_eq_false_iff_ne, ne_eq, Int.not_lt, Int.not_le, Int.ofNat_lt, Int.ofNat_le] at hb1
      refine wp_skip ?_
      refine then_n ?_
      refine wp_seq ?_
      refine wp_block ?_
      refine wp_seq ?_
      refine St.region ?_
      refine hs.op rfl rfl rfl (ok_move (.t rfl)) fun I a w hs => ?_
      refine hs.op rfl rfl rfl ((by first | exact ok_idxN un66 ty69 (.t rfl) (.t rfl) (fun _ => by exact hb1) | exact ok_idxM un66 ty69 (.t rfl) (.t rfl) (fun _ => by exact hb1) | exact ok_idx un66 ty69 (.t rfl) (.t rfl) (fun _ => by exact hb1))) fun I a w hs => ?_
      refine hs.op rfl rfl rfl (ok_load1 ty69 (.t rfl)) fun I a w hs => ?_
      refine hs.op rfl rfl rfl (ok_assign (.t rfl)) fun I a w hs => ?_
      refine hs.op rfl rfl rfl (ok_assign (.t rfl)) fun I a w hs => ?_
      refine wpList_nil ?_
      refine then_n ?_
      refine wp_seq ?_
      refine wp_seq ?_
      refine St.region ?_
      refine hs.op rfl rfl rfl (ok_move (.t rfl)) fun I a w hs => ?_
      refine hs.op rfl rfl rfl ((by first | exact ok_nilV (.t rfl) | exact ok_nilPtr (.t rfl) | exact ok_nilF (.t rfl))) fun I a w hs => ?_
      refine hs.op rfl rfl rfl (ok_loadB 0 ty3 (.t rfl) rfl (ints_get (form_offs j hj _ (elt_mem hb1)))) fun I a w hs => ?_
      refine hs.op rfl rfl rfl (ok_call (c_impl_isWritten ..) (args_cons (.t rfl) args_nil)) fun I a w hs => ?_
      refine hs.op rfl rfl rfl (ok_not (.t rfl)) fun I a w hs => ?_
      refine wpList_nil ?_
      refine then_n ?_
      refine hs.cond (.t rfl) (fun hb2 => ?_) (fun hb2 => ?_)
      · try simp only [decide_eq_true_eq, decide_eq_false_iff_not, Bool.not_eq_true', Bool.not_eq_false', Bool.and_eq_true, Bool.or_eq_true, Bool.and_eq_false_iff, Bool.or_eq_false_iff, beq_iff_eq, bne_iff_ne, bne_eq_false_iff_eq, beq_eq_false_iff_ne, ne_eq, Int.not_lt, Int.not_le, Int.ofNat_lt, Int.ofNat_le] at hb2
        refine wp_seq ?_
        refine St.region ?_
        refine hs.op rfl rfl rfl (ok_assign .c) fun I a w hs => ?_
        refine wpList_nil ?_
        refine then_n ?_
        refine wp_ret ?_
        refine then_r ?_
        refine block_r ?_
        refine then_r ?_
        refine then_r ?_
        refine block_r ?_
        refine then_r ?_
        refine hs.ret rfl (.cons (.t rfl) ResL.nil) ?_
        exact ret_av (congrArg AV.text (write_bad hb1 hb2).symm)
      · try simp only [decide_eq_true_eq, decide_eq_false_iff_not, Bool.not_eq_true', Bool.not_eq_false', Bool.and_eq_true, Bool.or_eq_true, Bool.and_eq_false_iff, Bool.or_eq_false_iff, beq_iff_eq, bne_iff_ne, bne_eq_false_iff_eq, beq_eq_false_iff_ne, ne_eq, Int.not_lt, Int.not_le, Int.ofNat_lt, Int.ofNat_le] at hb2
        refine wp_skip ?_
        refine then_n ?_
        refine wp_seq ?_
        refine hs.drawT 8 (by kernel_rfl) (by kernel_rfl) (by kernel_rfl) ?_
        simp only [List.take_succ_cons, List.take_zero, List.drop_succ_cons, List.drop_zero]
        refine RunT.cons (.of rfl (ok_move (.t rfl))) ?_
        refine RunT.cons (.of rfl (ok_move (.t rfl))) ?_
        refine RunT.cons (.of rfl ((by first | exact ok_idxN un66 ty69 (.t rfl) (.t rfl) (fun _ => by exact hb1) | exact ok_idxM un66 ty69 (.t rfl) (.t rfl) (fun _ => by exact hb1) | exact ok_idx un66 ty69 (.t rfl) (.t rfl) (fun _ => by exact hb1)))) ?_
        refine RunT.cons (.of rfl (ok_load1 ty69 (.t rfl))) ?_
        refine RunT.cons (.of rfl (ok_move (.t rfl))) ?_
        refine RunT.cons (.of rfl ((by first | exact ok_nilV (.t rfl) | exact ok_nilPtr (.t rfl) | exact ok_nilF (.t rfl)))) ?_
        refine RunT.cons (.of rfl (ok_loadB 0 ty3 (.t rfl) rfl (ints_get (form_offs j hj _ (elt_mem hb1))))) ?_
        refine RunT.cons (.of rfl ((by first | exact ok_nilV (.t rfl) | exact ok_nilPtr (.t rfl) | exact ok_nilF (.t rfl)))) ?_
        refine RunT.nil ?_
        intro I a w hs
        refine hs.store1 1 ty3 (.t rfl) (.t rfl) (by first | exact one_val rfl | exact one_rows | exact one_ptr | exact one_fn) rfl (Nat.ble_eq_true_of_le (by simp only [List.length_map, madeTo_len]; exact form_offs j hj _ (elt_mem hb1))) fun a w hs => ?_
        refine wpList_nil ?_
        refine then_n ?_
        refine St.region ?_
        refine hs.op rfl rfl rfl (ok_move (.t rfl)) fun I a w hs => ?_
        refine hs.op rfl rfl rfl (ok_move (.t rfl)) fun I a w hs => ?_
        refine hs.op rfl rfl rfl ((by first | exact ok_nilV (.t rfl) | exact ok_nilPtr (.t rfl) | exact ok_nilF (.t rfl))) fun I a w hs => ?_
        refine hs.op rfl rfl rfl (ok_loadB 0 ty3 (.t rfl) rfl (ints_get (form_offs j hj _ (elt_mem hb1)))) fun I a w hs => ?_
        refine hs.op rfl rfl rfl (ok_call (c_strconv_Itoa _ (he _ (ints_mem (form_offs j hj _ (elt_mem hb1))))) (args_cons (.tab (t := 1) rfl (.t rfl)) args_nil)) fun I a w hs => ?_
        refine hs.op rfl rfl rfl (ok_cat .c (.t rfl) (fun _ => by have := dec_len (he _ (ints_mem (e := e) (form_offs j hj _ (elt_mem hb1)))); simp only [List.length_cons, List.length_nil]; omega)) fun I a w hs => ?_
        refine hs.op rfl rfl rfl (ok_cat (.t rfl) (.t rfl) (fun _ => by have := dec_len (he _ (ints_mem (e := e) (form_offs j hj _ (elt_mem hb1)))); have := lineTo_len (k := k) hj he; simp only [List.length_append, List.length_cons, List.length_nil]; omega)) fun I a w hs => ?_
        refine hs.op rfl rfl rfl (ok_assign (.t rfl)) fun I a w hs => ?_
        refine wpList_nil ?_
        refine block_n ?_
        refine then_n ?_
        refine St.region ?_
        refine hs.op rfl rfl rfl (ok_add (.t rfl) .c (fun _ => by omega)) fun I a w hs => ?_
        refine hs.op rfl rfl rfl (ok_move (.t rfl)) fun I a w hs => ?_
        refine wpList_nil ?_
        refine then_n ?_
        change St _ _ [Own.box b3 35 e.cells, Own.box b6 35 (((madeTo j e k).map AV.int).set (elt (formAt j).offs k) (.int (e.ints.getD (elt (formAt j).offs k) 0)))] _ _ _ at hs
        rw [madeTo_succ hb1] at hs
        refine hs.again (k + 1) ?mu1 ?ok1001 (by rfl) ?env1001 (by repeat (first | exact Env.le_rfl | refine Env.le_push rfl ?_))
        case mu1 => omega
        case ok1001 => exact ⟨hb1, fun i h1 h2 => by rcases Nat.lt_succ_iff_lt_or_eq.1 h1 with h | h; exact hall i h h2; rw [h]; exact hb2⟩
        case env1001 => exact (Env.le_consE rfl (by rfl) (Env.le_consE rfl (by exact congrArg AV.text (lineTo_succ hb1)) Env.le_nil))
    · try simp only [decide_eq_true_eq, decide_eq_false_iff_not, Bool.not_eq_true', Bool.not_eq_false', Bool.and_eq_true, Bool.or_eq_true, Bool.and_eq_false_iff, Bool.or_eq_false_iff, beq_iff_eq, bne_iff_ne, bne_eq_false_iff_eq, beq_eq_false_iff_ne, ne_eq, Int.not_lt, Int.not_le, Int.ofNat_lt, Int.ofNat_le] at hb1
      refine wp_exit ?_
      refine then_x ?_
      refine then_x ?_
      refine block_hit ?_
      refine then_n ?_
      refine wp_seq ?_
      refine wp_seq ?_
      refine St.region ?_
      rw [madeTo_all (by omega)] at hs
      have hml : ((formAt j).made e).length = 11 := by have := madeTo_len j e k; rwa [madeTo_all (by omega)] at this
      have hld : ((((formAt j).made e).map AV.int).drop 0).take 11 = ((formAt j).made e).map AV.int := by rw [List.drop_zero, List.take_of_length_le (by simp [hml])]
      refine hs.op rfl rfl rfl (ok_loadBS 1 ty35 (.t rfl) rfl hld (by simpa using hml)) fun I a w hs => ?_
      refine hs.op rfl rfl rfl (ok_loadBS 0 ty35 (.t rfl) rfl rfl rfl) fun I a w hs => ?_
      refine hs.op rfl rfl rfl (ok_neS ((formAt j).made e) e.ints eqt35 hml rfl (.t rfl) (.t rfl)) fun I a w hs => ?_
      refine wpList_nil ?_
      refine then_n ?_
      refine hs.cond (.t rfl) (fun hb3 => ?_) (fun hb3 => ?_)
      · try simp only [decide_eq_true_eq, decide_eq_false_iff_not, Bool.not_eq_true', Bool.not_eq_false', Bool.and_eq_true, Bool.or_eq_true, Bool.and_eq_false_iff, Bool.or_eq_false_iff, beq_iff_eq, bne_iff_ne, bne_eq_false_iff_eq, beq_eq_false_iff_ne, ne_eq, Int.not_lt, Int.not_le, Int.ofNat_lt, Int.ofNat_le] at hb3
        refine wp_seq ?_
        refine St.region ?_
        refine hs.op rfl rfl rfl (ok_assign .c) fun I a w hs => ?_
        refine wpList_nil ?_
        refine then_n ?_
        refine wp_ret ?_
        refine then_r ?_
        refine hs.ret rfl (.cons (.t rfl) ResL.nil) ?_
        exact ret_av (congrArg AV.text (write_ne hb3).symm)
      · try simp only [decide_eq_true_eq, decide_eq_false_iff_not, Bool.not_eq_true', Bool.not_eq_false', Bool.and_eq_true, Bool.or_eq_true, Bool.and_eq_false_iff, Bool.or_eq_false_iff, beq_iff_eq, bne_iff_ne, bne_eq_false_iff_eq, beq_eq_false_iff_ne, ne_eq, Int.not_lt, Int.not_le, Int.ofNat_lt, Int.ofNat_le] at hb3
        refine wp_skip ?_
        refine then_n ?_
        refine wp_seq ?_
        refine St.region ?_
        refine hs.op rfl rfl rfl (ok_move (.t rfl)) fun I a w hs => ?_
        refine hs.op rfl rfl rfl (ok_cat (.t rfl) .c (fun _ => by have := lineTo_len (k := k) hj he; simp only [List.length_cons, List.length_nil]; omega)) fun I a w hs => ?_
        refine hs.op rfl rfl rfl (ok_assign (.t rfl)) fun I a w hs => ?_
        refine wpList_nil ?_
        refine then_n ?_
        refine wp_ret ?_
        refine hs.ret rfl (.cons (.t rfl) ResL.nil) ?_
        exact ret_av (congrArg AV.text (write_ok (by omega) hall hb3).symm)

end Go.Proofs.YtblcocjbnjfhkaaDoor
