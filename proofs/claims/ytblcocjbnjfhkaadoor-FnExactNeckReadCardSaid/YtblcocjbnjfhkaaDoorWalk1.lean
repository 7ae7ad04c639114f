/- Walks: numbers, what happens turned over. -/
import Derived.Test.YtblcocjbnjfhkaaDoorTypes
set_option linter.unusedVariables false
set_option linter.unusedSimpArgs false
set_option maxRecDepth 100000
namespace Go.Proofs.YtblcocjbnjfhkaaDoor
open Go Go.RowKit


def textCell (l : List UInt8) : List AV := [.text l]
def textsAV (l : List (List UInt8)) : AV := .rows 1 (l.map textCell)
def i64r (n : Int) : Prop := -9223372036854775808 ≤ n ∧ n ≤ 9223372036854775807
def leftOf (n : Nat) : Int := if (1048576 : Int) - n < 0 then -1 else 1048576 - n

theorem c_impl_in (n a b : Int) :
    Fn Tryd.prog 48 [AV.int n, AV.int a, AV.int b] (AV.bool (inB n a b)) := by
  refine Fn.intro 15 Tryd.func48 rfl Tryd.ntmps48 rfl (by kernel_rfl) (fun W I a hs => ?_)
  refine wp_seq ?_
  refine St.region ?_
  refine hs.op rfl rfl rfl (ok_assign .c) fun I a w hs => ?_
  refine wpList_nil ?_
  refine then_n ?_
  refine wp_seq ?_
  refine St.region ?_
  refine hs.op rfl rfl rfl (ok_move (.t rfl)) fun I a w hs => ?_
  refine hs.op rfl rfl rfl (ok_move (.t rfl)) fun I a w hs => ?_
  refine hs.op rfl rfl rfl (ok_leq (.t rfl) (.t rfl)) fun I a w hs => ?_
  refine hs.op rfl rfl rfl (ok_move (.t rfl)) fun I a w hs => ?_
  refine hs.opG (guarded_T rfl rfl rfl) rfl rfl (ok_move (.t rfl)) fun I a w hs => ?_
  refine hs.opG (guarded_T rfl rfl rfl) rfl rfl (ok_move (.t rfl)) fun I a w hs => ?_
  refine hs.opG (guarded_T rfl rfl rfl) rfl rfl (ok_leq (.g rfl (fun hg => by first | exact hg | exact (Bool.and_eq_true_iff.1 hg).1 | exact (Bool.and_eq_true_iff.1 (Bool.and_eq_true_iff.1 hg).1).1)) (.g rfl (fun hg => by first | exact hg | exact (Bool.and_eq_true_iff.1 hg).1 | exact (Bool.and_eq_true_iff.1 (Bool.and_eq_true_iff.1 hg).1).1))) fun I a w hs => ?_
  refine hs.op rfl rfl rfl (ok_and (.t rfl) (by first | exact .t rfl | exact .gc rfl (fun hg => hg) | exact .gc rfl (fun hg => (Bool.and_eq_true_iff.1 hg).1)) .c) fun I a w hs => ?_
  refine hs.op rfl rfl rfl (ok_assign (.t rfl)) fun I a w hs => ?_
  refine wpList_nil ?_
  refine then_n ?_
  refine wp_ret ?_
  refine hs.ret rfl (.cons (.t rfl) ResL.nil) ?_
  rfl

theorem c_impl_isWritten (n : Int) :
    Fn Tryd.prog 34 [AV.int n] (AV.bool (written n)) := by
  refine Fn.intro 5 Tryd.func34 rfl Tryd.ntmps34 rfl (by kernel_rfl) (fun W I a hs => ?_)
  refine wp_seq ?_
  refine St.region ?_
  refine hs.op rfl rfl rfl (ok_assign .c) fun I a w hs => ?_
  refine wpList_nil ?_
  refine then_n ?_
  refine wp_seq ?_
  refine St.region ?_
  refine hs.op rfl rfl rfl (ok_move (.t rfl)) fun I a w hs => ?_
  refine hs.op rfl rfl rfl (ok_call (c_impl_in ..) (args_cons (.t rfl) (args_cons .c (args_cons .c args_nil)))) fun I a w hs => ?_
  refine hs.op rfl rfl rfl (ok_assign (.t rfl)) fun I a w hs => ?_
  refine wpList_nil ?_
  refine then_n ?_
  refine wp_ret ?_
  refine hs.ret rfl (.cons (.t rfl) ResL.nil) ?_
  rfl

theorem c_laws_szNeckEventS (l : List Ev) :
    Fn Tryd.prog 5 [evsAV l, AV.int 1048576] (AV.int (leftOf l.length)) := by
  refine Fn.intro 12 Tryd.func5 rfl Tryd.ntmps5 rfl (by kernel_rfl) (fun W I a hs => ?_)
  have hle := hs.lenleM (t := 0) rfl
  refine wp_seq ?_
  refine St.region ?_
  refine hs.op rfl rfl rfl (ok_assign .c) fun I a w hs => ?_
  refine wpList_nil ?_
  refine then_n ?_
  refine wp_seq ?_
  refine St.region ?_
  refine hs.op rfl rfl rfl (ok_move (.t rfl)) fun I a w hs => ?_
  refine hs.op rfl rfl rfl (ok_move (.t rfl)) fun I a w hs => ?_
  refine hs.op rfl rfl rfl ((by first | exact ok_lenM un22 (.t rfl) | exact ok_len un22 (.t rfl) | exact ok_lenV un22 (.t rfl))) fun I a w hs => ?_
  refine hs.op rfl rfl rfl (ok_sub (.t rfl) (.t rfl) (fun _ => by omega)) fun I a w hs => ?_
  refine hs.op rfl rfl rfl (ok_assign (.t rfl)) fun I a w hs => ?_
  refine wpList_nil ?_
  refine then_n ?_
  refine wp_seq ?_
  refine wp_seq ?_
  refine St.region ?_
  refine hs.op rfl rfl rfl (ok_move (.t rfl)) fun I a w hs => ?_
  refine hs.op rfl rfl rfl (ok_lss (.t rfl) .c) fun I a w hs => ?_
  refine wpList_nil ?_
  refine then_n ?_
  refine hs.cond (.t rfl) (fun hb1 => ?_) (fun hb1 => ?_)
  · try simp only [decide_eq_true_eq, decide_eq_false_iff_not, Bool.not_eq_true', Bool.not_eq_false', Bool.and_eq_true, Bool.or_eq_true, Bool.and_eq_false_iff, Bool.or_eq_false_iff, beq_iff_eq, bne_iff_ne, bne_eq_false_iff_eq, beq_eq_false_iff_ne, ne_eq, Int.not_lt, Int.not_le, Int.ofNat_lt, Int.ofNat_le] at hb1
    refine wp_seq ?_
    refine St.region ?_
    refine hs.op rfl rfl rfl (ok_assign .c) fun I a w hs => ?_
    refine wpList_nil ?_
    refine then_n ?_
    refine wp_ret ?_
    refine then_r ?_
    refine hs.ret rfl (.cons (.t rfl) ResL.nil) ?_
    exact ret_int (by simp only [leftOf]; split <;> omega)
  · try simp only [decide_eq_true_eq, decide_eq_false_iff_not, Bool.not_eq_true', Bool.not_eq_false', Bool.and_eq_true, Bool.or_eq_true, Bool.and_eq_false_iff, Bool.or_eq_false_iff, beq_iff_eq, bne_iff_ne, bne_eq_false_iff_eq, beq_eq_false_iff_ne, ne_eq, Int.not_lt, Int.not_le, Int.ofNat_lt, Int.ofNat_le] at hb1
    refine wp_skip ?_
    refine then_n ?_
    refine wp_seq ?_
    refine St.region ?_
    refine hs.op rfl rfl rfl (ok_move (.t rfl)) fun I a w hs => ?_
    refine hs.op rfl rfl rfl (ok_assign (.t rfl)) fun I a w hs => ?_
    refine wpList_nil ?_
    refine then_n ?_
    refine wp_ret ?_
    refine hs.ret rfl (.cons (.t rfl) ResL.nil) ?_
    exact ret_int (by simp only [leftOf]; split <;> omega)

theorem c_laws_toNeckEvent (e : Ev) :
    Fn Tryd.prog 16 [e.av] (e.av) := by
  refine Fn.intro 38 Tryd.func16 rfl Tryd.ntmps16 rfl (by kernel_rfl) (fun W I a hs => ?_)
  refine wp_seq ?_
  refine St.region ?_
  refine hs.op rfl rfl rfl (ok_boxP (.t rfl)) fun I a w hs => ?_
  refine hs.alloc rfl ty35 zc35 fun b2 I a w hs => ?_
  refine wpList_nil ?_
  refine then_n ?_
  refine wp_seq ?_
  refine St.region ?_
  refine hs.alloc rfl ty35 zc35 fun b3 I a w hs => ?_
  refine wpList_nil ?_
  refine then_n ?_
  refine wp_seq ?_
  refine St.region ?_
  refine hs.op rfl rfl rfl (ok_fieldP fd39_0 rfl (.t rfl)) fun I a w hs => ?_
  refine hs.op rfl rfl rfl (ok_load1 ty3 (.t rfl)) fun I a w hs => ?_
  refine hs.op rfl rfl rfl (ok_fieldV fd35_0 rfl (.t rfl)) fun I a w hs => ?_
  refine hs.store1 1 ty3 (.t rfl) (.t rfl) (by first | exact one_val rfl | exact one_rows | exact one_ptr | exact one_fn) rfl rfl fun a w hs => ?_
  refine wpList_nil ?_
  refine then_n ?_
  refine wp_seq ?_
  refine St.region ?_
  refine hs.op rfl rfl rfl (ok_fieldP fd39_1 rfl (.t rfl)) fun I a w hs => ?_
  refine hs.op rfl rfl rfl (ok_load1 ty3 (.t rfl)) fun I a w hs => ?_
  refine hs.op rfl rfl rfl (ok_fieldV fd35_1 rfl (.t rfl)) fun I a w hs => ?_
  refine hs.store1 1 ty3 (.t rfl) (.t rfl) (by first | exact one_val rfl | exact one_rows | exact one_ptr | exact one_fn) rfl rfl fun a w hs => ?_
  refine wpList_nil ?_
  refine then_n ?_
  refine wp_seq ?_
  refine St.region ?_
  refine hs.op rfl rfl rfl (ok_fieldP fd39_2 rfl (.t rfl)) fun I a w hs => ?_
  refine hs.op rfl rfl rfl (ok_load1 ty3 (.t rfl)) fun I a w hs => ?_
  refine hs.op rfl rfl rfl (ok_fieldV fd35_2 rfl (.t rfl)) fun I a w hs => ?_
  refine hs.store1 1 ty3 (.t rfl) (.t rfl) (by first | exact one_val rfl | exact one_rows | exact one_ptr | exact one_fn) rfl rfl fun a w hs => ?_
  refine wpList_nil ?_
  refine then_n ?_
  refine wp_seq ?_
  refine St.region ?_
  refine hs.op rfl rfl rfl (ok_fieldP fd39_3 rfl (.t rfl)) fun I a w hs => ?_
  refine hs.op rfl rfl rfl (ok_load1 ty3 (.t rfl)) fun I a w hs => ?_
  refine hs.op rfl rfl rfl (ok_fieldV fd35_3 rfl (.t rfl)) fun I a w hs => ?_
  refine hs.store1 1 ty3 (.t rfl) (.t rfl) (by first | exact one_val rfl | exact one_rows | exact one_ptr | exact one_fn) rfl rfl fun a w hs => ?_
  refine wpList_nil ?_
  refine then_n ?_
  refine wp_seq ?_
  refine St.region ?_
  refine hs.op rfl rfl rfl (ok_fieldP fd39_4 rfl (.t rfl)) fun I a w hs => ?_
  refine hs.op rfl rfl rfl (ok_load1 ty3 (.t rfl)) fun I a w hs => ?_
  refine hs.op rfl rfl rfl (ok_fieldV fd35_4 rfl (.t rfl)) fun I a w hs => ?_
  refine hs.store1 1 ty3 (.t rfl) (.t rfl) (by first | exact one_val rfl | exact one_rows | exact one_ptr | exact one_fn) rfl rfl fun a w hs => ?_
  refine wpList_nil ?_
  refine then_n ?_
  refine wp_seq ?_
  refine St.region ?_
  refine hs.op rfl rfl rfl (ok_fieldP fd39_5 rfl (.t rfl)) fun I a w hs => ?_
  refine hs.op rfl rfl rfl (ok_load1 ty3 (.t rfl)) fun I a w hs => ?_
  refine hs.op rfl rfl rfl (ok_fieldV fd35_5 rfl (.t rfl)) fun I a w hs => ?_
  refine hs.store1 1 ty3 (.t rfl) (.t rfl) (by first | exact one_val rfl | exact one_rows | exact one_ptr | exact one_fn) rfl rfl fun a w hs => ?_
  refine wpList_nil ?_
  refine then_n ?_
  refine wp_seq ?_
  refine St.region ?_
  refine hs.op rfl rfl rfl (ok_fieldP fd39_6 rfl (.t rfl)) fun I a w hs => ?_
  refine hs.op rfl rfl rfl (ok_load1 ty3 (.t rfl)) fun I a w hs => ?_
  refine hs.op rfl rfl rfl (ok_fieldV fd35_6 rfl (.t rfl)) fun I a w hs => ?_
  refine hs.store1 1 ty3 (.t rfl) (.t rfl) (by first | exact one_val rfl | exact one_rows | exact one_ptr | exact one_fn) rfl rfl fun a w hs => ?_
  refine wpList_nil ?_
  refine then_n ?_
  refine wp_seq ?_
  refine St.region ?_
  refine hs.op rfl rfl rfl (ok_fieldP fd39_7 rfl (.t rfl)) fun I a w hs => ?_
  refine hs.op rfl rfl rfl (ok_load1 ty3 (.t rfl)) fun I a w hs => ?_
  refine hs.op rfl rfl rfl (ok_fieldV fd35_7 rfl (.t rfl)) fun I a w hs => ?_
  refine hs.store1 1 ty3 (.t rfl) (.t rfl) (by first | exact one_val rfl | exact one_rows | exact one_ptr | exact one_fn) rfl rfl fun a w hs => ?_
  refine wpList_nil ?_
  refine then_n ?_
  refine wp_seq ?_
  refine St.region ?_
  refine hs.op rfl rfl rfl (ok_fieldP fd39_8 rfl (.t rfl)) fun I a w hs => ?_
  refine hs.op rfl rfl rfl (ok_load1 ty3 (.t rfl)) fun I a w hs => ?_
  refine hs.op rfl rfl rfl (ok_fieldV fd35_8 rfl (.t rfl)) fun I a w hs => ?_
  refine hs.store1 1 ty3 (.t rfl) (.t rfl) (by first | exact one_val rfl | exact one_rows | exact one_ptr | exact one_fn) rfl rfl fun a w hs => ?_
  refine wpList_nil ?_
  refine then_n ?_
  refine wp_seq ?_
  refine St.region ?_
  refine hs.op rfl rfl rfl (ok_fieldP fd39_9 rfl (.t rfl)) fun I a w hs => ?_
  refine hs.op rfl rfl rfl (ok_load1 ty3 (.t rfl)) fun I a w hs => ?_
  refine hs.op rfl rfl rfl (ok_fieldV fd35_9 rfl (.t rfl)) fun I a w hs => ?_
  refine hs.store1 1 ty3 (.t rfl) (.t rfl) (by first | exact one_val rfl | exact one_rows | exact one_ptr | exact one_fn) rfl rfl fun a w hs => ?_
  refine wpList_nil ?_
  refine then_n ?_
  refine wp_seq ?_
  refine St.region ?_
  refine hs.op rfl rfl rfl (ok_fieldP fd39_10 rfl (.t rfl)) fun I a w hs => ?_
  refine hs.op rfl rfl rfl (ok_load1 ty3 (.t rfl)) fun I a w hs => ?_
  refine hs.op rfl rfl rfl (ok_fieldV fd35_10 rfl (.t rfl)) fun I a w hs => ?_
  refine hs.store1 1 ty3 (.t rfl) (.t rfl) (by first | exact one_val rfl | exact one_rows | exact one_ptr | exact one_fn) rfl rfl fun a w hs => ?_
  refine wpList_nil ?_
  refine then_n ?_
  refine wp_seq ?_
  refine St.region ?_
  refine hs.op rfl rfl rfl (ok_loadBS 1 ty35 (.t rfl) rfl rfl rfl) fun I a w hs => ?_
  refine hs.storeB 0 ty35 (.t rfl) (.t rfl) rfl (by first | rfl | assumption) rfl fun a w hs => ?_
  refine wpList_nil ?_
  refine then_n ?_
  refine wp_ret ?_
  refine hs.ret rfl (.cons (.s 0 ty35 rfl rfl (by first | rfl | assumption)) ResL.nil) ?_
  rfl

theorem c_laws_eqNeckEvent (e f : Ev) :
    Fn Tryd.prog 21 [e.av, f.av] (AV.bool (decide (e = f))) := by
  refine Fn.intro 60 Tryd.func21 rfl Tryd.ntmps21 rfl (by kernel_rfl) (fun W I a hs => ?_)
  refine wp_seq ?_
  refine St.region ?_
  refine hs.op rfl rfl rfl (ok_boxP (.t rfl)) fun I a w hs => ?_
  refine hs.op rfl rfl rfl (ok_boxP (.t rfl)) fun I a w hs => ?_
  refine hs.op rfl rfl rfl (ok_assign .c) fun I a w hs => ?_
  refine wpList_nil ?_
  refine then_n ?_
  refine wp_seq ?_
  refine wp_seq ?_
  refine St.region ?_
  refine hs.op rfl rfl rfl (ok_fieldP fd35_0 rfl (.t rfl)) fun I a w hs => ?_
  refine hs.op rfl rfl rfl (ok_load1 ty3 (.t rfl)) fun I a w hs => ?_
  refine hs.op rfl rfl rfl (ok_fieldP fd35_0 rfl (.t rfl)) fun I a w hs => ?_
  refine hs.op rfl rfl rfl (ok_load1 ty3 (.t rfl)) fun I a w hs => ?_
  refine hs.op rfl rfl rfl (ok_nei (.t rfl) (.t rfl)) fun I a w hs => ?_
  refine wpList_nil ?_
  refine then_n ?_
  refine hs.cond (.t rfl) (fun hb1 => ?_) (fun hb1 => ?_)
  · try simp only [decide_eq_true_eq, decide_eq_false_iff_not, Bool.not_eq_true', Bool.not_eq_false', Bool.and_eq_true, Bool.or_eq_true, Bool.and_eq_false_iff, Bool.or_eq_false_iff, beq_iff_eq, bne_iff_ne, bne_eq_false_iff_eq, beq_eq_false_iff_ne, ne_eq, Int.not_lt, Int.not_le, Int.ofNat_lt, Int.ofNat_le] at hb1
    refine wp_seq ?_
    refine St.region ?_
    refine hs.op rfl rfl rfl (ok_assign .c) fun I a w hs => ?_
    refine wpList_nil ?_
    refine then_n ?_
    refine wp_ret ?_
    refine then_r ?_
    refine hs.ret rfl (.cons (.t rfl) ResL.nil) ?_
    exact ret_bool (decide_eq_false (fun h => hb1 (by rw [h]))).symm
  · try simp only [decide_eq_true_eq, decide_eq_false_iff_not, Bool.not_eq_true', Bool.not_eq_false', Bool.and_eq_true, Bool.or_eq_true, Bool.and_eq_false_iff, Bool.or_eq_false_iff, beq_iff_eq, bne_iff_ne, bne_eq_false_iff_eq, beq_eq_false_iff_ne, ne_eq, Int.not_lt, Int.not_le, Int.ofNat_lt, Int.ofNat_le] at hb1
    refine wp_skip ?_
    refine then_n ?_
    refine wp_seq ?_
    refine wp_seq ?_
    refine St.region ?_
    refine hs.op rfl rfl rfl (ok_fieldP fd35_1 rfl (.t rfl)) fun I a w hs => ?_
    refine hs.op rfl rfl rfl (ok_load1 ty3 (.t rfl)) fun I a w hs => ?_
    refine hs.op rfl rfl rfl (ok_fieldP fd35_1 rfl (.t rfl)) fun I a w hs => ?_
    refine hs.op rfl rfl rfl (ok_load1 ty3 (.t rfl)) fun I a w hs => ?_
    refine hs.op rfl rfl rfl (ok_nei (.t rfl) (.t rfl)) fun I a w hs => ?_
    refine wpList_nil ?_
    refine then_n ?_
    refine hs.cond (.t rfl) (fun hb2 => ?_) (fun hb2 => ?_)
    · try simp only [decide_eq_true_eq, decide_eq_false_iff_not, Bool.not_eq_true', Bool.not_eq_false', Bool.and_eq_true, Bool.or_eq_true, Bool.and_eq_false_iff, Bool.or_eq_false_iff, beq_iff_eq, bne_iff_ne, bne_eq_false_iff_eq, beq_eq_false_iff_ne, ne_eq, Int.not_lt, Int.not_le, Int.ofNat_lt, Int.ofNat_le] at hb2
      refine wp_seq ?_
      refine St.region ?_
      refine hs.op rfl rfl rfl (ok_assign .c) fun I a w hs => ?_
      refine wpList_nil ?_
      refine then_n ?_
      refine wp_ret ?_
      refine then_r ?_
      refine hs.ret rfl (.cons (.t rfl) ResL.nil) ?_
      exact ret_bool (decide_eq_false (fun h => hb2 (by rw [h]))).symm
    · try simp only [decide_eq_true_eq, decide_eq_false_iff_not, Bool.not_eq_true', Bool.not_eq_false', Bool.and_eq_true, Bool.or_eq_true, Bool.and_eq_false_iff, Bool.or_eq_false_iff, beq_iff_eq, bne_iff_ne, bne_eq_false_iff_eq, beq_eq_false_iff_ne, ne_eq, Int.not_lt, Int.not_le, Int.ofNat_lt, Int.ofNat_le] at hb2
      refine wp_skip ?_
      refine then_n ?_
      refine wp_seq ?_
      refine wp_seq ?_
      refine St.region ?_
      refine hs.op rfl rfl rfl (ok_fieldP fd35_2 rfl (.t rfl)) fun I a w hs => ?_
      refine hs.op rfl rfl rfl (ok_load1 ty3 (.t rfl)) fun I a w hs => ?_
      refine hs.op rfl rfl rfl (ok_fieldP fd35_2 rfl (.t rfl)) fun I a w hs => ?_
      refine hs.op rfl rfl rfl (ok_load1 ty3 (.t rfl)) fun I a w hs => ?_
      refine hs.op rfl rfl rfl (ok_nei (.t rfl) (.t rfl)) fun I a w hs => ?_
      refine wpList_nil ?_
      refine then_n ?_
      refine hs.cond (.t rfl) (fun hb3 => ?_) (fun hb3 => ?_)
      · try simp only [decide_eq_true_eq, decide_eq_false_iff_not, Bool.not_eq_true', Bool.not_eq_false', Bool.and_eq_true, Bool.or_eq_true, Bool.and_eq_false_iff, Bool.or_eq_false_iff, beq_iff_eq, bne_iff_ne, bne_eq_false_iff_eq, beq_eq_false_iff_ne, ne_eq, Int.not_lt, Int.not_le, Int.ofNat_lt, Int.ofNat_le] at hb3
        refine wp_seq ?_
        refine St.region ?_
        refine hs.op rfl rfl rfl (ok_assign .c) fun I a w hs => ?_
        refine wpList_nil ?_
        refine then_n ?_
        refine wp_ret ?_
        refine then_r ?_
        refine hs.ret rfl (.cons (.t rfl) ResL.nil) ?_
        exact ret_bool (decide_eq_false (fun h => hb3 (by rw [h]))).symm
      · try simp only [decide_eq_true_eq, decide_eq_false_iff_not, Bool.not_eq_true', Bool.not_eq_false', Bool.and_eq_true, Bool.or_eq_true, Bool.and_eq_false_iff, Bool.or_eq_false_iff, beq_iff_eq, bne_iff_ne, bne_eq_false_iff_eq, beq_eq_false_iff_ne, ne_eq, Int.not_lt, Int.not_le, Int.ofNat_lt, Int.ofNat_le] at hb3
        refine wp_skip ?_
        refine then_n ?_
        refine wp_seq ?_
        refine wp_seq ?_
        refine St.region ?_
        refine hs.op rfl rfl rfl (ok_fieldP fd35_3 rfl (.t rfl)) fun I a w hs => ?_
        refine hs.op rfl rfl rfl (ok_load1 ty3 (.t rfl)) fun I a w hs => ?_
        refine hs.op rfl rfl rfl (ok_fieldP fd35_3 rfl (.t rfl)) fun I a w hs => ?_
        refine hs.op rfl rfl rfl (ok_load1 ty3 (.t rfl)) fun I a w hs => ?_
        refine hs.op rfl rfl rfl (ok_nei (.t rfl) (.t rfl)) fun I a w hs => ?_
        refine wpList_nil ?_
        refine then_n ?_
        refine hs.cond (.t rfl) (fun hb4 => ?_) (fun hb4 => ?_)
        · try simp only [decide_eq_true_eq, decide_eq_false_iff_not, Bool.not_eq_true', Bool.not_eq_false', Bool.and_eq_true, Bool.or_eq_true, Bool.and_eq_false_iff, Bool.or_eq_false_iff, beq_iff_eq, bne_iff_ne, bne_eq_false_iff_eq, beq_eq_false_iff_ne, ne_eq, Int.not_lt, Int.not_le, Int.ofNat_lt, Int.ofNat_le] at hb4
          refine wp_seq ?_
          refine St.region ?_
          refine hs.op rfl rfl rfl (ok_assign .c) fun I a w hs => ?_
          refine wpList_nil ?_
          refine then_n ?_
          refine wp_ret ?_
          refine then_r ?_
          refine hs.ret rfl (.cons (.t rfl) ResL.nil) ?_
          exact ret_bool (decide_eq_false (fun h => hb4 (by rw [h]))).symm
        · try simp only [decide_eq_true_eq, decide_eq_false_iff_not, Bool.not_eq_true', Bool.not_eq_false', Bool.and_eq_true, Bool.or_eq_true, Bool.and_eq_false_iff, Bool.or_eq_false_iff, beq_iff_eq, bne_iff_ne, bne_eq_false_iff_eq, beq_eq_false_iff_ne, ne_eq, Int.not_lt, Int.not_le, Int.ofNat_lt, Int.ofNat_le] at hb4
          refine wp_skip ?_
          refine then_n ?_
          refine wp_seq ?_
          refine wp_seq ?_
          refine St.region ?_
          refine hs.op rfl rfl rfl (ok_fieldP fd35_4 rfl (.t rfl)) fun I a w hs => ?_
          refine hs.op rfl rfl rfl (ok_load1 ty3 (.t rfl)) fun I a w hs => ?_
          refine hs.op rfl rfl rfl (ok_fieldP fd35_4 rfl (.t rfl)) fun I a w hs => ?_
          refine hs.op rfl rfl rfl (ok_load1 ty3 (.t rfl)) fun I a w hs => ?_
          refine hs.op rfl rfl rfl (ok_nei (.t rfl) (.t rfl)) fun I a w hs => ?_
          refine wpList_nil ?_
          refine then_n ?_
          refine hs.cond (.t rfl) (fun hb5 => ?_) (fun hb5 => ?_)
          · try simp only [decide_eq_true_eq, decide_eq_false_iff_not, Bool.not_eq_true', Bool.not_eq_false', Bool.and_eq_true, Bool.or_eq_true, Bool.and_eq_false_iff, Bool.or_eq_false_iff, beq_iff_eq, bne_iff_ne, bne_eq_false_iff_eq, beq_eq_false_iff_ne, ne_eq, Int.not_lt, Int.not_le, Int.ofNat_lt, Int.ofNat_le] at hb5
            refine wp_seq ?_
            refine St.region ?_
            refine hs.op rfl rfl rfl (ok_assign .c) fun I a w hs => ?_
            refine wpList_nil ?_
            refine then_n ?_
            refine wp_ret ?_
            refine then_r ?_
            refine hs.ret rfl (.cons (.t rfl) ResL.nil) ?_
            exact ret_bool (decide_eq_false (fun h => hb5 (by rw [h]))).symm
          · try simp only [decide_eq_true_eq, decide_eq_false_iff_not, Bool.not_eq_true', Bool.not_eq_false', Bool.and_eq_true, Bool.or_eq_true, Bool.and_eq_false_iff, Bool.or_eq_false_iff, beq_iff_eq, bne_iff_ne, bne_eq_false_iff_eq, beq_eq_false_iff_ne, ne_eq, Int.not_lt, Int.not_le, Int.ofNat_lt, Int.ofNat_le] at hb5
            refine wp_skip ?_
            refine then_n ?_
            refine wp_seq ?_
            refine wp_seq ?_
            refine St.region ?_
            refine hs.op rfl rfl rfl (ok_fieldP fd35_5 rfl (.t rfl)) fun I a w hs => ?_
            refine hs.op rfl rfl rfl (ok_load1 ty3 (.t rfl)) fun I a w hs => ?_
            refine hs.op rfl rfl rfl (ok_fieldP fd35_5 rfl (.t rfl)) fun I a w hs => ?_
            refine hs.op rfl rfl rfl (ok_load1 ty3 (.t rfl)) fun I a w hs => ?_
            refine hs.op rfl rfl rfl (ok_nei (.t rfl) (.t rfl)) fun I a w hs => ?_
            refine wpList_nil ?_
            refine then_n ?_
            refine hs.cond (.t rfl) (fun hb6 => ?_) (fun hb6 => ?_)
            · try simp only [decide_eq_true_eq, decide_eq_false_iff_not, Bool.not_eq_true', Bool.not_eq_false', Bool.and_eq_true, Bool.or_eq_true, Bool.and_eq_false_iff, Bool.or_eq_false_iff, beq_iff_eq, bne_iff_ne, bne_eq_false_iff_eq, beq_eq_false_iff_ne, ne_eq, Int.not_lt, Int.not_le, Int.ofNat_lt, Int.ofNat_le] at hb6
              refine wp_seq ?_
              refine St.region ?_
              refine hs.op rfl rfl rfl (ok_assign .c) fun I a w hs => ?_
              refine wpList_nil ?_
              refine then_n ?_
              refine wp_ret ?_
              refine then_r ?_
              refine hs.ret rfl (.cons (.t rfl) ResL.nil) ?_
              exact ret_bool (decide_eq_false (fun h => hb6 (by rw [h]))).symm
            · try simp only [decide_eq_true_eq, decide_eq_false_iff_not, Bool.not_eq_true', Bool.not_eq_false', Bool.and_eq_true, Bool.or_eq_true, Bool.and_eq_false_iff, Bool.or_eq_false_iff, beq_iff_eq, bne_iff_ne, bne_eq_false_iff_eq, beq_eq_false_iff_ne, ne_eq, Int.not_lt, Int.not_le, Int.ofNat_lt, Int.ofNat_le] at hb6
              refine wp_skip ?_
              refine then_n ?_
              refine wp_seq ?_
              refine wp_seq ?_
              refine St.region ?_
              refine hs.op rfl rfl rfl (ok_fieldP fd35_6 rfl (.t rfl)) fun I a w hs => ?_
              refine hs.op rfl rfl rfl (ok_load1 ty3 (.t rfl)) fun I a w hs => ?_
              refine hs.op rfl rfl rfl (ok_fieldP fd35_6 rfl (.t rfl)) fun I a w hs => ?_
              refine hs.op rfl rfl rfl (ok_load1 ty3 (.t rfl)) fun I a w hs => ?_
              refine hs.op rfl rfl rfl (ok_nei (.t rfl) (.t rfl)) fun I a w hs => ?_
              refine wpList_nil ?_
              refine then_n ?_
              refine hs.cond (.t rfl) (fun hb7 => ?_) (fun hb7 => ?_)
              · try simp only [decide_eq_true_eq, decide_eq_false_iff_not, Bool.not_eq_true', Bool.not_eq_false', Bool.and_eq_true, Bool.or_eq_true, Bool.and_eq_false_iff, Bool.or_eq_false_iff, beq_iff_eq, bne_iff_ne, bne_eq_false_iff_eq, beq_eq_false_iff_ne, ne_eq, Int.not_lt, Int.not_le, Int.ofNat_lt, Int.ofNat_le] at hb7
                refine wp_seq ?_
                refine St.region ?_
                refine hs.op rfl rfl rfl (ok_assign .c) fun I a w hs => ?_
                refine wpList_nil ?_
                refine then_n ?_
                refine wp_ret ?_
                refine then_r ?_
                refine hs.ret rfl (.cons (.t rfl) ResL.nil) ?_
                exact ret_bool (decide_eq_false (fun h => hb7 (by rw [h]))).symm
              · try simp only [decide_eq_true_eq, decide_eq_false_iff_not, Bool.not_eq_true', Bool.not_eq_false', Bool.and_eq_true, Bool.or_eq_true, Bool.and_eq_false_iff, Bool.or_eq_false_iff, beq_iff_eq, bne_iff_ne, bne_eq_false_iff_eq, beq_eq_false_iff_ne, ne_eq, Int.not_lt, Int.not_le, Int.ofNat_lt, Int.ofNat_le] at hb7
                refine wp_skip ?_
                refine then_n ?_
                refine wp_seq ?_
                refine wp_seq ?_
                refine St.region ?_
                refine hs.op rfl rfl rfl (ok_fieldP fd35_7 rfl (.t rfl)) fun I a w hs => ?_
                refine hs.op rfl rfl rfl (ok_load1 ty3 (.t rfl)) fun I a w hs => ?_
                refine hs.op rfl rfl rfl (ok_fieldP fd35_7 rfl (.t rfl)) fun I a w hs => ?_
                refine hs.op rfl rfl rfl (ok_load1 ty3 (.t rfl)) fun I a w hs => ?_
                refine hs.op rfl rfl rfl (ok_nei (.t rfl) (.t rfl)) fun I a w hs => ?_
                refine wpList_nil ?_
                refine then_n ?_
                refine hs.cond (.t rfl) (fun hb8 => ?_) (fun hb8 => ?_)
                · try simp only [decide_eq_true_eq, decide_eq_false_iff_not, Bool.not_eq_true', Bool.not_eq_false', Bool.and_eq_true, Bool.or_eq_true, Bool.and_eq_false_iff, Bool.or_eq_false_iff, beq_iff_eq, bne_iff_ne, bne_eq_false_iff_eq, beq_eq_false_iff_ne, ne_eq, Int.not_lt, Int.not_le, Int.ofNat_lt, Int.ofNat_le] at hb8
                  refine wp_seq ?_
                  refine St.region ?_
                  refine hs.op rfl rfl rfl (ok_assign .c) fun I a w hs => ?_
                  refine wpList_nil ?_
                  refine then_n ?_
                  refine wp_ret ?_
                  refine then_r ?_
                  refine hs.ret rfl (.cons (.t rfl) ResL.nil) ?_
                  exact ret_bool (decide_eq_false (fun h => hb8 (by rw [h]))).symm
                · try simp only [decide_eq_true_eq, decide_eq_false_iff_not, Bool.not_eq_true', Bool.not_eq_false', Bool.and_eq_true, Bool.or_eq_true, Bool.and_eq_false_iff, Bool.or_eq_false_iff, beq_iff_eq, bne_iff_ne, bne_eq_false_iff_eq, beq_eq_false_iff_ne, ne_eq, Int.not_lt, Int.not_le, Int.ofNat_lt, Int.ofNat_le] at hb8
                  refine wp_skip ?_
                  refine then_n ?_
                  refine wp_seq ?_
                  refine wp_seq ?_
                  refine St.region ?_
                  refine hs.op rfl rfl rfl (ok_fieldP fd35_8 rfl (.t rfl)) fun I a w hs => ?_
                  refine hs.op rfl rfl rfl (ok_load1 ty3 (.t rfl)) fun I a w hs => ?_
                  refine hs.op rfl rfl rfl (ok_fieldP fd35_8 rfl (.t rfl)) fun I a w hs => ?_
                  refine hs.op rfl rfl rfl (ok_load1 ty3 (.t rfl)) fun I a w hs => ?_
                  refine hs.op rfl rfl rfl (ok_nei (.t rfl) (.t rfl)) fun I a w hs => ?_
                  refine wpList_nil ?_
                  refine then_n ?_
                  refine hs.cond (.t rfl) (fun hb9 => ?_) (fun hb9 => ?_)
                  · try simp only [decide_eq_true_eq, decide_eq_false_iff_not, Bool.not_eq_true', Bool.not_eq_false', Bool.and_eq_true, Bool.or_eq_true, Bool.and_eq_false_iff, Bool.or_eq_false_iff, beq_iff_eq, bne_iff_ne, bne_eq_false_iff_eq, beq_eq_false_iff_ne, ne_eq, Int.not_lt, Int.not_le, Int.ofNat_lt, Int.ofNat_le] at hb9
                    refine wp_seq ?_
                    refine St.region ?_
                    refine hs.op rfl rfl rfl (ok_assign .c) fun I a w hs => ?_
                    refine wpList_nil ?_
                    refine then_n ?_
                    refine wp_ret ?_
                    refine then_r ?_
                    refine hs.ret rfl (.cons (.t rfl) ResL.nil) ?_
                    exact ret_bool (decide_eq_false (fun h => hb9 (by rw [h]))).symm
                  · try simp only [decide_eq_true_eq, decide_eq_false_iff_not, Bool.not_eq_true', Bool.not_eq_false', Bool.and_eq_true, Bool.or_eq_true, Bool.and_eq_false_iff, Bool.or_eq_false_iff, beq_iff_eq, bne_iff_ne, bne_eq_false_iff_eq, beq_eq_false_iff_ne, ne_eq, Int.not_lt, Int.not_le, Int.ofNat_lt, Int.ofNat_le] at hb9
                    refine wp_skip ?_
                    refine then_n ?_
                    refine wp_seq ?_
                    refine wp_seq ?_
                    refine St.region ?_
                    refine hs.op rfl rfl rfl (ok_fieldP fd35_9 rfl (.t rfl)) fun I a w hs => ?_
                    refine hs.op rfl rfl rfl (ok_load1 ty3 (.t rfl)) fun I a w hs => ?_
                    refine hs.op rfl rfl rfl (ok_fieldP fd35_9 rfl (.t rfl)) fun I a w hs => ?_
                    refine hs.op rfl rfl rfl (ok_load1 ty3 (.t rfl)) fun I a w hs => ?_
                    refine hs.op rfl rfl rfl (ok_nei (.t rfl) (.t rfl)) fun I a w hs => ?_
                    refine wpList_nil ?_
                    refine then_n ?_
                    refine hs.cond (.t rfl) (fun hb10 => ?_) (fun hb10 => ?_)
                    · try simp only [decide_eq_true_eq, decide_eq_false_iff_not, Bool.not_eq_true', Bool.not_eq_false', Bool.and_eq_true, Bool.or_eq_true, Bool.and_eq_false_iff, Bool.or_eq_false_iff, beq_iff_eq, bne_iff_ne, bne_eq_false_iff_eq, beq_eq_false_iff_ne, ne_eq, Int.not_lt, Int.not_le, Int.ofNat_lt, Int.ofNat_le] at hb10
                      refine wp_seq ?_
                      refine St.region ?_
                      refine hs.op rfl rfl rfl (ok_assign .c) fun I a w hs => ?_
                      refine wpList_nil ?_
                      refine then_n ?_
                      refine wp_ret ?_
                      refine then_r ?_
                      refine hs.ret rfl (.cons (.t rfl) ResL.nil) ?_
                      exact ret_bool (decide_eq_false (fun h => hb10 (by rw [h]))).symm
                    · try simp only [decide_eq_true_eq, decide_eq_false_iff_not, Bool.not_eq_true', Bool.not_eq_false', Bool.and_eq_true, Bool.or_eq_true, Bool.and_eq_false_iff, Bool.or_eq_false_iff, beq_iff_eq, bne_iff_ne, bne_eq_false_iff_eq, beq_eq_false_iff_ne, ne_eq, Int.not_lt, Int.not_le, Int.ofNat_lt, Int.ofNat_le] at hb10
                      refine wp_skip ?_
                      refine then_n ?_
                      refine wp_seq ?_
                      refine wp_seq ?_
                      refine St.region ?_
                      refine hs.op rfl rfl rfl (ok_fieldP fd35_10 rfl (.t rfl)) fun I a w hs => ?_
                      refine hs.op rfl rfl rfl (ok_load1 ty3 (.t rfl)) fun I a w hs => ?_
                      refine hs.op rfl rfl rfl (ok_fieldP fd35_10 rfl (.t rfl)) fun I a w hs => ?_
                      refine hs.op rfl rfl rfl (ok_load1 ty3 (.t rfl)) fun I a w hs => ?_
                      refine hs.op rfl rfl rfl (ok_nei (.t rfl) (.t rfl)) fun I a w hs => ?_
                      refine wpList_nil ?_
                      refine then_n ?_
                      refine hs.cond (.t rfl) (fun hb11 => ?_) (fun hb11 => ?_)
                      · try simp only [decide_eq_true_eq, decide_eq_false_iff_not, Bool.not_eq_true', Bool.not_eq_false', Bool.and_eq_true, Bool.or_eq_true, Bool.and_eq_false_iff, Bool.or_eq_false_iff, beq_iff_eq, bne_iff_ne, bne_eq_false_iff_eq, beq_eq_false_iff_ne, ne_eq, Int.not_lt, Int.not_le, Int.ofNat_lt, Int.ofNat_le] at hb11
                        refine wp_seq ?_
                        refine St.region ?_
                        refine hs.op rfl rfl rfl (ok_assign .c) fun I a w hs => ?_
                        refine wpList_nil ?_
                        refine then_n ?_
                        refine wp_ret ?_
                        refine then_r ?_
                        refine hs.ret rfl (.cons (.t rfl) ResL.nil) ?_
                        exact ret_bool (decide_eq_false (fun h => hb11 (by rw [h]))).symm
                      · try simp only [decide_eq_true_eq, decide_eq_false_iff_not, Bool.not_eq_true', Bool.not_eq_false', Bool.and_eq_true, Bool.or_eq_true, Bool.and_eq_false_iff, Bool.or_eq_false_iff, beq_iff_eq, bne_iff_ne, bne_eq_false_iff_eq, beq_eq_false_iff_ne, ne_eq, Int.not_lt, Int.not_le, Int.ofNat_lt, Int.ofNat_le] at hb11
                        refine wp_skip ?_
                        refine then_n ?_
                        refine wp_seq ?_
                        refine St.region ?_
                        refine hs.op rfl rfl rfl (ok_assign .c) fun I a w hs => ?_
                        refine wpList_nil ?_
                        refine then_n ?_
                        refine wp_ret ?_
                        refine hs.ret rfl (.cons (.t rfl) ResL.nil) ?_
                        exact ret_bool (decide_eq_true (Ev.ints_inj (by simp only [Ev.ints, hb1, hb2, hb3, hb4, hb5, hb6, hb7, hb8, hb9, hb10, hb11]))).symm

theorem c_spec_l45Names  :
    Fn Tryd.prog 25 [] (textsAV names) := by
  refine Fn.intro 2 Tryd.func25 rfl Tryd.ntmps25 rfl (by kernel_rfl) (fun W I a hs => ?_)
  refine wp_seq ?_
  refine St.region ?_
  refine hs.op rfl rfl rfl (ok_assign .c) fun I a w hs => ?_
  refine wpList_nil ?_
  refine then_n ?_
  refine wp_seq ?_
  refine St.region ?_
  refine hs.op rfl rfl rfl (ok_lit (lxs := [[AV.val (.string ⟨#[]⟩)], [AV.val (.string ⟨#[]⟩)], [AV.val (.string ⟨#[115, 101, 110, 100, 115]⟩)], [AV.val (.string ⟨#[103, 105, 118, 101, 115]⟩)], [AV.val (.string ⟨#[98, 114, 105, 110, 103, 115]⟩)], [AV.val (.string ⟨#[108, 111, 115, 101, 115]⟩)], [AV.val (.string ⟨#[102, 97, 108, 108, 115]⟩)], [AV.val (.string ⟨#[114, 105, 115, 101, 115]⟩)], [AV.val (.string ⟨#[116, 101, 110, 100, 115]⟩)], [AV.val (.string ⟨#[109, 111, 118, 101, 115]⟩)], [AV.val (.string ⟨#[112, 117, 116, 115]⟩)], [AV.val (.string ⟨#[114, 101, 97, 100, 115]⟩)], [AV.val (.string ⟨#[100, 111, 117, 98, 108, 101, 115]⟩)]]) un51 ty9 rfl zo9 rfl rfl (Parts.c rfl rfl .c (by first | exact one_val rfl | exact one_rows | exact one_ptr | exact one_fn) (Parts.c rfl rfl .c (by first | exact one_val rfl | exact one_rows | exact one_ptr | exact one_fn) (Parts.c rfl rfl .c (by first | exact one_val rfl | exact one_rows | exact one_ptr | exact one_fn) (Parts.c rfl rfl .c (by first | exact one_val rfl | exact one_rows | exact one_ptr | exact one_fn) (Parts.c rfl rfl .c (by first | exact one_val rfl | exact one_rows | exact one_ptr | exact one_fn) (Parts.c rfl rfl .c (by first | exact one_val rfl | exact one_rows | exact one_ptr | exact one_fn) (Parts.c rfl rfl .c (by first | exact one_val rfl | exact one_rows | exact one_ptr | exact one_fn) (Parts.c rfl rfl .c (by first | exact one_val rfl | exact one_rows | exact one_ptr | exact one_fn) (Parts.c rfl rfl .c (by first | exact one_val rfl | exact one_rows | exact one_ptr | exact one_fn) (Parts.c rfl rfl .c (by first | exact one_val rfl | exact one_rows | exact one_ptr | exact one_fn) (Parts.c rfl rfl .c (by first | exact one_val rfl | exact one_rows | exact one_ptr | exact one_fn) (Parts.c rfl rfl .c (by first | exact one_val rfl | exact one_rows | exact one_ptr | exact one_fn) (Parts.c rfl rfl .c (by first | exact one_val rfl | exact one_rows | exact one_ptr | exact one_fn) Parts.nil))))))))))))) rfl rfl (by simp)) fun I a w hs => ?_
  refine hs.op rfl rfl rfl (ok_assign (.t rfl)) fun I a w hs => ?_
  refine wpList_nil ?_
  refine then_n ?_
  refine wp_ret ?_
  refine hs.ret rfl (.cons (by first | exact .t rfl | exact .nil rfl) ResL.nil) ?_
  rfl


theorem leftOf_neg (n : Nat) : leftOf n < 0 ↔ 1048576 < n := by unfold leftOf; split <;> omega


def zeroEv : List AV := List.replicate 11 (.int 0)
def part1 (l : List Ev) (k : Nat) : List (List AV) := (l.take k).map Ev.cells ++ List.replicate (l.length - k) zeroEv
theorem part1_len {l : List Ev} {k : Nat} (h : k ≤ l.length) : (part1 l k).length = l.length := by simp [part1]; omega
theorem part1_zero (l : List Ev) : part1 l 0 = List.replicate l.length zeroEv := by simp [part1]
theorem part1_all {l : List Ev} {k : Nat} (h : l.length ≤ k) : part1 l k = l.map Ev.cells := by
  unfold part1; rw [List.take_of_length_le h, show l.length - k = 0 from by omega]; simp
theorem part1_get {l : List Ev} {k : Nat} (h : k < l.length) : (part1 l k)[k]? = some zeroEv := by
  unfold part1
  have e : ((l.take k).map Ev.cells).length = k := by simp; omega
  rw [List.getElem?_append_right (by omega), e, Nat.sub_self, List.getElem?_replicate, if_pos (by omega)]
theorem part1_set {l : List Ev} {k : Nat} (h : k < l.length) : (part1 l k).set k (elt l k).cells = part1 l (k + 1) := by
  unfold part1
  have e : ((l.take k).map Ev.cells).length = k := by simp; omega
  rw [List.set_append_right _ _ (by omega), e, Nat.sub_self, take_elt h, List.map_append, show l.length - k = (l.length - (k + 1)) + 1 from by omega, List.replicate_succ]
  simp

theorem c_laws_toNeckEventS (l : List Ev) (h : l.length ≤ 1048576) :
    Fn Tryd.prog 7 [evsAV l] (evsAV l) := by
  refine Fn.intro 23 Tryd.func7 rfl Tryd.ntmps7 rfl (by kernel_rfl) (fun W I a hs => ?_)
  refine wp_seq ?_
  refine St.region ?_
  refine hs.op rfl rfl rfl (ok_assign .c) fun I a w hs => ?_
  refine wpList_nil ?_
  refine then_n ?_
  refine wp_seq ?_
  refine St.region ?_
  refine hs.op rfl rfl rfl (ok_move (.t rfl)) fun I a w hs => ?_
  refine hs.op rfl rfl rfl ((by first | exact ok_lenM un22 (.t rfl) | exact ok_len un22 (.t rfl) | exact ok_lenV un22 (.t rfl))) fun I a w hs => ?_
  refine hs.make rfl un25 ty35 zc35 rfl (.t rfl) (.t rfl) (by omega) fun b7 a w hs => ?_
  change St _ _ ([] ++ [Own.row _ _ _ (List.replicate l.length zeroEv)]) _ _ _ at hs
  rw [← part1_zero] at hs
  refine hs.op rfl rfl rfl (ok_assign (.t rfl)) fun I a w hs => ?_
  refine wpList_nil ?_
  refine then_n ?_
  refine wp_seq ?_
  refine wp_seq ?_
  refine St.region ?_
  refine hs.op rfl rfl rfl (ok_assign .c) fun I a w hs => ?_
  refine wpList_nil ?_
  refine then_n ?_
  refine wp_block ?_
  refine St.loopS (σ := Nat) (4 :: 8 :: 9 :: 10 :: 11 :: 12 :: 13 :: 14 :: 15 :: 16 :: 17 :: 18 :: 19 :: 20 :: 21 :: []) ⟨fun k => [(4, AV.int k)], fun k => [Own.row (.slice (some ⟨b7, 0, none⟩) l.length l.length) 35 11 (part1 l k)], fun k => k ≤ l.length⟩ (fun k => l.length - k) 0 hs rfl ?ok1 ?env1 ?round1
  case ok1 => simp
  case env1 => exact (Env.le_consE rfl (by rfl) Env.le_nil)
  case round1 =>
    rintro k I a w hok hs
    have hk : k ≤ l.length := hok
    have hpl := part1_len hk
    change St _ _ [Own.row _ _ _ (part1 l k)] _ _ _ at hs
    rw [← hpl] at hs
    refine wp_seq ?_
    refine wp_seq ?_
    refine St.region ?_
    refine hs.op rfl rfl rfl (ok_move (.t rfl)) fun I a w hs => ?_
    refine hs.op rfl rfl rfl (ok_move (.t rfl)) fun I a w hs => ?_
    refine hs.op rfl rfl rfl ((by first | exact ok_lenM un22 (.t rfl) | exact ok_len un22 (.t rfl) | exact ok_lenV un22 (.t rfl))) fun I a w hs => ?_
    refine hs.op rfl rfl rfl (ok_lss (.t rfl) (.t rfl)) fun I a w hs => ?_
    refine wpList_nil ?_
    refine then_n ?_
    refine hs.cond (.t rfl) (fun hb1 => ?_) (fun hb1 => ?_)
    · try simp only [decide_eq_true_eq, decide_eq_false_iff_not, Bool.not_eq_true', Bool.not_eq_false', Bool.and_eq_true, Bool.or_eq_true, Bool.and_eq_false_iff, Bool.or_eq_false_iff, beq_iff_eq, bne_iff_ne, bne_eq_false_iff_eq, beq_eq_false_iff_ne, ne_eq, Int.not_lt, Int.not_le, Int.ofNat_lt, Int.ofNat_le] at hb1
      refine wp_skip ?_
      refine then_n ?_
      refine wp_seq ?_
      refine wp_block ?_
      refine St.region ?_
      refine hs.op rfl rfl rfl (ok_move (.t rfl)) fun I a w hs => ?_
      refine hs.op rfl rfl rfl (ok_move (.t rfl)) fun I a w hs => ?_
      refine hs.op rfl rfl rfl (ok_move (.t rfl)) fun I a w hs => ?_
      refine hs.op rfl rfl rfl (ok_move (.t rfl)) fun I a w hs => ?_
      refine hs.op rfl rfl rfl ((by first | exact ok_idxN un22 ty39 (.t rfl) (.t rfl) (fun _ => by simpa using hb1) | exact ok_idxM un22 ty39 (.t rfl) (.t rfl) (fun _ => by simpa using hb1) | exact ok_idx un22 ty39 (.t rfl) (.t rfl) (fun _ => by simpa using hb1))) fun I a w hs => ?_
      refine hs.op rfl rfl rfl ((by first | exact ok_loadA ty39 (.t rfl) rfl | exact ok_loadS ty39 (.t rfl) rfl)) fun I a w hs => ?_
      refine hs.op rfl rfl rfl (ok_call (c_laws_toNeckEvent ..) (args_cons (.t rfl) args_nil)) fun I a w hs => ?_
      refine hs.op rfl rfl rfl (ok_idxO un25 ty35 (.t rfl) (.t rfl) (fun _ => by omega)) fun I a w hs => ?_
      refine hs.storeRS 0 ty35 (.t rfl) (.t rfl) rfl (by exact part1_get hb1) rfl rfl fun a w hs => ?_
      refine wpList_nil ?_
      refine block_n ?_
      refine then_n ?_
      refine St.region ?_
      refine hs.op rfl rfl rfl (ok_move (.t rfl)) fun I a w hs => ?_
      refine hs.op rfl rfl rfl (ok_add (.t rfl) .c (fun _ => by omega)) fun I a w hs => ?_
      refine hs.op rfl rfl rfl (ok_assign (.t rfl)) fun I a w hs => ?_
      refine wpList_nil ?_
      refine then_n ?_
      simp only [hpl, Int.toNat_natCast, List.set_cons_zero, part1_set hb1] at hs
      refine hs.again (k + 1) ?mu1 ?ok1001 (by rfl) ?env1001 (by repeat (first | exact Env.le_rfl | refine Env.le_push rfl ?_))
      case mu1 => omega
      case ok1001 => exact hb1
      case env1001 => exact (Env.le_consE rfl (by first | rfl | (congr 1; done)) Env.le_nil)
    · try simp only [decide_eq_true_eq, decide_eq_false_iff_not, Bool.not_eq_true', Bool.not_eq_false', Bool.and_eq_true, Bool.or_eq_true, Bool.and_eq_false_iff, Bool.or_eq_false_iff, beq_iff_eq, bne_iff_ne, bne_eq_false_iff_eq, beq_eq_false_iff_ne, ne_eq, Int.not_lt, Int.not_le, Int.ofNat_lt, Int.ofNat_le] at hb1
      refine wp_exit ?_
      refine then_x ?_
      refine then_x ?_
      refine block_hit ?_
      refine then_n ?_
      refine wp_seq ?_
      refine St.region ?_
      refine hs.op rfl rfl rfl (ok_move (.t rfl)) fun I a w hs => ?_
      refine hs.op rfl rfl rfl (ok_assign (.t rfl)) fun I a w hs => ?_
      refine wpList_nil ?_
      refine then_n ?_
      refine wp_ret ?_
      rw [part1_all (by omega)] at hs
      rw [← hpl] at hs
      obtain ⟨I, hs, hf⟩ := hs.freezeRow 0 rfl
      have hs := hs.upd (t := 2) rfl hf
      refine hs.ret rfl (.cons (by first | exact .t rfl | exact .nil rfl) ResL.nil) ?_
      rfl

end Go.Proofs.YtblcocjbnjfhkaaDoor
