/- Walks: the reference writes. -/
import Derived.Test.YtblcocjbnjfhkaaDoorWalk4
set_option linter.unusedVariables false
set_option linter.unusedSimpArgs false
set_option maxRecDepth 100000
namespace Go.Proofs.YtblcocjbnjfhkaaDoor
open Go Go.RowKit


theorem elt_names (k : Nat) : elt names k = names.getD k [] := rfl
theorem lineB_unfold (e : Ev) : lineB e =
    if e.kind = 1 then (if e.call = 1 then elt names 10 ++ [32] ++ dec e.client ++ [32] ++ dec e.a ++ [32] ++ dec e.val else elt names 11 ++ [32] ++ dec e.client ++ [32] ++ dec e.a ++ [32] ++ dec e.b ++ [32] ++ dec e.c)
    else if e.kind = 2 then elt names e.kind.toNat ++ [32] ++ dec e.client else if e.kind = 3 then elt names e.kind.toNat ++ [32] ++ dec e.client
    else if e.kind = 4 then (if e.keep = 1 then elt names 12 ++ [32] ++ dec e.word else elt names 4 ++ [32] ++ dec e.word)
    else if e.kind = 5 then elt names 5 ++ [32] ++ dec e.word else if e.kind = 6 then elt names e.kind.toNat ++ [32] ++ dec e.at_ else if e.kind = 7 then elt names e.kind.toNat ++ [32] ++ dec e.at_ else if e.kind = 8 then elt names e.kind.toNat ++ [32] ++ dec e.at_
    else if e.kind = 9 then elt names 9 ++ [32] ++ dec e.at_ ++ [32] ++ dec e.slot else [] := by
  simp only [elt_names]
  by_cases h1 : e.kind = 1
  · by_cases h2 : e.call = 1 <;> simp [lineB, evK, h1, h2, lineOf, fieldsB]
  by_cases h4 : e.kind = 4
  · by_cases h2 : e.keep = 1 <;> simp [lineB, evK, h4, h2, lineOf, fieldsB]
  by_cases h2 : e.kind = 2
  · simp [lineB, evK, h2, lineOf, fieldsB]
  by_cases h3 : e.kind = 3
  · simp [lineB, evK, h3, lineOf, fieldsB]
  by_cases h5 : e.kind = 5
  · simp [lineB, evK, h5, lineOf, fieldsB]
  by_cases h6 : e.kind = 6
  · simp [lineB, evK, h6, lineOf, fieldsB]
  by_cases h7 : e.kind = 7
  · simp [lineB, evK, h7, lineOf, fieldsB]
  by_cases h8 : e.kind = 8
  · simp [lineB, evK, h8, lineOf, fieldsB]
  by_cases h9 : e.kind = 9
  · simp [lineB, evK, h9, lineOf, fieldsB]
  simp [lineB, evK, h1, h2, h3, h4, h5, h6, h7, h8, h9]

theorem c_spec_l45Line (e : Ev) (h : e.Fit) :
    Fn Tryd.prog 14 [e.av] (AV.text (lineB e)) := by
  refine Fn.intro 126 Tryd.func14 rfl Tryd.ntmps14 rfl (by kernel_rfl) (fun W I a hs => ?_)
  have hfit : ∀ x, x ∈ e.ints → i64r x := h
  simp only [Ev.ints, List.mem_cons, List.not_mem_nil, or_false] at hfit
  have d_kind := dec_len (hfit e.kind (by simp))
  have d_at_ := dec_len (hfit e.at_ (by simp))
  have d_client := dec_len (hfit e.client (by simp))
  have d_word := dec_len (hfit e.word (by simp))
  have d_keep := dec_len (hfit e.keep (by simp))
  have d_slot := dec_len (hfit e.slot (by simp))
  have d_call := dec_len (hfit e.call (by simp))
  have d_a := dec_len (hfit e.a (by simp))
  have d_b := dec_len (hfit e.b (by simp))
  have d_c := dec_len (hfit e.c (by simp))
  have d_val := dec_len (hfit e.val (by simp))
  have nl := names_le
  refine wp_seq ?_
  refine St.region ?_
  refine hs.op rfl rfl rfl (ok_boxP (.t rfl)) fun I a w hs => ?_
  refine hs.op rfl rfl rfl (ok_assign .c) fun I a w hs => ?_
  refine wpList_nil ?_
  refine then_n ?_
  refine wp_seq ?_
  refine St.region ?_
  refine hs.op rfl rfl rfl (ok_call (c_spec_l45Names ..) args_nil) fun I a w hs => ?_
  refine hs.op rfl rfl rfl (ok_assign (.t rfl)) fun I a w hs => ?_
  refine wpList_nil ?_
  refine then_n ?_
  refine wp_seq ?_
  refine wp_seq ?_
  refine St.region ?_
  refine hs.op rfl rfl rfl (ok_fieldP fd35_0 rfl (.t rfl)) fun I a w hs => ?_
  refine hs.op rfl rfl rfl (ok_load1 ty3 (.t rfl)) fun I a w hs => ?_
  refine wpList_nil ?_
  refine then_n ?_
  refine wp_block ?_
  refine wp_seq ?_
  refine St.region ?_
  refine hs.op rfl rfl rfl (ok_eqi (.t rfl) .c) fun I a w hs => ?_
  refine hs.op rfl rfl rfl (ok_assign (.t rfl)) fun I a w hs => ?_
  refine wpList_nil ?_
  refine then_n ?_
  refine hs.cond (.t rfl) (fun hb1 => ?_) (fun hb1 => ?_)
  · try simp only [decide_eq_true_eq, decide_eq_false_iff_not, Bool.not_eq_true', Bool.not_eq_false', Bool.and_eq_true, Bool.or_eq_true, Bool.and_eq_false_iff, Bool.or_eq_false_iff, beq_iff_eq, bne_iff_ne, bne_eq_false_iff_eq, beq_eq_false_iff_ne, ne_eq, Int.not_lt, Int.not_le, Int.ofNat_lt, Int.ofNat_le] at hb1
    refine wp_seq ?_
    refine wp_seq ?_
    refine St.region ?_
    refine hs.op rfl rfl rfl (ok_fieldP fd35_6 rfl (.t rfl)) fun I a w hs => ?_
    refine hs.op rfl rfl rfl (ok_load1 ty3 (.t rfl)) fun I a w hs => ?_
    refine hs.op rfl rfl rfl (ok_eqi (.t rfl) .c) fun I a w hs => ?_
    refine wpList_nil ?_
    refine then_n ?_
    refine hs.cond (.t rfl) (fun hb2 => ?_) (fun hb2 => ?_)
    · try simp only [decide_eq_true_eq, decide_eq_false_iff_not, Bool.not_eq_true', Bool.not_eq_false', Bool.and_eq_true, Bool.or_eq_true, Bool.and_eq_false_iff, Bool.or_eq_false_iff, beq_iff_eq, bne_iff_ne, bne_eq_false_iff_eq, beq_eq_false_iff_ne, ne_eq, Int.not_lt, Int.not_le, Int.ofNat_lt, Int.ofNat_le] at hb2
      refine wp_seq ?_
      refine hs.drawK (by kernel_rfl) (by kernel_rfl) rfl ?_
      refine RunK.cons (.of rfl (ok_move (.t rfl))) ?_
      refine RunK.cons (.of rfl ((by first | exact ok_idxN un51 ty9 (.t rfl) .c (fun _ => by rw [names_len]; omega) | exact ok_idxM un51 ty9 (.t rfl) .c (fun _ => by rw [names_len]; omega) | exact ok_idx un51 ty9 (.t rfl) .c (fun _ => by rw [names_len]; omega)))) ?_
      refine RunK.cons (.of rfl (ok_load1 ty9 (.t rfl))) ?_
      refine RunK.cons (.of rfl (ok_cat (.t rfl) .c (fun _ => by (try simp only [List.length_append, List.length_cons, List.length_nil]); have n10 := nl 10; have n11 := nl 11; have n12 := nl 12; have n4 := nl 4; have n5 := nl 5; have n9 := nl 9; have nk := nl e.kind.toNat; (try simp only [show ((10 : Int)).toNat = 10 from rfl, show ((11 : Int)).toNat = 11 from rfl, show ((12 : Int)).toNat = 12 from rfl, show ((4 : Int)).toNat = 4 from rfl, show ((5 : Int)).toNat = 5 from rfl, show ((9 : Int)).toNat = 9 from rfl]); omega))) ?_
      refine RunK.cons (.of rfl (ok_fieldP fd35_2 rfl (.t rfl))) ?_
      refine RunK.cons (.of rfl (ok_load1 ty3 (.t rfl))) ?_
      refine RunK.cons (.of rfl (ok_call (c_spec_l6Dec _ (hfit _ (by simp))) (args_cons (.t rfl) args_nil))) ?_
      refine RunK.cons (.of rfl (ok_cat (.t rfl) (.t rfl) (fun _ => by (try simp only [List.length_append, List.length_cons, List.length_nil]); have n10 := nl 10; have n11 := nl 11; have n12 := nl 12; have n4 := nl 4; have n5 := nl 5; have n9 := nl 9; have nk := nl e.kind.toNat; (try simp only [show ((10 : Int)).toNat = 10 from rfl, show ((11 : Int)).toNat = 11 from rfl, show ((12 : Int)).toNat = 12 from rfl, show ((4 : Int)).toNat = 4 from rfl, show ((5 : Int)).toNat = 5 from rfl, show ((9 : Int)).toNat = 9 from rfl]); omega))) ?_
      refine RunK.cons (.of rfl (ok_cat (.t rfl) .c (fun _ => by (try simp only [List.length_append, List.length_cons, List.length_nil]); have n10 := nl 10; have n11 := nl 11; have n12 := nl 12; have n4 := nl 4; have n5 := nl 5; have n9 := nl 9; have nk := nl e.kind.toNat; (try simp only [show ((10 : Int)).toNat = 10 from rfl, show ((11 : Int)).toNat = 11 from rfl, show ((12 : Int)).toNat = 12 from rfl, show ((4 : Int)).toNat = 4 from rfl, show ((5 : Int)).toNat = 5 from rfl, show ((9 : Int)).toNat = 9 from rfl]); omega))) ?_
      refine RunK.cons (.of rfl (ok_fieldP fd35_7 rfl (.t rfl))) ?_
      refine RunK.cons (.of rfl (ok_load1 ty3 (.t rfl))) ?_
      refine RunK.cons (.of rfl (ok_call (c_spec_l6Dec _ (hfit _ (by simp))) (args_cons (.t rfl) args_nil))) ?_
      refine RunK.cons (.of rfl (ok_cat (.t rfl) (.t rfl) (fun _ => by (try simp only [List.length_append, List.length_cons, List.length_nil]); have n10 := nl 10; have n11 := nl 11; have n12 := nl 12; have n4 := nl 4; have n5 := nl 5; have n9 := nl 9; have nk := nl e.kind.toNat; (try simp only [show ((10 : Int)).toNat = 10 from rfl, show ((11 : Int)).toNat = 11 from rfl, show ((12 : Int)).toNat = 12 from rfl, show ((4 : Int)).toNat = 4 from rfl, show ((5 : Int)).toNat = 5 from rfl, show ((9 : Int)).toNat = 9 from rfl]); omega))) ?_
      refine RunK.cons (.of rfl (ok_cat (.t rfl) .c (fun _ => by (try simp only [List.length_append, List.length_cons, List.length_nil]); have n10 := nl 10; have n11 := nl 11; have n12 := nl 12; have n4 := nl 4; have n5 := nl 5; have n9 := nl 9; have nk := nl e.kind.toNat; (try simp only [show ((10 : Int)).toNat = 10 from rfl, show ((11 : Int)).toNat = 11 from rfl, show ((12 : Int)).toNat = 12 from rfl, show ((4 : Int)).toNat = 4 from rfl, show ((5 : Int)).toNat = 5 from rfl, show ((9 : Int)).toNat = 9 from rfl]); omega))) ?_
      refine RunK.cons (.of rfl (ok_fieldP fd35_10 rfl (.t rfl))) ?_
      refine RunK.cons (.of rfl (ok_load1 ty3 (.t rfl))) ?_
      refine RunK.cons (.of rfl (ok_call (c_spec_l6Dec _ (hfit _ (by simp))) (args_cons (.t rfl) args_nil))) ?_
      refine RunK.cons (.of rfl (ok_cat (.t rfl) (.t rfl) (fun _ => by (try simp only [List.length_append, List.length_cons, List.length_nil]); have n10 := nl 10; have n11 := nl 11; have n12 := nl 12; have n4 := nl 4; have n5 := nl 5; have n9 := nl 9; have nk := nl e.kind.toNat; (try simp only [show ((10 : Int)).toNat = 10 from rfl, show ((11 : Int)).toNat = 11 from rfl, show ((12 : Int)).toNat = 12 from rfl, show ((4 : Int)).toNat = 4 from rfl, show ((5 : Int)).toNat = 5 from rfl, show ((9 : Int)).toNat = 9 from rfl]); omega))) ?_
      refine RunK.cons (.of rfl (ok_assign (.t rfl))) ?_
      refine RunK.nil ?_
      intro I a w hs
      refine then_n ?_
      refine wp_ret ?_
      refine then_r ?_
      refine block_r ?_
      refine then_r ?_
      refine hs.ret rfl (.cons (.t rfl) ResL.nil) ?_
      first | (exfalso; omega) | (refine ret_av (congrArg AV.text ?_); rw [lineB_unfold]; (repeat (first | rw [if_pos (by omega)] | rw [if_neg (by omega)])) <;> rfl)
    · try simp only [decide_eq_true_eq, decide_eq_false_iff_not, Bool.not_eq_true', Bool.not_eq_false', Bool.and_eq_true, Bool.or_eq_true, Bool.and_eq_false_iff, Bool.or_eq_false_iff, beq_iff_eq, bne_iff_ne, bne_eq_false_iff_eq, beq_eq_false_iff_ne, ne_eq, Int.not_lt, Int.not_le, Int.ofNat_lt, Int.ofNat_le] at hb2
      refine wp_skip ?_
      refine then_n ?_
      refine wp_seq ?_
      refine hs.drawK (by kernel_rfl) (by kernel_rfl) rfl ?_
      refine RunK.cons (.of rfl (ok_move (.t rfl))) ?_
      refine RunK.cons (.of rfl ((by first | exact ok_idxN un51 ty9 (.t rfl) .c (fun _ => by rw [names_len]; omega) | exact ok_idxM un51 ty9 (.t rfl) .c (fun _ => by rw [names_len]; omega) | exact ok_idx un51 ty9 (.t rfl) .c (fun _ => by rw [names_len]; omega)))) ?_
      refine RunK.cons (.of rfl (ok_load1 ty9 (.t rfl))) ?_
      refine RunK.cons (.of rfl (ok_cat (.t rfl) .c (fun _ => by (try simp only [List.length_append, List.length_cons, List.length_nil]); have n10 := nl 10; have n11 := nl 11; have n12 := nl 12; have n4 := nl 4; have n5 := nl 5; have n9 := nl 9; have nk := nl e.kind.toNat; (try simp only [show ((10 : Int)).toNat = 10 from rfl, show ((11 : Int)).toNat = 11 from rfl, show ((12 : Int)).toNat = 12 from rfl, show ((4 : Int)).toNat = 4 from rfl, show ((5 : Int)).toNat = 5 from rfl, show ((9 : Int)).toNat = 9 from rfl]); omega))) ?_
      refine RunK.cons (.of rfl (ok_fieldP fd35_2 rfl (.t rfl))) ?_
      refine RunK.cons (.of rfl (ok_load1 ty3 (.t rfl))) ?_
      refine RunK.cons (.of rfl (ok_call (c_spec_l6Dec _ (hfit _ (by simp))) (args_cons (.t rfl) args_nil))) ?_
      refine RunK.cons (.of rfl (ok_cat (.t rfl) (.t rfl) (fun _ => by (try simp only [List.length_append, List.length_cons, List.length_nil]); have n10 := nl 10; have n11 := nl 11; have n12 := nl 12; have n4 := nl 4; have n5 := nl 5; have n9 := nl 9; have nk := nl e.kind.toNat; (try simp only [show ((10 : Int)).toNat = 10 from rfl, show ((11 : Int)).toNat = 11 from rfl, show ((12 : Int)).toNat = 12 from rfl, show ((4 : Int)).toNat = 4 from rfl, show ((5 : Int)).toNat = 5 from rfl, show ((9 : Int)).toNat = 9 from rfl]); omega))) ?_
      refine RunK.cons (.of rfl (ok_cat (.t rfl) .c (fun _ => by (try simp only [List.length_append, List.length_cons, List.length_nil]); have n10 := nl 10; have n11 := nl 11; have n12 := nl 12; have n4 := nl 4; have n5 := nl 5; have n9 := nl 9; have nk := nl e.kind.toNat; (try simp only [show ((10 : Int)).toNat = 10 from rfl, show ((11 : Int)).toNat = 11 from rfl, show ((12 : Int)).toNat = 12 from rfl, show ((4 : Int)).toNat = 4 from rfl, show ((5 : Int)).toNat = 5 from rfl, show ((9 : Int)).toNat = 9 from rfl]); omega))) ?_
      refine RunK.cons (.of rfl (ok_fieldP fd35_7 rfl (.t rfl))) ?_
      refine RunK.cons (.of rfl (ok_load1 ty3 (.t rfl))) ?_
      refine RunK.cons (.of rfl (ok_call (c_spec_l6Dec _ (hfit _ (by simp))) (args_cons (.t rfl) args_nil))) ?_
      refine RunK.cons (.of rfl (ok_cat (.t rfl) (.t rfl) (fun _ => by (try simp only [List.length_append, List.length_cons, List.length_nil]); have n10 := nl 10; have n11 := nl 11; have n12 := nl 12; have n4 := nl 4; have n5 := nl 5; have n9 := nl 9; have nk := nl e.kind.toNat; (try simp only [show ((10 : Int)).toNat = 10 from rfl, show ((11 : Int)).toNat = 11 from rfl, show ((12 : Int)).toNat = 12 from rfl, show ((4 : Int)).toNat = 4 from rfl, show ((5 : Int)).toNat = 5 from rfl, show ((9 : Int)).toNat = 9 from rfl]); omega))) ?_
      refine RunK.cons (.of rfl (ok_cat (.t rfl) .c (fun _ => by (try simp only [List.length_append, List.length_cons, List.length_nil]); have n10 := nl 10; have n11 := nl 11; have n12 := nl 12; have n4 := nl 4; have n5 := nl 5; have n9 := nl 9; have nk := nl e.kind.toNat; (try simp only [show ((10 : Int)).toNat = 10 from rfl, show ((11 : Int)).toNat = 11 from rfl, show ((12 : Int)).toNat = 12 from rfl, show ((4 : Int)).toNat = 4 from rfl, show ((5 : Int)).toNat = 5 from rfl, show ((9 : Int)).toNat = 9 from rfl]); omega))) ?_
      refine RunK.cons (.of rfl (ok_fieldP fd35_8 rfl (.t rfl))) ?_
      refine RunK.cons (.of rfl (ok_load1 ty3 (.t rfl))) ?_
      refine RunK.cons (.of rfl (ok_call (c_spec_l6Dec _ (hfit _ (by simp))) (args_cons (.t rfl) args_nil))) ?_
      refine RunK.cons (.of rfl (ok_cat (.t rfl) (.t rfl) (fun _ => by (try simp only [List.length_append, List.length_cons, List.length_nil]); have n10 := nl 10; have n11 := nl 11; have n12 := nl 12; have n4 := nl 4; have n5 := nl 5; have n9 := nl 9; have nk := nl e.kind.toNat; (try simp only [show ((10 : Int)).toNat = 10 from rfl, show ((11 : Int)).toNat = 11 from rfl, show ((12 : Int)).toNat = 12 from rfl, show ((4 : Int)).toNat = 4 from rfl, show ((5 : Int)).toNat = 5 from rfl, show ((9 : Int)).toNat = 9 from rfl]); omega))) ?_
      refine RunK.cons (.of rfl (ok_cat (.t rfl) .c (fun _ => by (try simp only [List.length_append, List.length_cons, List.length_nil]); have n10 := nl 10; have n11 := nl 11; have n12 := nl 12; have n4 := nl 4; have n5 := nl 5; have n9 := nl 9; have nk := nl e.kind.toNat; (try simp only [show ((10 : Int)).toNat = 10 from rfl, show ((11 : Int)).toNat = 11 from rfl, show ((12 : Int)).toNat = 12 from rfl, show ((4 : Int)).toNat = 4 from rfl, show ((5 : Int)).toNat = 5 from rfl, show ((9 : Int)).toNat = 9 from rfl]); omega))) ?_
      refine RunK.cons (.of rfl (ok_fieldP fd35_9 rfl (.t rfl))) ?_
      refine RunK.cons (.of rfl (ok_load1 ty3 (.t rfl))) ?_
      refine RunK.cons (.of rfl (ok_call (c_spec_l6Dec _ (hfit _ (by simp))) (args_cons (.t rfl) args_nil))) ?_
      refine RunK.cons (.of rfl (ok_cat (.t rfl) (.t rfl) (fun _ => by (try simp only [List.length_append, List.length_cons, List.length_nil]); have n10 := nl 10; have n11 := nl 11; have n12 := nl 12; have n4 := nl 4; have n5 := nl 5; have n9 := nl 9; have nk := nl e.kind.toNat; (try simp only [show ((10 : Int)).toNat = 10 from rfl, show ((11 : Int)).toNat = 11 from rfl, show ((12 : Int)).toNat = 12 from rfl, show ((4 : Int)).toNat = 4 from rfl, show ((5 : Int)).toNat = 5 from rfl, show ((9 : Int)).toNat = 9 from rfl]); omega))) ?_
      refine RunK.cons (.of rfl (ok_assign (.t rfl))) ?_
      refine RunK.nil ?_
      intro I a w hs
      refine then_n ?_
      refine wp_ret ?_
      refine block_r ?_
      refine then_r ?_
      refine hs.ret rfl (.cons (.t rfl) ResL.nil) ?_
      first | (exfalso; omega) | (refine ret_av (congrArg AV.text ?_); rw [lineB_unfold]; (repeat (first | rw [if_pos (by omega)] | rw [if_neg (by omega)])) <;> rfl)
  · try simp only [decide_eq_true_eq, decide_eq_false_iff_not, Bool.not_eq_true', Bool.not_eq_false', Bool.and_eq_true, Bool.or_eq_true, Bool.and_eq_false_iff, Bool.or_eq_false_iff, beq_iff_eq, bne_iff_ne, bne_eq_false_iff_eq, beq_eq_false_iff_ne, ne_eq, Int.not_lt, Int.not_le, Int.ofNat_lt, Int.ofNat_le] at hb1
    refine wp_seq ?_
    refine wp_seq ?_
    refine St.region ?_
    refine hs.op rfl rfl rfl (ok_eqi (.t rfl) .c) fun I a w hs => ?_
    refine hs.op rfl rfl rfl (ok_assign (.t rfl)) fun I a w hs => ?_
    refine wpList_nil ?_
    refine then_n ?_
    refine hs.cond (.t rfl) (fun hb3 => ?_) (fun hb3 => ?_)
    · try simp only [decide_eq_true_eq, decide_eq_false_iff_not, Bool.not_eq_true', Bool.not_eq_false', Bool.and_eq_true, Bool.or_eq_true, Bool.and_eq_false_iff, Bool.or_eq_false_iff, beq_iff_eq, bne_iff_ne, bne_eq_false_iff_eq, beq_eq_false_iff_ne, ne_eq, Int.not_lt, Int.not_le, Int.ofNat_lt, Int.ofNat_le] at hb3
      refine wp_skip ?_
      refine then_n ?_
      refine hs.cond (.t rfl) (fun hb4 => ?_) (fun hb4 => ?_)
      · try simp only [decide_eq_true_eq, decide_eq_false_iff_not, Bool.not_eq_true', Bool.not_eq_false', Bool.and_eq_true, Bool.or_eq_true, Bool.and_eq_false_iff, Bool.or_eq_false_iff, beq_iff_eq, bne_iff_ne, bne_eq_false_iff_eq, beq_eq_false_iff_ne, ne_eq, Int.not_lt, Int.not_le, Int.ofNat_lt, Int.ofNat_le] at hb4
        refine wp_seq ?_
        refine hs.drawK (by kernel_rfl) (by kernel_rfl) rfl ?_
        refine RunK.cons (.of rfl (ok_move (.t rfl))) ?_
        refine RunK.cons (.of rfl (ok_fieldP fd35_0 rfl (.t rfl))) ?_
        refine RunK.cons (.of rfl (ok_load1 ty3 (.t rfl))) ?_
        refine RunK.cons (.of rfl ((by first | exact ok_idxN un51 ty9 (.t rfl) (.t rfl) (fun _ => by rw [names_len]; omega) | exact ok_idxM un51 ty9 (.t rfl) (.t rfl) (fun _ => by rw [names_len]; omega) | exact ok_idx un51 ty9 (.t rfl) (.t rfl) (fun _ => by rw [names_len]; omega)))) ?_
        refine RunK.cons (.of rfl (ok_load1 ty9 (.t rfl))) ?_
        refine RunK.cons (.of rfl (ok_cat (.t rfl) .c (fun _ => by (try simp only [List.length_append, List.length_cons, List.length_nil]); have n10 := nl 10; have n11 := nl 11; have n12 := nl 12; have n4 := nl 4; have n5 := nl 5; have n9 := nl 9; have nk := nl e.kind.toNat; (try simp only [show ((10 : Int)).toNat = 10 from rfl, show ((11 : Int)).toNat = 11 from rfl, show ((12 : Int)).toNat = 12 from rfl, show ((4 : Int)).toNat = 4 from rfl, show ((5 : Int)).toNat = 5 from rfl, show ((9 : Int)).toNat = 9 from rfl]); omega))) ?_
        refine RunK.cons (.of rfl (ok_fieldP fd35_2 rfl (.t rfl))) ?_
        refine RunK.cons (.of rfl (ok_load1 ty3 (.t rfl))) ?_
        refine RunK.cons (.of rfl (ok_call (c_spec_l6Dec _ (hfit _ (by simp))) (args_cons (.t rfl) args_nil))) ?_
        refine RunK.cons (.of rfl (ok_cat (.t rfl) (.t rfl) (fun _ => by (try simp only [List.length_append, List.length_cons, List.length_nil]); have n10 := nl 10; have n11 := nl 11; have n12 := nl 12; have n4 := nl 4; have n5 := nl 5; have n9 := nl 9; have nk := nl e.kind.toNat; (try simp only [show ((10 : Int)).toNat = 10 from rfl, show ((11 : Int)).toNat = 11 from rfl, show ((12 : Int)).toNat = 12 from rfl, show ((4 : Int)).toNat = 4 from rfl, show ((5 : Int)).toNat = 5 from rfl, show ((9 : Int)).toNat = 9 from rfl]); omega))) ?_
        refine RunK.cons (.of rfl (ok_assign (.t rfl))) ?_
        refine RunK.nil ?_
        intro I a w hs
        refine then_n ?_
        refine wp_ret ?_
        refine block_r ?_
        refine then_r ?_
        refine hs.ret rfl (.cons (.t rfl) ResL.nil) ?_
        first | (exfalso; omega) | (refine ret_av (congrArg AV.text ?_); rw [lineB_unfold]; (repeat (first | rw [if_pos (by omega)] | rw [if_neg (by omega)])) <;> rfl)
      · try simp only [decide_eq_true_eq, decide_eq_false_iff_not, Bool.not_eq_true', Bool.not_eq_false', Bool.and_eq_true, Bool.or_eq_true, Bool.and_eq_false_iff, Bool.or_eq_false_iff, beq_iff_eq, bne_iff_ne, bne_eq_false_iff_eq, beq_eq_false_iff_ne, ne_eq, Int.not_lt, Int.not_le, Int.ofNat_lt, Int.ofNat_le] at hb4
        refine wp_seq ?_
        refine St.region ?_
        refine hs.op rfl rfl rfl (ok_eqi (.t rfl) .c) fun I a w hs => ?_
        refine hs.op rfl rfl rfl (ok_assign (.t rfl)) fun I a w hs => ?_
        refine wpList_nil ?_
        refine then_n ?_
        refine hs.cond (.t rfl) (fun hb5 => ?_) (fun hb5 => ?_)
        · try simp only [decide_eq_true_eq, decide_eq_false_iff_not, Bool.not_eq_true', Bool.not_eq_false', Bool.and_eq_true, Bool.or_eq_true, Bool.and_eq_false_iff, Bool.or_eq_false_iff, beq_iff_eq, bne_iff_ne, bne_eq_false_iff_eq, beq_eq_false_iff_ne, ne_eq, Int.not_lt, Int.not_le, Int.ofNat_lt, Int.ofNat_le] at hb5
          refine wp_seq ?_
          refine wp_seq ?_
          refine St.region ?_
          refine hs.op rfl rfl rfl (ok_fieldP fd35_4 rfl (.t rfl)) fun I a w hs => ?_
          refine hs.op rfl rfl rfl (ok_load1 ty3 (.t rfl)) fun I a w hs => ?_
          refine hs.op rfl rfl rfl (ok_eqi (.t rfl) .c) fun I a w hs => ?_
          refine wpList_nil ?_
          refine then_n ?_
          refine hs.cond (.t rfl) (fun hb6 => ?_) (fun hb6 => ?_)
          · try simp only [decide_eq_true_eq, decide_eq_false_iff_not, Bool.not_eq_true', Bool.not_eq_false', Bool.and_eq_true, Bool.or_eq_true, Bool.and_eq_false_iff, Bool.or_eq_false_iff, beq_iff_eq, bne_iff_ne, bne_eq_false_iff_eq, beq_eq_false_iff_ne, ne_eq, Int.not_lt, Int.not_le, Int.ofNat_lt, Int.ofNat_le] at hb6
            refine wp_seq ?_
            refine hs.drawK (by kernel_rfl) (by kernel_rfl) rfl ?_
            refine RunK.cons (.of rfl (ok_move (.t rfl))) ?_
            refine RunK.cons (.of rfl ((by first | exact ok_idxN un51 ty9 (.t rfl) .c (fun _ => by rw [names_len]; omega) | exact ok_idxM un51 ty9 (.t rfl) .c (fun _ => by rw [names_len]; omega) | exact ok_idx un51 ty9 (.t rfl) .c (fun _ => by rw [names_len]; omega)))) ?_
            refine RunK.cons (.of rfl (ok_load1 ty9 (.t rfl))) ?_
            refine RunK.cons (.of rfl (ok_cat (.t rfl) .c (fun _ => by (try simp only [List.length_append, List.length_cons, List.length_nil]); have n10 := nl 10; have n11 := nl 11; have n12 := nl 12; have n4 := nl 4; have n5 := nl 5; have n9 := nl 9; have nk := nl e.kind.toNat; (try simp only [show ((10 : Int)).toNat = 10 from rfl, show ((11 : Int)).toNat = 11 from rfl, show ((12 : Int)).toNat = 12 from rfl, show ((4 : Int)).toNat = 4 from rfl, show ((5 : Int)).toNat = 5 from rfl, show ((9 : Int)).toNat = 9 from rfl]); omega))) ?_
            refine RunK.cons (.of rfl (ok_fieldP fd35_3 rfl (.t rfl))) ?_
            refine RunK.cons (.of rfl (ok_load1 ty3 (.t rfl))) ?_
            refine RunK.cons (.of rfl (ok_call (c_spec_l6Dec _ (hfit _ (by simp))) (args_cons (.t rfl) args_nil))) ?_
            refine RunK.cons (.of rfl (ok_cat (.t rfl) (.t rfl) (fun _ => by (try simp only [List.length_append, List.length_cons, List.length_nil]); have n10 := nl 10; have n11 := nl 11; have n12 := nl 12; have n4 := nl 4; have n5 := nl 5; have n9 := nl 9; have nk := nl e.kind.toNat; (try simp only [show ((10 : Int)).toNat = 10 from rfl, show ((11 : Int)).toNat = 11 from rfl, show ((12 : Int)).toNat = 12 from rfl, show ((4 : Int)).toNat = 4 from rfl, show ((5 : Int)).toNat = 5 from rfl, show ((9 : Int)).toNat = 9 from rfl]); omega))) ?_
            refine RunK.cons (.of rfl (ok_assign (.t rfl))) ?_
            refine RunK.nil ?_
            intro I a w hs
            refine then_n ?_
            refine wp_ret ?_
            refine then_r ?_
            refine block_r ?_
            refine then_r ?_
            refine hs.ret rfl (.cons (.t rfl) ResL.nil) ?_
            first | (exfalso; omega) | (refine ret_av (congrArg AV.text ?_); rw [lineB_unfold]; (repeat (first | rw [if_pos (by omega)] | rw [if_neg (by omega)])) <;> rfl)
          · try simp only [decide_eq_true_eq, decide_eq_false_iff_not, Bool.not_eq_true', Bool.not_eq_false', Bool.and_eq_true, Bool.or_eq_true, Bool.and_eq_false_iff, Bool.or_eq_false_iff, beq_iff_eq, bne_iff_ne, bne_eq_false_iff_eq, beq_eq_false_iff_ne, ne_eq, Int.not_lt, Int.not_le, Int.ofNat_lt, Int.ofNat_le] at hb6
            refine wp_skip ?_
            refine then_n ?_
            refine wp_seq ?_
            refine hs.drawK (by kernel_rfl) (by kernel_rfl) rfl ?_
            refine RunK.cons (.of rfl (ok_move (.t rfl))) ?_
            refine RunK.cons (.of rfl ((by first | exact ok_idxN un51 ty9 (.t rfl) .c (fun _ => by rw [names_len]; omega) | exact ok_idxM un51 ty9 (.t rfl) .c (fun _ => by rw [names_len]; omega) | exact ok_idx un51 ty9 (.t rfl) .c (fun _ => by rw [names_len]; omega)))) ?_
            refine RunK.cons (.of rfl (ok_load1 ty9 (.t rfl))) ?_
            refine RunK.cons (.of rfl (ok_cat (.t rfl) .c (fun _ => by (try simp only [List.length_append, List.length_cons, List.length_nil]); have n10 := nl 10; have n11 := nl 11; have n12 := nl 12; have n4 := nl 4; have n5 := nl 5; have n9 := nl 9; have nk := nl e.kind.toNat; (try simp only [show ((10 : Int)).toNat = 10 from rfl, show ((11 : Int)).toNat = 11 from rfl, show ((12 : Int)).toNat = 12 from rfl, show ((4 : Int)).toNat = 4 from rfl, show ((5 : Int)).toNat = 5 from rfl, show ((9 : Int)).toNat = 9 from rfl]); omega))) ?_
            refine RunK.cons (.of rfl (ok_fieldP fd35_3 rfl (.t rfl))) ?_
            refine RunK.cons (.of rfl (ok_load1 ty3 (.t rfl))) ?_
            refine RunK.cons (.of rfl (ok_call (c_spec_l6Dec _ (hfit _ (by simp))) (args_cons (.t rfl) args_nil))) ?_
            refine RunK.cons (.of rfl (ok_cat (.t rfl) (.t rfl) (fun _ => by (try simp only [List.length_append, List.length_cons, List.length_nil]); have n10 := nl 10; have n11 := nl 11; have n12 := nl 12; have n4 := nl 4; have n5 := nl 5; have n9 := nl 9; have nk := nl e.kind.toNat; (try simp only [show ((10 : Int)).toNat = 10 from rfl, show ((11 : Int)).toNat = 11 from rfl, show ((12 : Int)).toNat = 12 from rfl, show ((4 : Int)).toNat = 4 from rfl, show ((5 : Int)).toNat = 5 from rfl, show ((9 : Int)).toNat = 9 from rfl]); omega))) ?_
            refine RunK.cons (.of rfl (ok_assign (.t rfl))) ?_
            refine RunK.nil ?_
            intro I a w hs
            refine then_n ?_
            refine wp_ret ?_
            refine block_r ?_
            refine then_r ?_
            refine hs.ret rfl (.cons (.t rfl) ResL.nil) ?_
            first | (exfalso; omega) | (refine ret_av (congrArg AV.text ?_); rw [lineB_unfold]; (repeat (first | rw [if_pos (by omega)] | rw [if_neg (by omega)])) <;> rfl)
        · try simp only [decide_eq_true_eq, decide_eq_false_iff_not, Bool.not_eq_true', Bool.not_eq_false', Bool.and_eq_true, Bool.or_eq_true, Bool.and_eq_false_iff, Bool.or_eq_false_iff, beq_iff_eq, bne_iff_ne, bne_eq_false_iff_eq, beq_eq_false_iff_ne, ne_eq, Int.not_lt, Int.not_le, Int.ofNat_lt, Int.ofNat_le] at hb5
          refine wp_seq ?_
          refine St.region ?_
          refine hs.op rfl rfl rfl (ok_eqi (.t rfl) .c) fun I a w hs => ?_
          refine hs.op rfl rfl rfl (ok_assign (.t rfl)) fun I a w hs => ?_
          refine wpList_nil ?_
          refine then_n ?_
          refine hs.cond (.t rfl) (fun hb7 => ?_) (fun hb7 => ?_)
          · try simp only [decide_eq_true_eq, decide_eq_false_iff_not, Bool.not_eq_true', Bool.not_eq_false', Bool.and_eq_true, Bool.or_eq_true, Bool.and_eq_false_iff, Bool.or_eq_false_iff, beq_iff_eq, bne_iff_ne, bne_eq_false_iff_eq, beq_eq_false_iff_ne, ne_eq, Int.not_lt, Int.not_le, Int.ofNat_lt, Int.ofNat_le] at hb7
            refine wp_seq ?_
            refine hs.drawK (by kernel_rfl) (by kernel_rfl) rfl ?_
            refine RunK.cons (.of rfl (ok_move (.t rfl))) ?_
            refine RunK.cons (.of rfl ((by first | exact ok_idxN un51 ty9 (.t rfl) .c (fun _ => by rw [names_len]; omega) | exact ok_idxM un51 ty9 (.t rfl) .c (fun _ => by rw [names_len]; omega) | exact ok_idx un51 ty9 (.t rfl) .c (fun _ => by rw [names_len]; omega)))) ?_
            refine RunK.cons (.of rfl (ok_load1 ty9 (.t rfl))) ?_
            refine RunK.cons (.of rfl (ok_cat (.t rfl) .c (fun _ => by (try simp only [List.length_append, List.length_cons, List.length_nil]); have n10 := nl 10; have n11 := nl 11; have n12 := nl 12; have n4 := nl 4; have n5 := nl 5; have n9 := nl 9; have nk := nl e.kind.toNat; (try simp only [show ((10 : Int)).toNat = 10 from rfl, show ((11 : Int)).toNat = 11 from rfl, show ((12 : Int)).toNat = 12 from rfl, show ((4 : Int)).toNat = 4 from rfl, show ((5 : Int)).toNat = 5 from rfl, show ((9 : Int)).toNat = 9 from rfl]); omega))) ?_
            refine RunK.cons (.of rfl (ok_fieldP fd35_3 rfl (.t rfl))) ?_
            refine RunK.cons (.of rfl (ok_load1 ty3 (.t rfl))) ?_
            refine RunK.cons (.of rfl (ok_call (c_spec_l6Dec _ (hfit _ (by simp))) (args_cons (.t rfl) args_nil))) ?_
            refine RunK.cons (.of rfl (ok_cat (.t rfl) (.t rfl) (fun _ => by (try simp only [List.length_append, List.length_cons, List.length_nil]); have n10 := nl 10; have n11 := nl 11; have n12 := nl 12; have n4 := nl 4; have n5 := nl 5; have n9 := nl 9; have nk := nl e.kind.toNat; (try simp only [show ((10 : Int)).toNat = 10 from rfl, show ((11 : Int)).toNat = 11 from rfl, show ((12 : Int)).toNat = 12 from rfl, show ((4 : Int)).toNat = 4 from rfl, show ((5 : Int)).toNat = 5 from rfl, show ((9 : Int)).toNat = 9 from rfl]); omega))) ?_
            refine RunK.cons (.of rfl (ok_assign (.t rfl))) ?_
            refine RunK.nil ?_
            intro I a w hs
            refine then_n ?_
            refine wp_ret ?_
            refine block_r ?_
            refine then_r ?_
            refine hs.ret rfl (.cons (.t rfl) ResL.nil) ?_
            first | (exfalso; omega) | (refine ret_av (congrArg AV.text ?_); rw [lineB_unfold]; (repeat (first | rw [if_pos (by omega)] | rw [if_neg (by omega)])) <;> rfl)
          · try simp only [decide_eq_true_eq, decide_eq_false_iff_not, Bool.not_eq_true', Bool.not_eq_false', Bool.and_eq_true, Bool.or_eq_true, Bool.and_eq_false_iff, Bool.or_eq_false_iff, beq_iff_eq, bne_iff_ne, bne_eq_false_iff_eq, beq_eq_false_iff_ne, ne_eq, Int.not_lt, Int.not_le, Int.ofNat_lt, Int.ofNat_le] at hb7
            refine wp_seq ?_
            refine wp_seq ?_
            refine St.region ?_
            refine hs.op rfl rfl rfl (ok_eqi (.t rfl) .c) fun I a w hs => ?_
            refine hs.op rfl rfl rfl (ok_assign (.t rfl)) fun I a w hs => ?_
            refine wpList_nil ?_
            refine then_n ?_
            refine hs.cond (.t rfl) (fun hb8 => ?_) (fun hb8 => ?_)
            · try simp only [decide_eq_true_eq, decide_eq_false_iff_not, Bool.not_eq_true', Bool.not_eq_false', Bool.and_eq_true, Bool.or_eq_true, Bool.and_eq_false_iff, Bool.or_eq_false_iff, beq_iff_eq, bne_iff_ne, bne_eq_false_iff_eq, beq_eq_false_iff_ne, ne_eq, Int.not_lt, Int.not_le, Int.ofNat_lt, Int.ofNat_le] at hb8
              refine wp_skip ?_
              refine then_n ?_
              refine hs.cond (.t rfl) (fun hb9 => ?_) (fun hb9 => ?_)
              · try simp only [decide_eq_true_eq, decide_eq_false_iff_not, Bool.not_eq_true', Bool.not_eq_false', Bool.and_eq_true, Bool.or_eq_true, Bool.and_eq_false_iff, Bool.or_eq_false_iff, beq_iff_eq, bne_iff_ne, bne_eq_false_iff_eq, beq_eq_false_iff_ne, ne_eq, Int.not_lt, Int.not_le, Int.ofNat_lt, Int.ofNat_le] at hb9
                refine wp_seq ?_
                refine hs.drawK (by kernel_rfl) (by kernel_rfl) rfl ?_
                refine RunK.cons (.of rfl (ok_move (.t rfl))) ?_
                refine RunK.cons (.of rfl (ok_fieldP fd35_0 rfl (.t rfl))) ?_
                refine RunK.cons (.of rfl (ok_load1 ty3 (.t rfl))) ?_
                refine RunK.cons (.of rfl ((by first | exact ok_idxN un51 ty9 (.t rfl) (.t rfl) (fun _ => by rw [names_len]; omega) | exact ok_idxM un51 ty9 (.t rfl) (.t rfl) (fun _ => by rw [names_len]; omega) | exact ok_idx un51 ty9 (.t rfl) (.t rfl) (fun _ => by rw [names_len]; omega)))) ?_
                refine RunK.cons (.of rfl (ok_load1 ty9 (.t rfl))) ?_
                refine RunK.cons (.of rfl (ok_cat (.t rfl) .c (fun _ => by (try simp only [List.length_append, List.length_cons, List.length_nil]); have n10 := nl 10; have n11 := nl 11; have n12 := nl 12; have n4 := nl 4; have n5 := nl 5; have n9 := nl 9; have nk := nl e.kind.toNat; (try simp only [show ((10 : Int)).toNat = 10 from rfl, show ((11 : Int)).toNat = 11 from rfl, show ((12 : Int)).toNat = 12 from rfl, show ((4 : Int)).toNat = 4 from rfl, show ((5 : Int)).toNat = 5 from rfl, show ((9 : Int)).toNat = 9 from rfl]); omega))) ?_
                refine RunK.cons (.of rfl (ok_fieldP fd35_1 rfl (.t rfl))) ?_
                refine RunK.cons (.of rfl (ok_load1 ty3 (.t rfl))) ?_
                refine RunK.cons (.of rfl (ok_call (c_spec_l6Dec _ (hfit _ (by simp))) (args_cons (.t rfl) args_nil))) ?_
                refine RunK.cons (.of rfl (ok_cat (.t rfl) (.t rfl) (fun _ => by (try simp only [List.length_append, List.length_cons, List.length_nil]); have n10 := nl 10; have n11 := nl 11; have n12 := nl 12; have n4 := nl 4; have n5 := nl 5; have n9 := nl 9; have nk := nl e.kind.toNat; (try simp only [show ((10 : Int)).toNat = 10 from rfl, show ((11 : Int)).toNat = 11 from rfl, show ((12 : Int)).toNat = 12 from rfl, show ((4 : Int)).toNat = 4 from rfl, show ((5 : Int)).toNat = 5 from rfl, show ((9 : Int)).toNat = 9 from rfl]); omega))) ?_
                refine RunK.cons (.of rfl (ok_assign (.t rfl))) ?_
                refine RunK.nil ?_
                intro I a w hs
                refine then_n ?_
                refine wp_ret ?_
                refine block_r ?_
                refine then_r ?_
                refine hs.ret rfl (.cons (.t rfl) ResL.nil) ?_
                first | (exfalso; omega) | (refine ret_av (congrArg AV.text ?_); rw [lineB_unfold]; (repeat (first | rw [if_pos (by omega)] | rw [if_neg (by omega)])) <;> rfl)
              · try simp only [decide_eq_true_eq, decide_eq_false_iff_not, Bool.not_eq_true', Bool.not_eq_false', Bool.and_eq_true, Bool.or_eq_true, Bool.and_eq_false_iff, Bool.or_eq_false_iff, beq_iff_eq, bne_iff_ne, bne_eq_false_iff_eq, beq_eq_false_iff_ne, ne_eq, Int.not_lt, Int.not_le, Int.ofNat_lt, Int.ofNat_le] at hb9
                refine wp_seq ?_
                refine St.region ?_
                refine hs.op rfl rfl rfl (ok_eqi (.t rfl) .c) fun I a w hs => ?_
                refine hs.op rfl rfl rfl (ok_assign (.t rfl)) fun I a w hs => ?_
                refine wpList_nil ?_
                refine then_n ?_
                refine hs.cond (.t rfl) (fun hb10 => ?_) (fun hb10 => ?_)
                · try simp only [decide_eq_true_eq, decide_eq_false_iff_not, Bool.not_eq_true', Bool.not_eq_false', Bool.and_eq_true, Bool.or_eq_true, Bool.and_eq_false_iff, Bool.or_eq_false_iff, beq_iff_eq, bne_iff_ne, bne_eq_false_iff_eq, beq_eq_false_iff_ne, ne_eq, Int.not_lt, Int.not_le, Int.ofNat_lt, Int.ofNat_le] at hb10
                  refine wp_seq ?_
                  refine hs.drawK (by kernel_rfl) (by kernel_rfl) rfl ?_
                  refine RunK.cons (.of rfl (ok_move (.t rfl))) ?_
                  refine RunK.cons (.of rfl ((by first | exact ok_idxN un51 ty9 (.t rfl) .c (fun _ => by rw [names_len]; omega) | exact ok_idxM un51 ty9 (.t rfl) .c (fun _ => by rw [names_len]; omega) | exact ok_idx un51 ty9 (.t rfl) .c (fun _ => by rw [names_len]; omega)))) ?_
                  refine RunK.cons (.of rfl (ok_load1 ty9 (.t rfl))) ?_
                  refine RunK.cons (.of rfl (ok_cat (.t rfl) .c (fun _ => by (try simp only [List.length_append, List.length_cons, List.length_nil]); have n10 := nl 10; have n11 := nl 11; have n12 := nl 12; have n4 := nl 4; have n5 := nl 5; have n9 := nl 9; have nk := nl e.kind.toNat; (try simp only [show ((10 : Int)).toNat = 10 from rfl, show ((11 : Int)).toNat = 11 from rfl, show ((12 : Int)).toNat = 12 from rfl, show ((4 : Int)).toNat = 4 from rfl, show ((5 : Int)).toNat = 5 from rfl, show ((9 : Int)).toNat = 9 from rfl]); omega))) ?_
                  refine RunK.cons (.of rfl (ok_fieldP fd35_1 rfl (.t rfl))) ?_
                  refine RunK.cons (.of rfl (ok_load1 ty3 (.t rfl))) ?_
                  refine RunK.cons (.of rfl (ok_call (c_spec_l6Dec _ (hfit _ (by simp))) (args_cons (.t rfl) args_nil))) ?_
                  refine RunK.cons (.of rfl (ok_cat (.t rfl) (.t rfl) (fun _ => by (try simp only [List.length_append, List.length_cons, List.length_nil]); have n10 := nl 10; have n11 := nl 11; have n12 := nl 12; have n4 := nl 4; have n5 := nl 5; have n9 := nl 9; have nk := nl e.kind.toNat; (try simp only [show ((10 : Int)).toNat = 10 from rfl, show ((11 : Int)).toNat = 11 from rfl, show ((12 : Int)).toNat = 12 from rfl, show ((4 : Int)).toNat = 4 from rfl, show ((5 : Int)).toNat = 5 from rfl, show ((9 : Int)).toNat = 9 from rfl]); omega))) ?_
                  refine RunK.cons (.of rfl (ok_cat (.t rfl) .c (fun _ => by (try simp only [List.length_append, List.length_cons, List.length_nil]); have n10 := nl 10; have n11 := nl 11; have n12 := nl 12; have n4 := nl 4; have n5 := nl 5; have n9 := nl 9; have nk := nl e.kind.toNat; (try simp only [show ((10 : Int)).toNat = 10 from rfl, show ((11 : Int)).toNat = 11 from rfl, show ((12 : Int)).toNat = 12 from rfl, show ((4 : Int)).toNat = 4 from rfl, show ((5 : Int)).toNat = 5 from rfl, show ((9 : Int)).toNat = 9 from rfl]); omega))) ?_
                  refine RunK.cons (.of rfl (ok_fieldP fd35_5 rfl (.t rfl))) ?_
                  refine RunK.cons (.of rfl (ok_load1 ty3 (.t rfl))) ?_
                  refine RunK.cons (.of rfl (ok_call (c_spec_l6Dec _ (hfit _ (by simp))) (args_cons (.t rfl) args_nil))) ?_
                  refine RunK.cons (.of rfl (ok_cat (.t rfl) (.t rfl) (fun _ => by (try simp only [List.length_append, List.length_cons, List.length_nil]); have n10 := nl 10; have n11 := nl 11; have n12 := nl 12; have n4 := nl 4; have n5 := nl 5; have n9 := nl 9; have nk := nl e.kind.toNat; (try simp only [show ((10 : Int)).toNat = 10 from rfl, show ((11 : Int)).toNat = 11 from rfl, show ((12 : Int)).toNat = 12 from rfl, show ((4 : Int)).toNat = 4 from rfl, show ((5 : Int)).toNat = 5 from rfl, show ((9 : Int)).toNat = 9 from rfl]); omega))) ?_
                  refine RunK.cons (.of rfl (ok_assign (.t rfl))) ?_
                  refine RunK.nil ?_
                  intro I a w hs
                  refine then_n ?_
                  refine wp_ret ?_
                  refine block_r ?_
                  refine then_r ?_
                  refine hs.ret rfl (.cons (.t rfl) ResL.nil) ?_
                  first | (exfalso; omega) | (refine ret_av (congrArg AV.text ?_); rw [lineB_unfold]; (repeat (first | rw [if_pos (by omega)] | rw [if_neg (by omega)])) <;> rfl)
                · try simp only [decide_eq_true_eq, decide_eq_false_iff_not, Bool.not_eq_true', Bool.not_eq_false', Bool.and_eq_true, Bool.or_eq_true, Bool.and_eq_false_iff, Bool.or_eq_false_iff, beq_iff_eq, bne_iff_ne, bne_eq_false_iff_eq, beq_eq_false_iff_ne, ne_eq, Int.not_lt, Int.not_le, Int.ofNat_lt, Int.ofNat_le] at hb10
                  refine wp_skip ?_
                  refine block_n ?_
                  refine then_n ?_
                  refine wp_seq ?_
                  refine St.region ?_
                  refine hs.op rfl rfl rfl (ok_assign .c) fun I a w hs => ?_
                  refine wpList_nil ?_
                  refine then_n ?_
                  refine wp_ret ?_
                  refine hs.ret rfl (.cons (.t rfl) ResL.nil) ?_
                  first | (exfalso; omega) | (refine ret_av (congrArg AV.text ?_); rw [lineB_unfold]; (repeat (first | rw [if_pos (by omega)] | rw [if_neg (by omega)])) <;> rfl)
            · try simp only [decide_eq_true_eq, decide_eq_false_iff_not, Bool.not_eq_true', Bool.not_eq_false', Bool.and_eq_true, Bool.or_eq_true, Bool.and_eq_false_iff, Bool.or_eq_false_iff, beq_iff_eq, bne_iff_ne, bne_eq_false_iff_eq, beq_eq_false_iff_ne, ne_eq, Int.not_lt, Int.not_le, Int.ofNat_lt, Int.ofNat_le] at hb8
              refine wp_seq ?_
              refine St.region ?_
              refine hs.op rfl rfl rfl (ok_eqi (.t rfl) .c) fun I a w hs => ?_
              refine hs.op rfl rfl rfl (ok_assign (.t rfl)) fun I a w hs => ?_
              refine wpList_nil ?_
              refine then_n ?_
              refine hs.cond (.t rfl) (fun hb11 => ?_) (fun hb11 => ?_)
              · try simp only [decide_eq_true_eq, decide_eq_false_iff_not, Bool.not_eq_true', Bool.not_eq_false', Bool.and_eq_true, Bool.or_eq_true, Bool.and_eq_false_iff, Bool.or_eq_false_iff, beq_iff_eq, bne_iff_ne, bne_eq_false_iff_eq, beq_eq_false_iff_ne, ne_eq, Int.not_lt, Int.not_le, Int.ofNat_lt, Int.ofNat_le] at hb11
                refine wp_skip ?_
                refine then_n ?_
                refine hs.cond (.t rfl) (fun hb12 => ?_) (fun hb12 => ?_)
                · try simp only [decide_eq_true_eq, decide_eq_false_iff_not, Bool.not_eq_true', Bool.not_eq_false', Bool.and_eq_true, Bool.or_eq_true, Bool.and_eq_false_iff, Bool.or_eq_false_iff, beq_iff_eq, bne_iff_ne, bne_eq_false_iff_eq, beq_eq_false_iff_ne, ne_eq, Int.not_lt, Int.not_le, Int.ofNat_lt, Int.ofNat_le] at hb12
                  refine wp_seq ?_
                  refine hs.drawK (by kernel_rfl) (by kernel_rfl) rfl ?_
                  refine RunK.cons (.of rfl (ok_move (.t rfl))) ?_
                  refine RunK.cons (.of rfl (ok_fieldP fd35_0 rfl (.t rfl))) ?_
                  refine RunK.cons (.of rfl (ok_load1 ty3 (.t rfl))) ?_
                  refine RunK.cons (.of rfl ((by first | exact ok_idxN un51 ty9 (.t rfl) (.t rfl) (fun _ => by rw [names_len]; omega) | exact ok_idxM un51 ty9 (.t rfl) (.t rfl) (fun _ => by rw [names_len]; omega) | exact ok_idx un51 ty9 (.t rfl) (.t rfl) (fun _ => by rw [names_len]; omega)))) ?_
                  refine RunK.cons (.of rfl (ok_load1 ty9 (.t rfl))) ?_
                  refine RunK.cons (.of rfl (ok_cat (.t rfl) .c (fun _ => by (try simp only [List.length_append, List.length_cons, List.length_nil]); have n10 := nl 10; have n11 := nl 11; have n12 := nl 12; have n4 := nl 4; have n5 := nl 5; have n9 := nl 9; have nk := nl e.kind.toNat; (try simp only [show ((10 : Int)).toNat = 10 from rfl, show ((11 : Int)).toNat = 11 from rfl, show ((12 : Int)).toNat = 12 from rfl, show ((4 : Int)).toNat = 4 from rfl, show ((5 : Int)).toNat = 5 from rfl, show ((9 : Int)).toNat = 9 from rfl]); omega))) ?_
                  refine RunK.cons (.of rfl (ok_fieldP fd35_1 rfl (.t rfl))) ?_
                  refine RunK.cons (.of rfl (ok_load1 ty3 (.t rfl))) ?_
                  refine RunK.cons (.of rfl (ok_call (c_spec_l6Dec _ (hfit _ (by simp))) (args_cons (.t rfl) args_nil))) ?_
                  refine RunK.cons (.of rfl (ok_cat (.t rfl) (.t rfl) (fun _ => by (try simp only [List.length_append, List.length_cons, List.length_nil]); have n10 := nl 10; have n11 := nl 11; have n12 := nl 12; have n4 := nl 4; have n5 := nl 5; have n9 := nl 9; have nk := nl e.kind.toNat; (try simp only [show ((10 : Int)).toNat = 10 from rfl, show ((11 : Int)).toNat = 11 from rfl, show ((12 : Int)).toNat = 12 from rfl, show ((4 : Int)).toNat = 4 from rfl, show ((5 : Int)).toNat = 5 from rfl, show ((9 : Int)).toNat = 9 from rfl]); omega))) ?_
                  refine RunK.cons (.of rfl (ok_assign (.t rfl))) ?_
                  refine RunK.nil ?_
                  intro I a w hs
                  refine then_n ?_
                  refine wp_ret ?_
                  refine block_r ?_
                  refine then_r ?_
                  refine hs.ret rfl (.cons (.t rfl) ResL.nil) ?_
                  first | (exfalso; omega) | (refine ret_av (congrArg AV.text ?_); rw [lineB_unfold]; (repeat (first | rw [if_pos (by omega)] | rw [if_neg (by omega)])) <;> rfl)
                · try simp only [decide_eq_true_eq, decide_eq_false_iff_not, Bool.not_eq_true', Bool.not_eq_false', Bool.and_eq_true, Bool.or_eq_true, Bool.and_eq_false_iff, Bool.or_eq_false_iff, beq_iff_eq, bne_iff_ne, bne_eq_false_iff_eq, beq_eq_false_iff_ne, ne_eq, Int.not_lt, Int.not_le, Int.ofNat_lt, Int.ofNat_le] at hb12
                  refine wp_seq ?_
                  refine St.region ?_
                  refine hs.op rfl rfl rfl (ok_eqi (.t rfl) .c) fun I a w hs => ?_
                  refine hs.op rfl rfl rfl (ok_assign (.t rfl)) fun I a w hs => ?_
                  refine wpList_nil ?_
                  refine then_n ?_
                  refine hs.cond (.t rfl) (fun hb13 => ?_) (fun hb13 => ?_)
                  · try simp only [decide_eq_true_eq, decide_eq_false_iff_not, Bool.not_eq_true', Bool.not_eq_false', Bool.and_eq_true, Bool.or_eq_true, Bool.and_eq_false_iff, Bool.or_eq_false_iff, beq_iff_eq, bne_iff_ne, bne_eq_false_iff_eq, beq_eq_false_iff_ne, ne_eq, Int.not_lt, Int.not_le, Int.ofNat_lt, Int.ofNat_le] at hb13
                    refine wp_seq ?_
                    refine hs.drawK (by kernel_rfl) (by kernel_rfl) rfl ?_
                    refine RunK.cons (.of rfl (ok_move (.t rfl))) ?_
                    refine RunK.cons (.of rfl ((by first | exact ok_idxN un51 ty9 (.t rfl) .c (fun _ => by rw [names_len]; omega) | exact ok_idxM un51 ty9 (.t rfl) .c (fun _ => by rw [names_len]; omega) | exact ok_idx un51 ty9 (.t rfl) .c (fun _ => by rw [names_len]; omega)))) ?_
                    refine RunK.cons (.of rfl (ok_load1 ty9 (.t rfl))) ?_
                    refine RunK.cons (.of rfl (ok_cat (.t rfl) .c (fun _ => by (try simp only [List.length_append, List.length_cons, List.length_nil]); have n10 := nl 10; have n11 := nl 11; have n12 := nl 12; have n4 := nl 4; have n5 := nl 5; have n9 := nl 9; have nk := nl e.kind.toNat; (try simp only [show ((10 : Int)).toNat = 10 from rfl, show ((11 : Int)).toNat = 11 from rfl, show ((12 : Int)).toNat = 12 from rfl, show ((4 : Int)).toNat = 4 from rfl, show ((5 : Int)).toNat = 5 from rfl, show ((9 : Int)).toNat = 9 from rfl]); omega))) ?_
                    refine RunK.cons (.of rfl (ok_fieldP fd35_1 rfl (.t rfl))) ?_
                    refine RunK.cons (.of rfl (ok_load1 ty3 (.t rfl))) ?_
                    refine RunK.cons (.of rfl (ok_call (c_spec_l6Dec _ (hfit _ (by simp))) (args_cons (.t rfl) args_nil))) ?_
                    refine RunK.cons (.of rfl (ok_cat (.t rfl) (.t rfl) (fun _ => by (try simp only [List.length_append, List.length_cons, List.length_nil]); have n10 := nl 10; have n11 := nl 11; have n12 := nl 12; have n4 := nl 4; have n5 := nl 5; have n9 := nl 9; have nk := nl e.kind.toNat; (try simp only [show ((10 : Int)).toNat = 10 from rfl, show ((11 : Int)).toNat = 11 from rfl, show ((12 : Int)).toNat = 12 from rfl, show ((4 : Int)).toNat = 4 from rfl, show ((5 : Int)).toNat = 5 from rfl, show ((9 : Int)).toNat = 9 from rfl]); omega))) ?_
                    refine RunK.cons (.of rfl (ok_cat (.t rfl) .c (fun _ => by (try simp only [List.length_append, List.length_cons, List.length_nil]); have n10 := nl 10; have n11 := nl 11; have n12 := nl 12; have n4 := nl 4; have n5 := nl 5; have n9 := nl 9; have nk := nl e.kind.toNat; (try simp only [show ((10 : Int)).toNat = 10 from rfl, show ((11 : Int)).toNat = 11 from rfl, show ((12 : Int)).toNat = 12 from rfl, show ((4 : Int)).toNat = 4 from rfl, show ((5 : Int)).toNat = 5 from rfl, show ((9 : Int)).toNat = 9 from rfl]); omega))) ?_
                    refine RunK.cons (.of rfl (ok_fieldP fd35_5 rfl (.t rfl))) ?_
                    refine RunK.cons (.of rfl (ok_load1 ty3 (.t rfl))) ?_
                    refine RunK.cons (.of rfl (ok_call (c_spec_l6Dec _ (hfit _ (by simp))) (args_cons (.t rfl) args_nil))) ?_
                    refine RunK.cons (.of rfl (ok_cat (.t rfl) (.t rfl) (fun _ => by (try simp only [List.length_append, List.length_cons, List.length_nil]); have n10 := nl 10; have n11 := nl 11; have n12 := nl 12; have n4 := nl 4; have n5 := nl 5; have n9 := nl 9; have nk := nl e.kind.toNat; (try simp only [show ((10 : Int)).toNat = 10 from rfl, show ((11 : Int)).toNat = 11 from rfl, show ((12 : Int)).toNat = 12 from rfl, show ((4 : Int)).toNat = 4 from rfl, show ((5 : Int)).toNat = 5 from rfl, show ((9 : Int)).toNat = 9 from rfl]); omega))) ?_
                    refine RunK.cons (.of rfl (ok_assign (.t rfl))) ?_
                    refine RunK.nil ?_
                    intro I a w hs
                    refine then_n ?_
                    refine wp_ret ?_
                    refine block_r ?_
                    refine then_r ?_
                    refine hs.ret rfl (.cons (.t rfl) ResL.nil) ?_
                    first | (exfalso; omega) | (refine ret_av (congrArg AV.text ?_); rw [lineB_unfold]; (repeat (first | rw [if_pos (by omega)] | rw [if_neg (by omega)])) <;> rfl)
                  · try simp only [decide_eq_true_eq, decide_eq_false_iff_not, Bool.not_eq_true', Bool.not_eq_false', Bool.and_eq_true, Bool.or_eq_true, Bool.and_eq_false_iff, Bool.or_eq_false_iff, beq_iff_eq, bne_iff_ne, bne_eq_false_iff_eq, beq_eq_false_iff_ne, ne_eq, Int.not_lt, Int.not_le, Int.ofNat_lt, Int.ofNat_le] at hb13
                    refine wp_skip ?_
                    refine block_n ?_
                    refine then_n ?_
                    refine wp_seq ?_
                    refine St.region ?_
                    refine hs.op rfl rfl rfl (ok_assign .c) fun I a w hs => ?_
                    refine wpList_nil ?_
                    refine then_n ?_
                    refine wp_ret ?_
                    refine hs.ret rfl (.cons (.t rfl) ResL.nil) ?_
                    first | (exfalso; omega) | (refine ret_av (congrArg AV.text ?_); rw [lineB_unfold]; (repeat (first | rw [if_pos (by omega)] | rw [if_neg (by omega)])) <;> rfl)
              · try simp only [decide_eq_true_eq, decide_eq_false_iff_not, Bool.not_eq_true', Bool.not_eq_false', Bool.and_eq_true, Bool.or_eq_true, Bool.and_eq_false_iff, Bool.or_eq_false_iff, beq_iff_eq, bne_iff_ne, bne_eq_false_iff_eq, beq_eq_false_iff_ne, ne_eq, Int.not_lt, Int.not_le, Int.ofNat_lt, Int.ofNat_le] at hb11
                refine St.region ?_
                refine hs.op rfl rfl rfl (ok_eqi (.t rfl) .c) fun I a w hs => ?_
                refine hs.op rfl rfl rfl (ok_assign (.t rfl)) fun I a w hs => ?_
                refine wpList_nil ?_
                refine then_n ?_
                refine hs.cond (.t rfl) (fun hb14 => ?_) (fun hb14 => ?_)
                · try simp only [decide_eq_true_eq, decide_eq_false_iff_not, Bool.not_eq_true', Bool.not_eq_false', Bool.and_eq_true, Bool.or_eq_true, Bool.and_eq_false_iff, Bool.or_eq_false_iff, beq_iff_eq, bne_iff_ne, bne_eq_false_iff_eq, beq_eq_false_iff_ne, ne_eq, Int.not_lt, Int.not_le, Int.ofNat_lt, Int.ofNat_le] at hb14
                  refine wp_seq ?_
                  refine hs.drawK (by kernel_rfl) (by kernel_rfl) rfl ?_
                  refine RunK.cons (.of rfl (ok_move (.t rfl))) ?_
                  refine RunK.cons (.of rfl (ok_fieldP fd35_0 rfl (.t rfl))) ?_
                  refine RunK.cons (.of rfl (ok_load1 ty3 (.t rfl))) ?_
                  refine RunK.cons (.of rfl ((by first | exact ok_idxN un51 ty9 (.t rfl) (.t rfl) (fun _ => by rw [names_len]; omega) | exact ok_idxM un51 ty9 (.t rfl) (.t rfl) (fun _ => by rw [names_len]; omega) | exact ok_idx un51 ty9 (.t rfl) (.t rfl) (fun _ => by rw [names_len]; omega)))) ?_
                  refine RunK.cons (.of rfl (ok_load1 ty9 (.t rfl))) ?_
                  refine RunK.cons (.of rfl (ok_cat (.t rfl) .c (fun _ => by (try simp only [List.length_append, List.length_cons, List.length_nil]); have n10 := nl 10; have n11 := nl 11; have n12 := nl 12; have n4 := nl 4; have n5 := nl 5; have n9 := nl 9; have nk := nl e.kind.toNat; (try simp only [show ((10 : Int)).toNat = 10 from rfl, show ((11 : Int)).toNat = 11 from rfl, show ((12 : Int)).toNat = 12 from rfl, show ((4 : Int)).toNat = 4 from rfl, show ((5 : Int)).toNat = 5 from rfl, show ((9 : Int)).toNat = 9 from rfl]); omega))) ?_
                  refine RunK.cons (.of rfl (ok_fieldP fd35_1 rfl (.t rfl))) ?_
                  refine RunK.cons (.of rfl (ok_load1 ty3 (.t rfl))) ?_
                  refine RunK.cons (.of rfl (ok_call (c_spec_l6Dec _ (hfit _ (by simp))) (args_cons (.t rfl) args_nil))) ?_
                  refine RunK.cons (.of rfl (ok_cat (.t rfl) (.t rfl) (fun _ => by (try simp only [List.length_append, List.length_cons, List.length_nil]); have n10 := nl 10; have n11 := nl 11; have n12 := nl 12; have n4 := nl 4; have n5 := nl 5; have n9 := nl 9; have nk := nl e.kind.toNat; (try simp only [show ((10 : Int)).toNat = 10 from rfl, show ((11 : Int)).toNat = 11 from rfl, show ((12 : Int)).toNat = 12 from rfl, show ((4 : Int)).toNat = 4 from rfl, show ((5 : Int)).toNat = 5 from rfl, show ((9 : Int)).toNat = 9 from rfl]); omega))) ?_
                  refine RunK.cons (.of rfl (ok_assign (.t rfl))) ?_
                  refine RunK.nil ?_
                  intro I a w hs
                  refine then_n ?_
                  refine wp_ret ?_
                  refine block_r ?_
                  refine then_r ?_
                  refine hs.ret rfl (.cons (.t rfl) ResL.nil) ?_
                  first | (exfalso; omega) | (refine ret_av (congrArg AV.text ?_); rw [lineB_unfold]; (repeat (first | rw [if_pos (by omega)] | rw [if_neg (by omega)])) <;> rfl)
                · try simp only [decide_eq_true_eq, decide_eq_false_iff_not, Bool.not_eq_true', Bool.not_eq_false', Bool.and_eq_true, Bool.or_eq_true, Bool.and_eq_false_iff, Bool.or_eq_false_iff, beq_iff_eq, bne_iff_ne, bne_eq_false_iff_eq, beq_eq_false_iff_ne, ne_eq, Int.not_lt, Int.not_le, Int.ofNat_lt, Int.ofNat_le] at hb14
                  refine wp_seq ?_
                  refine St.region ?_
                  refine hs.op rfl rfl rfl (ok_eqi (.t rfl) .c) fun I a w hs => ?_
                  refine hs.op rfl rfl rfl (ok_assign (.t rfl)) fun I a w hs => ?_
                  refine wpList_nil ?_
                  refine then_n ?_
                  refine hs.cond (.t rfl) (fun hb15 => ?_) (fun hb15 => ?_)
                  · try simp only [decide_eq_true_eq, decide_eq_false_iff_not, Bool.not_eq_true', Bool.not_eq_false', Bool.and_eq_true, Bool.or_eq_true, Bool.and_eq_false_iff, Bool.or_eq_false_iff, beq_iff_eq, bne_iff_ne, bne_eq_false_iff_eq, beq_eq_false_iff_ne, ne_eq, Int.not_lt, Int.not_le, Int.ofNat_lt, Int.ofNat_le] at hb15
                    refine wp_seq ?_
                    refine hs.drawK (by kernel_rfl) (by kernel_rfl) rfl ?_
                    refine RunK.cons (.of rfl (ok_move (.t rfl))) ?_
                    refine RunK.cons (.of rfl ((by first | exact ok_idxN un51 ty9 (.t rfl) .c (fun _ => by rw [names_len]; omega) | exact ok_idxM un51 ty9 (.t rfl) .c (fun _ => by rw [names_len]; omega) | exact ok_idx un51 ty9 (.t rfl) .c (fun _ => by rw [names_len]; omega)))) ?_
                    refine RunK.cons (.of rfl (ok_load1 ty9 (.t rfl))) ?_
                    refine RunK.cons (.of rfl (ok_cat (.t rfl) .c (fun _ => by (try simp only [List.length_append, List.length_cons, List.length_nil]); have n10 := nl 10; have n11 := nl 11; have n12 := nl 12; have n4 := nl 4; have n5 := nl 5; have n9 := nl 9; have nk := nl e.kind.toNat; (try simp only [show ((10 : Int)).toNat = 10 from rfl, show ((11 : Int)).toNat = 11 from rfl, show ((12 : Int)).toNat = 12 from rfl, show ((4 : Int)).toNat = 4 from rfl, show ((5 : Int)).toNat = 5 from rfl, show ((9 : Int)).toNat = 9 from rfl]); omega))) ?_
                    refine RunK.cons (.of rfl (ok_fieldP fd35_1 rfl (.t rfl))) ?_
                    refine RunK.cons (.of rfl (ok_load1 ty3 (.t rfl))) ?_
                    refine RunK.cons (.of rfl (ok_call (c_spec_l6Dec _ (hfit _ (by simp))) (args_cons (.t rfl) args_nil))) ?_
                    refine RunK.cons (.of rfl (ok_cat (.t rfl) (.t rfl) (fun _ => by (try simp only [List.length_append, List.length_cons, List.length_nil]); have n10 := nl 10; have n11 := nl 11; have n12 := nl 12; have n4 := nl 4; have n5 := nl 5; have n9 := nl 9; have nk := nl e.kind.toNat; (try simp only [show ((10 : Int)).toNat = 10 from rfl, show ((11 : Int)).toNat = 11 from rfl, show ((12 : Int)).toNat = 12 from rfl, show ((4 : Int)).toNat = 4 from rfl, show ((5 : Int)).toNat = 5 from rfl, show ((9 : Int)).toNat = 9 from rfl]); omega))) ?_
                    refine RunK.cons (.of rfl (ok_cat (.t rfl) .c (fun _ => by (try simp only [List.length_append, List.length_cons, List.length_nil]); have n10 := nl 10; have n11 := nl 11; have n12 := nl 12; have n4 := nl 4; have n5 := nl 5; have n9 := nl 9; have nk := nl e.kind.toNat; (try simp only [show ((10 : Int)).toNat = 10 from rfl, show ((11 : Int)).toNat = 11 from rfl, show ((12 : Int)).toNat = 12 from rfl, show ((4 : Int)).toNat = 4 from rfl, show ((5 : Int)).toNat = 5 from rfl, show ((9 : Int)).toNat = 9 from rfl]); omega))) ?_
                    refine RunK.cons (.of rfl (ok_fieldP fd35_5 rfl (.t rfl))) ?_
                    refine RunK.cons (.of rfl (ok_load1 ty3 (.t rfl))) ?_
                    refine RunK.cons (.of rfl (ok_call (c_spec_l6Dec _ (hfit _ (by simp))) (args_cons (.t rfl) args_nil))) ?_
                    refine RunK.cons (.of rfl (ok_cat (.t rfl) (.t rfl) (fun _ => by (try simp only [List.length_append, List.length_cons, List.length_nil]); have n10 := nl 10; have n11 := nl 11; have n12 := nl 12; have n4 := nl 4; have n5 := nl 5; have n9 := nl 9; have nk := nl e.kind.toNat; (try simp only [show ((10 : Int)).toNat = 10 from rfl, show ((11 : Int)).toNat = 11 from rfl, show ((12 : Int)).toNat = 12 from rfl, show ((4 : Int)).toNat = 4 from rfl, show ((5 : Int)).toNat = 5 from rfl, show ((9 : Int)).toNat = 9 from rfl]); omega))) ?_
                    refine RunK.cons (.of rfl (ok_assign (.t rfl))) ?_
                    refine RunK.nil ?_
                    intro I a w hs
                    refine then_n ?_
                    refine wp_ret ?_
                    refine block_r ?_
                    refine then_r ?_
                    refine hs.ret rfl (.cons (.t rfl) ResL.nil) ?_
                    first | (exfalso; omega) | (refine ret_av (congrArg AV.text ?_); rw [lineB_unfold]; (repeat (first | rw [if_pos (by omega)] | rw [if_neg (by omega)])) <;> rfl)
                  · try simp only [decide_eq_true_eq, decide_eq_false_iff_not, Bool.not_eq_true', Bool.not_eq_false', Bool.and_eq_true, Bool.or_eq_true, Bool.and_eq_false_iff, Bool.or_eq_false_iff, beq_iff_eq, bne_iff_ne, bne_eq_false_iff_eq, beq_eq_false_iff_ne, ne_eq, Int.not_lt, Int.not_le, Int.ofNat_lt, Int.ofNat_le] at hb15
                    refine wp_skip ?_
                    refine block_n ?_
                    refine then_n ?_
                    refine wp_seq ?_
                    refine St.region ?_
                    refine hs.op rfl rfl rfl (ok_assign .c) fun I a w hs => ?_
                    refine wpList_nil ?_
                    refine then_n ?_
                    refine wp_ret ?_
                    refine hs.ret rfl (.cons (.t rfl) ResL.nil) ?_
                    first | (exfalso; omega) | (refine ret_av (congrArg AV.text ?_); rw [lineB_unfold]; (repeat (first | rw [if_pos (by omega)] | rw [if_neg (by omega)])) <;> rfl)
    · try simp only [decide_eq_true_eq, decide_eq_false_iff_not, Bool.not_eq_true', Bool.not_eq_false', Bool.and_eq_true, Bool.or_eq_true, Bool.and_eq_false_iff, Bool.or_eq_false_iff, beq_iff_eq, bne_iff_ne, bne_eq_false_iff_eq, beq_eq_false_iff_ne, ne_eq, Int.not_lt, Int.not_le, Int.ofNat_lt, Int.ofNat_le] at hb3
      refine St.region ?_
      refine hs.op rfl rfl rfl (ok_eqi (.t rfl) .c) fun I a w hs => ?_
      refine hs.op rfl rfl rfl (ok_assign (.t rfl)) fun I a w hs => ?_
      refine wpList_nil ?_
      refine then_n ?_
      refine hs.cond (.t rfl) (fun hb16 => ?_) (fun hb16 => ?_)
      · try simp only [decide_eq_true_eq, decide_eq_false_iff_not, Bool.not_eq_true', Bool.not_eq_false', Bool.and_eq_true, Bool.or_eq_true, Bool.and_eq_false_iff, Bool.or_eq_false_iff, beq_iff_eq, bne_iff_ne, bne_eq_false_iff_eq, beq_eq_false_iff_ne, ne_eq, Int.not_lt, Int.not_le, Int.ofNat_lt, Int.ofNat_le] at hb16
        refine wp_seq ?_
        refine hs.drawK (by kernel_rfl) (by kernel_rfl) rfl ?_
        refine RunK.cons (.of rfl (ok_move (.t rfl))) ?_
        refine RunK.cons (.of rfl (ok_fieldP fd35_0 rfl (.t rfl))) ?_
        refine RunK.cons (.of rfl (ok_load1 ty3 (.t rfl))) ?_
        refine RunK.cons (.of rfl ((by first | exact ok_idxN un51 ty9 (.t rfl) (.t rfl) (fun _ => by rw [names_len]; omega) | exact ok_idxM un51 ty9 (.t rfl) (.t rfl) (fun _ => by rw [names_len]; omega) | exact ok_idx un51 ty9 (.t rfl) (.t rfl) (fun _ => by rw [names_len]; omega)))) ?_
        refine RunK.cons (.of rfl (ok_load1 ty9 (.t rfl))) ?_
        refine RunK.cons (.of rfl (ok_cat (.t rfl) .c (fun _ => by (try simp only [List.length_append, List.length_cons, List.length_nil]); have n10 := nl 10; have n11 := nl 11; have n12 := nl 12; have n4 := nl 4; have n5 := nl 5; have n9 := nl 9; have nk := nl e.kind.toNat; (try simp only [show ((10 : Int)).toNat = 10 from rfl, show ((11 : Int)).toNat = 11 from rfl, show ((12 : Int)).toNat = 12 from rfl, show ((4 : Int)).toNat = 4 from rfl, show ((5 : Int)).toNat = 5 from rfl, show ((9 : Int)).toNat = 9 from rfl]); omega))) ?_
        refine RunK.cons (.of rfl (ok_fieldP fd35_2 rfl (.t rfl))) ?_
        refine RunK.cons (.of rfl (ok_load1 ty3 (.t rfl))) ?_
        refine RunK.cons (.of rfl (ok_call (c_spec_l6Dec _ (hfit _ (by simp))) (args_cons (.t rfl) args_nil))) ?_
        refine RunK.cons (.of rfl (ok_cat (.t rfl) (.t rfl) (fun _ => by (try simp only [List.length_append, List.length_cons, List.length_nil]); have n10 := nl 10; have n11 := nl 11; have n12 := nl 12; have n4 := nl 4; have n5 := nl 5; have n9 := nl 9; have nk := nl e.kind.toNat; (try simp only [show ((10 : Int)).toNat = 10 from rfl, show ((11 : Int)).toNat = 11 from rfl, show ((12 : Int)).toNat = 12 from rfl, show ((4 : Int)).toNat = 4 from rfl, show ((5 : Int)).toNat = 5 from rfl, show ((9 : Int)).toNat = 9 from rfl]); omega))) ?_
        refine RunK.cons (.of rfl (ok_assign (.t rfl))) ?_
        refine RunK.nil ?_
        intro I a w hs
        refine then_n ?_
        refine wp_ret ?_
        refine block_r ?_
        refine then_r ?_
        refine hs.ret rfl (.cons (.t rfl) ResL.nil) ?_
        first | (exfalso; omega) | (refine ret_av (congrArg AV.text ?_); rw [lineB_unfold]; (repeat (first | rw [if_pos (by omega)] | rw [if_neg (by omega)])) <;> rfl)
      · try simp only [decide_eq_true_eq, decide_eq_false_iff_not, Bool.not_eq_true', Bool.not_eq_false', Bool.and_eq_true, Bool.or_eq_true, Bool.and_eq_false_iff, Bool.or_eq_false_iff, beq_iff_eq, bne_iff_ne, bne_eq_false_iff_eq, beq_eq_false_iff_ne, ne_eq, Int.not_lt, Int.not_le, Int.ofNat_lt, Int.ofNat_le] at hb16
        refine wp_seq ?_
        refine St.region ?_
        refine hs.op rfl rfl rfl (ok_eqi (.t rfl) .c) fun I a w hs => ?_
        refine hs.op rfl rfl rfl (ok_assign (.t rfl)) fun I a w hs => ?_
        refine wpList_nil ?_
        refine then_n ?_
        refine hs.cond (.t rfl) (fun hb17 => ?_) (fun hb17 => ?_)
        · try simp only [decide_eq_true_eq, decide_eq_false_iff_not, Bool.not_eq_true', Bool.not_eq_false', Bool.and_eq_true, Bool.or_eq_true, Bool.and_eq_false_iff, Bool.or_eq_false_iff, beq_iff_eq, bne_iff_ne, bne_eq_false_iff_eq, beq_eq_false_iff_ne, ne_eq, Int.not_lt, Int.not_le, Int.ofNat_lt, Int.ofNat_le] at hb17
          refine wp_seq ?_
          refine wp_seq ?_
          refine St.region ?_
          refine hs.op rfl rfl rfl (ok_fieldP fd35_4 rfl (.t rfl)) fun I a w hs => ?_
          refine hs.op rfl rfl rfl (ok_load1 ty3 (.t rfl)) fun I a w hs => ?_
          refine hs.op rfl rfl rfl (ok_eqi (.t rfl) .c) fun I a w hs => ?_
          refine wpList_nil ?_
          refine then_n ?_
          refine hs.cond (.t rfl) (fun hb18 => ?_) (fun hb18 => ?_)
          · try simp only [decide_eq_true_eq, decide_eq_false_iff_not, Bool.not_eq_true', Bool.not_eq_false', Bool.and_eq_true, Bool.or_eq_true, Bool.and_eq_false_iff, Bool.or_eq_false_iff, beq_iff_eq, bne_iff_ne, bne_eq_false_iff_eq, beq_eq_false_iff_ne, ne_eq, Int.not_lt, Int.not_le, Int.ofNat_lt, Int.ofNat_le] at hb18
            refine wp_seq ?_
            refine hs.drawK (by kernel_rfl) (by kernel_rfl) rfl ?_
            refine RunK.cons (.of rfl (ok_move (.t rfl))) ?_
            refine RunK.cons (.of rfl ((by first | exact ok_idxN un51 ty9 (.t rfl) .c (fun _ => by rw [names_len]; omega) | exact ok_idxM un51 ty9 (.t rfl) .c (fun _ => by rw [names_len]; omega) | exact ok_idx un51 ty9 (.t rfl) .c (fun _ => by rw [names_len]; omega)))) ?_
            refine RunK.cons (.of rfl (ok_load1 ty9 (.t rfl))) ?_
            refine RunK.cons (.of rfl (ok_cat (.t rfl) .c (fun _ => by (try simp only [List.length_append, List.length_cons, List.length_nil]); have n10 := nl 10; have n11 := nl 11; have n12 := nl 12; have n4 := nl 4; have n5 := nl 5; have n9 := nl 9; have nk := nl e.kind.toNat; (try simp only [show ((10 : Int)).toNat = 10 from rfl, show ((11 : Int)).toNat = 11 from rfl, show ((12 : Int)).toNat = 12 from rfl, show ((4 : Int)).toNat = 4 from rfl, show ((5 : Int)).toNat = 5 from rfl, show ((9 : Int)).toNat = 9 from rfl]); omega))) ?_
            refine RunK.cons (.of rfl (ok_fieldP fd35_3 rfl (.t rfl))) ?_
            refine RunK.cons (.of rfl (ok_load1 ty3 (.t rfl))) ?_
            refine RunK.cons (.of rfl (ok_call (c_spec_l6Dec _ (hfit _ (by simp))) (args_cons (.t rfl) args_nil))) ?_
            refine RunK.cons (.of rfl (ok_cat (.t rfl) (.t rfl) (fun _ => by (try simp only [List.length_append, List.length_cons, List.length_nil]); have n10 := nl 10; have n11 := nl 11; have n12 := nl 12; have n4 := nl 4; have n5 := nl 5; have n9 := nl 9; have nk := nl e.kind.toNat; (try simp only [show ((10 : Int)).toNat = 10 from rfl, show ((11 : Int)).toNat = 11 from rfl, show ((12 : Int)).toNat = 12 from rfl, show ((4 : Int)).toNat = 4 from rfl, show ((5 : Int)).toNat = 5 from rfl, show ((9 : Int)).toNat = 9 from rfl]); omega))) ?_
            refine RunK.cons (.of rfl (ok_assign (.t rfl))) ?_
            refine RunK.nil ?_
            intro I a w hs
            refine then_n ?_
            refine wp_ret ?_
            refine then_r ?_
            refine block_r ?_
            refine then_r ?_
            refine hs.ret rfl (.cons (.t rfl) ResL.nil) ?_
            first | (exfalso; omega) | (refine ret_av (congrArg AV.text ?_); rw [lineB_unfold]; (repeat (first | rw [if_pos (by omega)] | rw [if_neg (by omega)])) <;> rfl)
          · try simp only [decide_eq_true_eq, decide_eq_false_iff_not, Bool.not_eq_true', Bool.not_eq_false', Bool.and_eq_true, Bool.or_eq_true, Bool.and_eq_false_iff, Bool.or_eq_false_iff, beq_iff_eq, bne_iff_ne, bne_eq_false_iff_eq, beq_eq_false_iff_ne, ne_eq, Int.not_lt, Int.not_le, Int.ofNat_lt, Int.ofNat_le] at hb18
            refine wp_skip ?_
            refine then_n ?_
            refine wp_seq ?_
            refine hs.drawK (by kernel_rfl) (by kernel_rfl) rfl ?_
            refine RunK.cons (.of rfl (ok_move (.t rfl))) ?_
            refine RunK.cons (.of rfl ((by first | exact ok_idxN un51 ty9 (.t rfl) .c (fun _ => by rw [names_len]; omega) | exact ok_idxM un51 ty9 (.t rfl) .c (fun _ => by rw [names_len]; omega) | exact ok_idx un51 ty9 (.t rfl) .c (fun _ => by rw [names_len]; omega)))) ?_
            refine RunK.cons (.of rfl (ok_load1 ty9 (.t rfl))) ?_
            refine RunK.cons (.of rfl (ok_cat (.t rfl) .c (fun _ => by (try simp only [List.length_append, List.length_cons, List.length_nil]); have n10 := nl 10; have n11 := nl 11; have n12 := nl 12; have n4 := nl 4; have n5 := nl 5; have n9 := nl 9; have nk := nl e.kind.toNat; (try simp only [show ((10 : Int)).toNat = 10 from rfl, show ((11 : Int)).toNat = 11 from rfl, show ((12 : Int)).toNat = 12 from rfl, show ((4 : Int)).toNat = 4 from rfl, show ((5 : Int)).toNat = 5 from rfl, show ((9 : Int)).toNat = 9 from rfl]); omega))) ?_
            refine RunK.cons (.of rfl (ok_fieldP fd35_3 rfl (.t rfl))) ?_
            refine RunK.cons (.of rfl (ok_load1 ty3 (.t rfl))) ?_
            refine RunK.cons (.of rfl (ok_call (c_spec_l6Dec _ (hfit _ (by simp))) (args_cons (.t rfl) args_nil))) ?_
            refine RunK.cons (.of rfl (ok_cat (.t rfl) (.t rfl) (fun _ => by (try simp only [List.length_append, List.length_cons, List.length_nil]); have n10 := nl 10; have n11 := nl 11; have n12 := nl 12; have n4 := nl 4; have n5 := nl 5; have n9 := nl 9; have nk := nl e.kind.toNat; (try simp only [show ((10 : Int)).toNat = 10 from rfl, show ((11 : Int)).toNat = 11 from rfl, show ((12 : Int)).toNat = 12 from rfl, show ((4 : Int)).toNat = 4 from rfl, show ((5 : Int)).toNat = 5 from rfl, show ((9 : Int)).toNat = 9 from rfl]); omega))) ?_
            refine RunK.cons (.of rfl (ok_assign (.t rfl))) ?_
            refine RunK.nil ?_
            intro I a w hs
            refine then_n ?_
            refine wp_ret ?_
            refine block_r ?_
            refine then_r ?_
            refine hs.ret rfl (.cons (.t rfl) ResL.nil) ?_
            first | (exfalso; omega) | (refine ret_av (congrArg AV.text ?_); rw [lineB_unfold]; (repeat (first | rw [if_pos (by omega)] | rw [if_neg (by omega)])) <;> rfl)
        · try simp only [decide_eq_true_eq, decide_eq_false_iff_not, Bool.not_eq_true', Bool.not_eq_false', Bool.and_eq_true, Bool.or_eq_true, Bool.and_eq_false_iff, Bool.or_eq_false_iff, beq_iff_eq, bne_iff_ne, bne_eq_false_iff_eq, beq_eq_false_iff_ne, ne_eq, Int.not_lt, Int.not_le, Int.ofNat_lt, Int.ofNat_le] at hb17
          refine wp_seq ?_
          refine St.region ?_
          refine hs.op rfl rfl rfl (ok_eqi (.t rfl) .c) fun I a w hs => ?_
          refine hs.op rfl rfl rfl (ok_assign (.t rfl)) fun I a w hs => ?_
          refine wpList_nil ?_
          refine then_n ?_
          refine hs.cond (.t rfl) (fun hb19 => ?_) (fun hb19 => ?_)
          · try simp only [decide_eq_true_eq, decide_eq_false_iff_not, Bool.not_eq_true', Bool.not_eq_false', Bool.and_eq_true, Bool.or_eq_true, Bool.and_eq_false_iff, Bool.or_eq_false_iff, beq_iff_eq, bne_iff_ne, bne_eq_false_iff_eq, beq_eq_false_iff_ne, ne_eq, Int.not_lt, Int.not_le, Int.ofNat_lt, Int.ofNat_le] at hb19
            refine wp_seq ?_
            refine hs.drawK (by kernel_rfl) (by kernel_rfl) rfl ?_
            refine RunK.cons (.of rfl (ok_move (.t rfl))) ?_
            refine RunK.cons (.of rfl ((by first | exact ok_idxN un51 ty9 (.t rfl) .c (fun _ => by rw [names_len]; omega) | exact ok_idxM un51 ty9 (.t rfl) .c (fun _ => by rw [names_len]; omega) | exact ok_idx un51 ty9 (.t rfl) .c (fun _ => by rw [names_len]; omega)))) ?_
            refine RunK.cons (.of rfl (ok_load1 ty9 (.t rfl))) ?_
            refine RunK.cons (.of rfl (ok_cat (.t rfl) .c (fun _ => by (try simp only [List.length_append, List.length_cons, List.length_nil]); have n10 := nl 10; have n11 := nl 11; have n12 := nl 12; have n4 := nl 4; have n5 := nl 5; have n9 := nl 9; have nk := nl e.kind.toNat; (try simp only [show ((10 : Int)).toNat = 10 from rfl, show ((11 : Int)).toNat = 11 from rfl, show ((12 : Int)).toNat = 12 from rfl, show ((4 : Int)).toNat = 4 from rfl, show ((5 : Int)).toNat = 5 from rfl, show ((9 : Int)).toNat = 9 from rfl]); omega))) ?_
            refine RunK.cons (.of rfl (ok_fieldP fd35_3 rfl (.t rfl))) ?_
            refine RunK.cons (.of rfl (ok_load1 ty3 (.t rfl))) ?_
            refine RunK.cons (.of rfl (ok_call (c_spec_l6Dec _ (hfit _ (by simp))) (args_cons (.t rfl) args_nil))) ?_
            refine RunK.cons (.of rfl (ok_cat (.t rfl) (.t rfl) (fun _ => by (try simp only [List.length_append, List.length_cons, List.length_nil]); have n10 := nl 10; have n11 := nl 11; have n12 := nl 12; have n4 := nl 4; have n5 := nl 5; have n9 := nl 9; have nk := nl e.kind.toNat; (try simp only [show ((10 : Int)).toNat = 10 from rfl, show ((11 : Int)).toNat = 11 from rfl, show ((12 : Int)).toNat = 12 from rfl, show ((4 : Int)).toNat = 4 from rfl, show ((5 : Int)).toNat = 5 from rfl, show ((9 : Int)).toNat = 9 from rfl]); omega))) ?_
            refine RunK.cons (.of rfl (ok_assign (.t rfl))) ?_
            refine RunK.nil ?_
            intro I a w hs
            refine then_n ?_
            refine wp_ret ?_
            refine block_r ?_
            refine then_r ?_
            refine hs.ret rfl (.cons (.t rfl) ResL.nil) ?_
            first | (exfalso; omega) | (refine ret_av (congrArg AV.text ?_); rw [lineB_unfold]; (repeat (first | rw [if_pos (by omega)] | rw [if_neg (by omega)])) <;> rfl)
          · try simp only [decide_eq_true_eq, decide_eq_false_iff_not, Bool.not_eq_true', Bool.not_eq_false', Bool.and_eq_true, Bool.or_eq_true, Bool.and_eq_false_iff, Bool.or_eq_false_iff, beq_iff_eq, bne_iff_ne, bne_eq_false_iff_eq, beq_eq_false_iff_ne, ne_eq, Int.not_lt, Int.not_le, Int.ofNat_lt, Int.ofNat_le] at hb19
            refine wp_seq ?_
            refine wp_seq ?_
            refine St.region ?_
            refine hs.op rfl rfl rfl (ok_eqi (.t rfl) .c) fun I a w hs => ?_
            refine hs.op rfl rfl rfl (ok_assign (.t rfl)) fun I a w hs => ?_
            refine wpList_nil ?_
            refine then_n ?_
            refine hs.cond (.t rfl) (fun hb20 => ?_) (fun hb20 => ?_)
            · try simp only [decide_eq_true_eq, decide_eq_false_iff_not, Bool.not_eq_true', Bool.not_eq_false', Bool.and_eq_true, Bool.or_eq_true, Bool.and_eq_false_iff, Bool.or_eq_false_iff, beq_iff_eq, bne_iff_ne, bne_eq_false_iff_eq, beq_eq_false_iff_ne, ne_eq, Int.not_lt, Int.not_le, Int.ofNat_lt, Int.ofNat_le] at hb20
              refine wp_skip ?_
              refine then_n ?_
              refine hs.cond (.t rfl) (fun hb21 => ?_) (fun hb21 => ?_)
              · try simp only [decide_eq_true_eq, decide_eq_false_iff_not, Bool.not_eq_true', Bool.not_eq_false', Bool.and_eq_true, Bool.or_eq_true, Bool.and_eq_false_iff, Bool.or_eq_false_iff, beq_iff_eq, bne_iff_ne, bne_eq_false_iff_eq, beq_eq_false_iff_ne, ne_eq, Int.not_lt, Int.not_le, Int.ofNat_lt, Int.ofNat_le] at hb21
                refine wp_seq ?_
                refine hs.drawK (by kernel_rfl) (by kernel_rfl) rfl ?_
                refine RunK.cons (.of rfl (ok_move (.t rfl))) ?_
                refine RunK.cons (.of rfl (ok_fieldP fd35_0 rfl (.t rfl))) ?_
                refine RunK.cons (.of rfl (ok_load1 ty3 (.t rfl))) ?_
                refine RunK.cons (.of rfl ((by first | exact ok_idxN un51 ty9 (.t rfl) (.t rfl) (fun _ => by rw [names_len]; omega) | exact ok_idxM un51 ty9 (.t rfl) (.t rfl) (fun _ => by rw [names_len]; omega) | exact ok_idx un51 ty9 (.t rfl) (.t rfl) (fun _ => by rw [names_len]; omega)))) ?_
                refine RunK.cons (.of rfl (ok_load1 ty9 (.t rfl))) ?_
                refine RunK.cons (.of rfl (ok_cat (.t rfl) .c (fun _ => by (try simp only [List.length_append, List.length_cons, List.length_nil]); have n10 := nl 10; have n11 := nl 11; have n12 := nl 12; have n4 := nl 4; have n5 := nl 5; have n9 := nl 9; have nk := nl e.kind.toNat; (try simp only [show ((10 : Int)).toNat = 10 from rfl, show ((11 : Int)).toNat = 11 from rfl, show ((12 : Int)).toNat = 12 from rfl, show ((4 : Int)).toNat = 4 from rfl, show ((5 : Int)).toNat = 5 from rfl, show ((9 : Int)).toNat = 9 from rfl]); omega))) ?_
                refine RunK.cons (.of rfl (ok_fieldP fd35_1 rfl (.t rfl))) ?_
                refine RunK.cons (.of rfl (ok_load1 ty3 (.t rfl))) ?_
                refine RunK.cons (.of rfl (ok_call (c_spec_l6Dec _ (hfit _ (by simp))) (args_cons (.t rfl) args_nil))) ?_
                refine RunK.cons (.of rfl (ok_cat (.t rfl) (.t rfl) (fun _ => by (try simp only [List.length_append, List.length_cons, List.length_nil]); have n10 := nl 10; have n11 := nl 11; have n12 := nl 12; have n4 := nl 4; have n5 := nl 5; have n9 := nl 9; have nk := nl e.kind.toNat; (try simp only [show ((10 : Int)).toNat = 10 from rfl, show ((11 : Int)).toNat = 11 from rfl, show ((12 : Int)).toNat = 12 from rfl, show ((4 : Int)).toNat = 4 from rfl, show ((5 : Int)).toNat = 5 from rfl, show ((9 : Int)).toNat = 9 from rfl]); omega))) ?_
                refine RunK.cons (.of rfl (ok_assign (.t rfl))) ?_
                refine RunK.nil ?_
                intro I a w hs
                refine then_n ?_
                refine wp_ret ?_
                refine block_r ?_
                refine then_r ?_
                refine hs.ret rfl (.cons (.t rfl) ResL.nil) ?_
                first | (exfalso; omega) | (refine ret_av (congrArg AV.text ?_); rw [lineB_unfold]; (repeat (first | rw [if_pos (by omega)] | rw [if_neg (by omega)])) <;> rfl)
              · try simp only [decide_eq_true_eq, decide_eq_false_iff_not, Bool.not_eq_true', Bool.not_eq_false', Bool.and_eq_true, Bool.or_eq_true, Bool.and_eq_false_iff, Bool.or_eq_false_iff, beq_iff_eq, bne_iff_ne, bne_eq_false_iff_eq, beq_eq_false_iff_ne, ne_eq, Int.not_lt, Int.not_le, Int.ofNat_lt, Int.ofNat_le] at hb21
                refine wp_seq ?_
                refine St.region ?_
                refine hs.op rfl rfl rfl (ok_eqi (.t rfl) .c) fun I a w hs => ?_
                refine hs.op rfl rfl rfl (ok_assign (.t rfl)) fun I a w hs => ?_
                refine wpList_nil ?_
                refine then_n ?_
                refine hs.cond (.t rfl) (fun hb22 => ?_) (fun hb22 => ?_)
                · try simp only [decide_eq_true_eq, decide_eq_false_iff_not, Bool.not_eq_true', Bool.not_eq_false', Bool.and_eq_true, Bool.or_eq_true, Bool.and_eq_false_iff, Bool.or_eq_false_iff, beq_iff_eq, bne_iff_ne, bne_eq_false_iff_eq, beq_eq_false_iff_ne, ne_eq, Int.not_lt, Int.not_le, Int.ofNat_lt, Int.ofNat_le] at hb22
                  refine wp_seq ?_
                  refine hs.drawK (by kernel_rfl) (by kernel_rfl) rfl ?_
                  refine RunK.cons (.of rfl (ok_move (.t rfl))) ?_
                  refine RunK.cons (.of rfl ((by first | exact ok_idxN un51 ty9 (.t rfl) .c (fun _ => by rw [names_len]; omega) | exact ok_idxM un51 ty9 (.t rfl) .c (fun _ => by rw [names_len]; omega) | exact ok_idx un51 ty9 (.t rfl) .c (fun _ => by rw [names_len]; omega)))) ?_
                  refine RunK.cons (.of rfl (ok_load1 ty9 (.t rfl))) ?_
                  refine RunK.cons (.of rfl (ok_cat (.t rfl) .c (fun _ => by (try simp only [List.length_append, List.length_cons, List.length_nil]); have n10 := nl 10; have n11 := nl 11; have n12 := nl 12; have n4 := nl 4; have n5 := nl 5; have n9 := nl 9; have nk := nl e.kind.toNat; (try simp only [show ((10 : Int)).toNat = 10 from rfl, show ((11 : Int)).toNat = 11 from rfl, show ((12 : Int)).toNat = 12 from rfl, show ((4 : Int)).toNat = 4 from rfl, show ((5 : Int)).toNat = 5 from rfl, show ((9 : Int)).toNat = 9 from rfl]); omega))) ?_
                  refine RunK.cons (.of rfl (ok_fieldP fd35_1 rfl (.t rfl))) ?_
                  refine RunK.cons (.of rfl (ok_load1 ty3 (.t rfl))) ?_
                  refine RunK.cons (.of rfl (ok_call (c_spec_l6Dec _ (hfit _ (by simp))) (args_cons (.t rfl) args_nil))) ?_
                  refine RunK.cons (.of rfl (ok_cat (.t rfl) (.t rfl) (fun _ => by (try simp only [List.length_append, List.length_cons, List.length_nil]); have n10 := nl 10; have n11 := nl 11; have n12 := nl 12; have n4 := nl 4; have n5 := nl 5; have n9 := nl 9; have nk := nl e.kind.toNat; (try simp only [show ((10 : Int)).toNat = 10 from rfl, show ((11 : Int)).toNat = 11 from rfl, show ((12 : Int)).toNat = 12 from rfl, show ((4 : Int)).toNat = 4 from rfl, show ((5 : Int)).toNat = 5 from rfl, show ((9 : Int)).toNat = 9 from rfl]); omega))) ?_
                  refine RunK.cons (.of rfl (ok_cat (.t rfl) .c (fun _ => by (try simp only [List.length_append, List.length_cons, List.length_nil]); have n10 := nl 10; have n11 := nl 11; have n12 := nl 12; have n4 := nl 4; have n5 := nl 5; have n9 := nl 9; have nk := nl e.kind.toNat; (try simp only [show ((10 : Int)).toNat = 10 from rfl, show ((11 : Int)).toNat = 11 from rfl, show ((12 : Int)).toNat = 12 from rfl, show ((4 : Int)).toNat = 4 from rfl, show ((5 : Int)).toNat = 5 from rfl, show ((9 : Int)).toNat = 9 from rfl]); omega))) ?_
                  refine RunK.cons (.of rfl (ok_fieldP fd35_5 rfl (.t rfl))) ?_
                  refine RunK.cons (.of rfl (ok_load1 ty3 (.t rfl))) ?_
                  refine RunK.cons (.of rfl (ok_call (c_spec_l6Dec _ (hfit _ (by simp))) (args_cons (.t rfl) args_nil))) ?_
                  refine RunK.cons (.of rfl (ok_cat (.t rfl) (.t rfl) (fun _ => by (try simp only [List.length_append, List.length_cons, List.length_nil]); have n10 := nl 10; have n11 := nl 11; have n12 := nl 12; have n4 := nl 4; have n5 := nl 5; have n9 := nl 9; have nk := nl e.kind.toNat; (try simp only [show ((10 : Int)).toNat = 10 from rfl, show ((11 : Int)).toNat = 11 from rfl, show ((12 : Int)).toNat = 12 from rfl, show ((4 : Int)).toNat = 4 from rfl, show ((5 : Int)).toNat = 5 from rfl, show ((9 : Int)).toNat = 9 from rfl]); omega))) ?_
                  refine RunK.cons (.of rfl (ok_assign (.t rfl))) ?_
                  refine RunK.nil ?_
                  intro I a w hs
                  refine then_n ?_
                  refine wp_ret ?_
                  refine block_r ?_
                  refine then_r ?_
                  refine hs.ret rfl (.cons (.t rfl) ResL.nil) ?_
                  first | (exfalso; omega) | (refine ret_av (congrArg AV.text ?_); rw [lineB_unfold]; (repeat (first | rw [if_pos (by omega)] | rw [if_neg (by omega)])) <;> rfl)
                · try simp only [decide_eq_true_eq, decide_eq_false_iff_not, Bool.not_eq_true', Bool.not_eq_false', Bool.and_eq_true, Bool.or_eq_true, Bool.and_eq_false_iff, Bool.or_eq_false_iff, beq_iff_eq, bne_iff_ne, bne_eq_false_iff_eq, beq_eq_false_iff_ne, ne_eq, Int.not_lt, Int.not_le, Int.ofNat_lt, Int.ofNat_le] at hb22
                  refine wp_skip ?_
                  refine block_n ?_
                  refine then_n ?_
                  refine wp_seq ?_
                  refine St.region ?_
                  refine hs.op rfl rfl rfl (ok_assign .c) fun I a w hs => ?_
                  refine wpList_nil ?_
                  refine then_n ?_
                  refine wp_ret ?_
                  refine hs.ret rfl (.cons (.t rfl) ResL.nil) ?_
                  first | (exfalso; omega) | (refine ret_av (congrArg AV.text ?_); rw [lineB_unfold]; (repeat (first | rw [if_pos (by omega)] | rw [if_neg (by omega)])) <;> rfl)
            · try simp only [decide_eq_true_eq, decide_eq_false_iff_not, Bool.not_eq_true', Bool.not_eq_false', Bool.and_eq_true, Bool.or_eq_true, Bool.and_eq_false_iff, Bool.or_eq_false_iff, beq_iff_eq, bne_iff_ne, bne_eq_false_iff_eq, beq_eq_false_iff_ne, ne_eq, Int.not_lt, Int.not_le, Int.ofNat_lt, Int.ofNat_le] at hb20
              refine wp_seq ?_
              refine St.region ?_
              refine hs.op rfl rfl rfl (ok_eqi (.t rfl) .c) fun I a w hs => ?_
              refine hs.op rfl rfl rfl (ok_assign (.t rfl)) fun I a w hs => ?_
              refine wpList_nil ?_
              refine then_n ?_
              refine hs.cond (.t rfl) (fun hb23 => ?_) (fun hb23 => ?_)
              · try simp only [decide_eq_true_eq, decide_eq_false_iff_not, Bool.not_eq_true', Bool.not_eq_false', Bool.and_eq_true, Bool.or_eq_true, Bool.and_eq_false_iff, Bool.or_eq_false_iff, beq_iff_eq, bne_iff_ne, bne_eq_false_iff_eq, beq_eq_false_iff_ne, ne_eq, Int.not_lt, Int.not_le, Int.ofNat_lt, Int.ofNat_le] at hb23
                refine wp_skip ?_
                refine then_n ?_
                refine hs.cond (.t rfl) (fun hb24 => ?_) (fun hb24 => ?_)
                · try simp only [decide_eq_true_eq, decide_eq_false_iff_not, Bool.not_eq_true', Bool.not_eq_false', Bool.and_eq_true, Bool.or_eq_true, Bool.and_eq_false_iff, Bool.or_eq_false_iff, beq_iff_eq, bne_iff_ne, bne_eq_false_iff_eq, beq_eq_false_iff_ne, ne_eq, Int.not_lt, Int.not_le, Int.ofNat_lt, Int.ofNat_le] at hb24
                  refine wp_seq ?_
                  refine hs.drawK (by kernel_rfl) (by kernel_rfl) rfl ?_
                  refine RunK.cons (.of rfl (ok_move (.t rfl))) ?_
                  refine RunK.cons (.of rfl (ok_fieldP fd35_0 rfl (.t rfl))) ?_
                  refine RunK.cons (.of rfl (ok_load1 ty3 (.t rfl))) ?_
                  refine RunK.cons (.of rfl ((by first | exact ok_idxN un51 ty9 (.t rfl) (.t rfl) (fun _ => by rw [names_len]; omega) | exact ok_idxM un51 ty9 (.t rfl) (.t rfl) (fun _ => by rw [names_len]; omega) | exact ok_idx un51 ty9 (.t rfl) (.t rfl) (fun _ => by rw [names_len]; omega)))) ?_
                  refine RunK.cons (.of rfl (ok_load1 ty9 (.t rfl))) ?_
                  refine RunK.cons (.of rfl (ok_cat (.t rfl) .c (fun _ => by (try simp only [List.length_append, List.length_cons, List.length_nil]); have n10 := nl 10; have n11 := nl 11; have n12 := nl 12; have n4 := nl 4; have n5 := nl 5; have n9 := nl 9; have nk := nl e.kind.toNat; (try simp only [show ((10 : Int)).toNat = 10 from rfl, show ((11 : Int)).toNat = 11 from rfl, show ((12 : Int)).toNat = 12 from rfl, show ((4 : Int)).toNat = 4 from rfl, show ((5 : Int)).toNat = 5 from rfl, show ((9 : Int)).toNat = 9 from rfl]); omega))) ?_
                  refine RunK.cons (.of rfl (ok_fieldP fd35_1 rfl (.t rfl))) ?_
                  refine RunK.cons (.of rfl (ok_load1 ty3 (.t rfl))) ?_
                  refine RunK.cons (.of rfl (ok_call (c_spec_l6Dec _ (hfit _ (by simp))) (args_cons (.t rfl) args_nil))) ?_
                  refine RunK.cons (.of rfl (ok_cat (.t rfl) (.t rfl) (fun _ => by (try simp only [List.length_append, List.length_cons, List.length_nil]); have n10 := nl 10; have n11 := nl 11; have n12 := nl 12; have n4 := nl 4; have n5 := nl 5; have n9 := nl 9; have nk := nl e.kind.toNat; (try simp only [show ((10 : Int)).toNat = 10 from rfl, show ((11 : Int)).toNat = 11 from rfl, show ((12 : Int)).toNat = 12 from rfl, show ((4 : Int)).toNat = 4 from rfl, show ((5 : Int)).toNat = 5 from rfl, show ((9 : Int)).toNat = 9 from rfl]); omega))) ?_
                  refine RunK.cons (.of rfl (ok_assign (.t rfl))) ?_
                  refine RunK.nil ?_
                  intro I a w hs
                  refine then_n ?_
                  refine wp_ret ?_
                  refine block_r ?_
                  refine then_r ?_
                  refine hs.ret rfl (.cons (.t rfl) ResL.nil) ?_
                  first | (exfalso; omega) | (refine ret_av (congrArg AV.text ?_); rw [lineB_unfold]; (repeat (first | rw [if_pos (by omega)] | rw [if_neg (by omega)])) <;> rfl)
                · try simp only [decide_eq_true_eq, decide_eq_false_iff_not, Bool.not_eq_true', Bool.not_eq_false', Bool.and_eq_true, Bool.or_eq_true, Bool.and_eq_false_iff, Bool.or_eq_false_iff, beq_iff_eq, bne_iff_ne, bne_eq_false_iff_eq, beq_eq_false_iff_ne, ne_eq, Int.not_lt, Int.not_le, Int.ofNat_lt, Int.ofNat_le] at hb24
                  refine wp_seq ?_
                  refine St.region ?_
                  refine hs.op rfl rfl rfl (ok_eqi (.t rfl) .c) fun I a w hs => ?_
                  refine hs.op rfl rfl rfl (ok_assign (.t rfl)) fun I a w hs => ?_
                  refine wpList_nil ?_
                  refine then_n ?_
                  refine hs.cond (.t rfl) (fun hb25 => ?_) (fun hb25 => ?_)
                  · try simp only [decide_eq_true_eq, decide_eq_false_iff_not, Bool.not_eq_true', Bool.not_eq_false', Bool.and_eq_true, Bool.or_eq_true, Bool.and_eq_false_iff, Bool.or_eq_false_iff, beq_iff_eq, bne_iff_ne, bne_eq_false_iff_eq, beq_eq_false_iff_ne, ne_eq, Int.not_lt, Int.not_le, Int.ofNat_lt, Int.ofNat_le] at hb25
                    refine wp_seq ?_
                    refine hs.drawK (by kernel_rfl) (by kernel_rfl) rfl ?_
                    refine RunK.cons (.of rfl (ok_move (.t rfl))) ?_
                    refine RunK.cons (.of rfl ((by first | exact ok_idxN un51 ty9 (.t rfl) .c (fun _ => by rw [names_len]; omega) | exact ok_idxM un51 ty9 (.t rfl) .c (fun _ => by rw [names_len]; omega) | exact ok_idx un51 ty9 (.t rfl) .c (fun _ => by rw [names_len]; omega)))) ?_
                    refine RunK.cons (.of rfl (ok_load1 ty9 (.t rfl))) ?_
                    refine RunK.cons (.of rfl (ok_cat (.t rfl) .c (fun _ => by (try simp only [List.length_append, List.length_cons, List.length_nil]); have n10 := nl 10; have n11 := nl 11; have n12 := nl 12; have n4 := nl 4; have n5 := nl 5; have n9 := nl 9; have nk := nl e.kind.toNat; (try simp only [show ((10 : Int)).toNat = 10 from rfl, show ((11 : Int)).toNat = 11 from rfl, show ((12 : Int)).toNat = 12 from rfl, show ((4 : Int)).toNat = 4 from rfl, show ((5 : Int)).toNat = 5 from rfl, show ((9 : Int)).toNat = 9 from rfl]); omega))) ?_
                    refine RunK.cons (.of rfl (ok_fieldP fd35_1 rfl (.t rfl))) ?_
                    refine RunK.cons (.of rfl (ok_load1 ty3 (.t rfl))) ?_
                    refine RunK.cons (.of rfl (ok_call (c_spec_l6Dec _ (hfit _ (by simp))) (args_cons (.t rfl) args_nil))) ?_
                    refine RunK.cons (.of rfl (ok_cat (.t rfl) (.t rfl) (fun _ => by (try simp only [List.length_append, List.length_cons, List.length_nil]); have n10 := nl 10; have n11 := nl 11; have n12 := nl 12; have n4 := nl 4; have n5 := nl 5; have n9 := nl 9; have nk := nl e.kind.toNat; (try simp only [show ((10 : Int)).toNat = 10 from rfl, show ((11 : Int)).toNat = 11 from rfl, show ((12 : Int)).toNat = 12 from rfl, show ((4 : Int)).toNat = 4 from rfl, show ((5 : Int)).toNat = 5 from rfl, show ((9 : Int)).toNat = 9 from rfl]); omega))) ?_
                    refine RunK.cons (.of rfl (ok_cat (.t rfl) .c (fun _ => by (try simp only [List.length_append, List.length_cons, List.length_nil]); have n10 := nl 10; have n11 := nl 11; have n12 := nl 12; have n4 := nl 4; have n5 := nl 5; have n9 := nl 9; have nk := nl e.kind.toNat; (try simp only [show ((10 : Int)).toNat = 10 from rfl, show ((11 : Int)).toNat = 11 from rfl, show ((12 : Int)).toNat = 12 from rfl, show ((4 : Int)).toNat = 4 from rfl, show ((5 : Int)).toNat = 5 from rfl, show ((9 : Int)).toNat = 9 from rfl]); omega))) ?_
                    refine RunK.cons (.of rfl (ok_fieldP fd35_5 rfl (.t rfl))) ?_
                    refine RunK.cons (.of rfl (ok_load1 ty3 (.t rfl))) ?_
                    refine RunK.cons (.of rfl (ok_call (c_spec_l6Dec _ (hfit _ (by simp))) (args_cons (.t rfl) args_nil))) ?_
                    refine RunK.cons (.of rfl (ok_cat (.t rfl) (.t rfl) (fun _ => by (try simp only [List.length_append, List.length_cons, List.length_nil]); have n10 := nl 10; have n11 := nl 11; have n12 := nl 12; have n4 := nl 4; have n5 := nl 5; have n9 := nl 9; have nk := nl e.kind.toNat; (try simp only [show ((10 : Int)).toNat = 10 from rfl, show ((11 : Int)).toNat = 11 from rfl, show ((12 : Int)).toNat = 12 from rfl, show ((4 : Int)).toNat = 4 from rfl, show ((5 : Int)).toNat = 5 from rfl, show ((9 : Int)).toNat = 9 from rfl]); omega))) ?_
                    refine RunK.cons (.of rfl (ok_assign (.t rfl))) ?_
                    refine RunK.nil ?_
                    intro I a w hs
                    refine then_n ?_
                    refine wp_ret ?_
                    refine block_r ?_
                    refine then_r ?_
                    refine hs.ret rfl (.cons (.t rfl) ResL.nil) ?_
                    first | (exfalso; omega) | (refine ret_av (congrArg AV.text ?_); rw [lineB_unfold]; (repeat (first | rw [if_pos (by omega)] | rw [if_neg (by omega)])) <;> rfl)
                  · try simp only [decide_eq_true_eq, decide_eq_false_iff_not, Bool.not_eq_true', Bool.not_eq_false', Bool.and_eq_true, Bool.or_eq_true, Bool.and_eq_false_iff, Bool.or_eq_false_iff, beq_iff_eq, bne_iff_ne, bne_eq_false_iff_eq, beq_eq_false_iff_ne, ne_eq, Int.not_lt, Int.not_le, Int.ofNat_lt, Int.ofNat_le] at hb25
                    refine wp_skip ?_
                    refine block_n ?_
                    refine then_n ?_
                    refine wp_seq ?_
                    refine St.region ?_
                    refine hs.op rfl rfl rfl (ok_assign .c) fun I a w hs => ?_
                    refine wpList_nil ?_
                    refine then_n ?_
                    refine wp_ret ?_
                    refine hs.ret rfl (.cons (.t rfl) ResL.nil) ?_
                    first | (exfalso; omega) | (refine ret_av (congrArg AV.text ?_); rw [lineB_unfold]; (repeat (first | rw [if_pos (by omega)] | rw [if_neg (by omega)])) <;> rfl)
              · try simp only [decide_eq_true_eq, decide_eq_false_iff_not, Bool.not_eq_true', Bool.not_eq_false', Bool.and_eq_true, Bool.or_eq_true, Bool.and_eq_false_iff, Bool.or_eq_false_iff, beq_iff_eq, bne_iff_ne, bne_eq_false_iff_eq, beq_eq_false_iff_ne, ne_eq, Int.not_lt, Int.not_le, Int.ofNat_lt, Int.ofNat_le] at hb23
                refine St.region ?_
                refine hs.op rfl rfl rfl (ok_eqi (.t rfl) .c) fun I a w hs => ?_
                refine hs.op rfl rfl rfl (ok_assign (.t rfl)) fun I a w hs => ?_
                refine wpList_nil ?_
                refine then_n ?_
                refine hs.cond (.t rfl) (fun hb26 => ?_) (fun hb26 => ?_)
                · try simp only [decide_eq_true_eq, decide_eq_false_iff_not, Bool.not_eq_true', Bool.not_eq_false', Bool.and_eq_true, Bool.or_eq_true, Bool.and_eq_false_iff, Bool.or_eq_false_iff, beq_iff_eq, bne_iff_ne, bne_eq_false_iff_eq, beq_eq_false_iff_ne, ne_eq, Int.not_lt, Int.not_le, Int.ofNat_lt, Int.ofNat_le] at hb26
                  refine wp_seq ?_
                  refine hs.drawK (by kernel_rfl) (by kernel_rfl) rfl ?_
                  refine RunK.cons (.of rfl (ok_move (.t rfl))) ?_
                  refine RunK.cons (.of rfl (ok_fieldP fd35_0 rfl (.t rfl))) ?_
                  refine RunK.cons (.of rfl (ok_load1 ty3 (.t rfl))) ?_
                  refine RunK.cons (.of rfl ((by first | exact ok_idxN un51 ty9 (.t rfl) (.t rfl) (fun _ => by rw [names_len]; omega) | exact ok_idxM un51 ty9 (.t rfl) (.t rfl) (fun _ => by rw [names_len]; omega) | exact ok_idx un51 ty9 (.t rfl) (.t rfl) (fun _ => by rw [names_len]; omega)))) ?_
                  refine RunK.cons (.of rfl (ok_load1 ty9 (.t rfl))) ?_
                  refine RunK.cons (.of rfl (ok_cat (.t rfl) .c (fun _ => by (try simp only [List.length_append, List.length_cons, List.length_nil]); have n10 := nl 10; have n11 := nl 11; have n12 := nl 12; have n4 := nl 4; have n5 := nl 5; have n9 := nl 9; have nk := nl e.kind.toNat; (try simp only [show ((10 : Int)).toNat = 10 from rfl, show ((11 : Int)).toNat = 11 from rfl, show ((12 : Int)).toNat = 12 from rfl, show ((4 : Int)).toNat = 4 from rfl, show ((5 : Int)).toNat = 5 from rfl, show ((9 : Int)).toNat = 9 from rfl]); omega))) ?_
                  refine RunK.cons (.of rfl (ok_fieldP fd35_1 rfl (.t rfl))) ?_
                  refine RunK.cons (.of rfl (ok_load1 ty3 (.t rfl))) ?_
                  refine RunK.cons (.of rfl (ok_call (c_spec_l6Dec _ (hfit _ (by simp))) (args_cons (.t rfl) args_nil))) ?_
                  refine RunK.cons (.of rfl (ok_cat (.t rfl) (.t rfl) (fun _ => by (try simp only [List.length_append, List.length_cons, List.length_nil]); have n10 := nl 10; have n11 := nl 11; have n12 := nl 12; have n4 := nl 4; have n5 := nl 5; have n9 := nl 9; have nk := nl e.kind.toNat; (try simp only [show ((10 : Int)).toNat = 10 from rfl, show ((11 : Int)).toNat = 11 from rfl, show ((12 : Int)).toNat = 12 from rfl, show ((4 : Int)).toNat = 4 from rfl, show ((5 : Int)).toNat = 5 from rfl, show ((9 : Int)).toNat = 9 from rfl]); omega))) ?_
                  refine RunK.cons (.of rfl (ok_assign (.t rfl))) ?_
                  refine RunK.nil ?_
                  intro I a w hs
                  refine then_n ?_
                  refine wp_ret ?_
                  refine block_r ?_
                  refine then_r ?_
                  refine hs.ret rfl (.cons (.t rfl) ResL.nil) ?_
                  first | (exfalso; omega) | (refine ret_av (congrArg AV.text ?_); rw [lineB_unfold]; (repeat (first | rw [if_pos (by omega)] | rw [if_neg (by omega)])) <;> rfl)
                · try simp only [decide_eq_true_eq, decide_eq_false_iff_not, Bool.not_eq_true', Bool.not_eq_false', Bool.and_eq_true, Bool.or_eq_true, Bool.and_eq_false_iff, Bool.or_eq_false_iff, beq_iff_eq, bne_iff_ne, bne_eq_false_iff_eq, beq_eq_false_iff_ne, ne_eq, Int.not_lt, Int.not_le, Int.ofNat_lt, Int.ofNat_le] at hb26
                  refine wp_seq ?_
                  refine St.region ?_
                  refine hs.op rfl rfl rfl (ok_eqi (.t rfl) .c) fun I a w hs => ?_
                  refine hs.op rfl rfl rfl (ok_assign (.t rfl)) fun I a w hs => ?_
                  refine wpList_nil ?_
                  refine then_n ?_
                  refine hs.cond (.t rfl) (fun hb27 => ?_) (fun hb27 => ?_)
                  · try simp only [decide_eq_true_eq, decide_eq_false_iff_not, Bool.not_eq_true', Bool.not_eq_false', Bool.and_eq_true, Bool.or_eq_true, Bool.and_eq_false_iff, Bool.or_eq_false_iff, beq_iff_eq, bne_iff_ne, bne_eq_false_iff_eq, beq_eq_false_iff_ne, ne_eq, Int.not_lt, Int.not_le, Int.ofNat_lt, Int.ofNat_le] at hb27
                    refine wp_seq ?_
                    refine hs.drawK (by kernel_rfl) (by kernel_rfl) rfl ?_
                    refine RunK.cons (.of rfl (ok_move (.t rfl))) ?_
                    refine RunK.cons (.of rfl ((by first | exact ok_idxN un51 ty9 (.t rfl) .c (fun _ => by rw [names_len]; omega) | exact ok_idxM un51 ty9 (.t rfl) .c (fun _ => by rw [names_len]; omega) | exact ok_idx un51 ty9 (.t rfl) .c (fun _ => by rw [names_len]; omega)))) ?_
                    refine RunK.cons (.of rfl (ok_load1 ty9 (.t rfl))) ?_
                    refine RunK.cons (.of rfl (ok_cat (.t rfl) .c (fun _ => by (try simp only [List.length_append, List.length_cons, List.length_nil]); have n10 := nl 10; have n11 := nl 11; have n12 := nl 12; have n4 := nl 4; have n5 := nl 5; have n9 := nl 9; have nk := nl e.kind.toNat; (try simp only [show ((10 : Int)).toNat = 10 from rfl, show ((11 : Int)).toNat = 11 from rfl, show ((12 : Int)).toNat = 12 from rfl, show ((4 : Int)).toNat = 4 from rfl, show ((5 : Int)).toNat = 5 from rfl, show ((9 : Int)).toNat = 9 from rfl]); omega))) ?_
                    refine RunK.cons (.of rfl (ok_fieldP fd35_1 rfl (.t rfl))) ?_
                    refine RunK.cons (.of rfl (ok_load1 ty3 (.t rfl))) ?_
                    refine RunK.cons (.of rfl (ok_call (c_spec_l6Dec _ (hfit _ (by simp))) (args_cons (.t rfl) args_nil))) ?_
                    refine RunK.cons (.of rfl (ok_cat (.t rfl) (.t rfl) (fun _ => by (try simp only [List.length_append, List.length_cons, List.length_nil]); have n10 := nl 10; have n11 := nl 11; have n12 := nl 12; have n4 := nl 4; have n5 := nl 5; have n9 := nl 9; have nk := nl e.kind.toNat; (try simp only [show ((10 : Int)).toNat = 10 from rfl, show ((11 : Int)).toNat = 11 from rfl, show ((12 : Int)).toNat = 12 from rfl, show ((4 : Int)).toNat = 4 from rfl, show ((5 : Int)).toNat = 5 from rfl, show ((9 : Int)).toNat = 9 from rfl]); omega))) ?_
                    refine RunK.cons (.of rfl (ok_cat (.t rfl) .c (fun _ => by (try simp only [List.length_append, List.length_cons, List.length_nil]); have n10 := nl 10; have n11 := nl 11; have n12 := nl 12; have n4 := nl 4; have n5 := nl 5; have n9 := nl 9; have nk := nl e.kind.toNat; (try simp only [show ((10 : Int)).toNat = 10 from rfl, show ((11 : Int)).toNat = 11 from rfl, show ((12 : Int)).toNat = 12 from rfl, show ((4 : Int)).toNat = 4 from rfl, show ((5 : Int)).toNat = 5 from rfl, show ((9 : Int)).toNat = 9 from rfl]); omega))) ?_
                    refine RunK.cons (.of rfl (ok_fieldP fd35_5 rfl (.t rfl))) ?_
                    refine RunK.cons (.of rfl (ok_load1 ty3 (.t rfl))) ?_
                    refine RunK.cons (.of rfl (ok_call (c_spec_l6Dec _ (hfit _ (by simp))) (args_cons (.t rfl) args_nil))) ?_
                    refine RunK.cons (.of rfl (ok_cat (.t rfl) (.t rfl) (fun _ => by (try simp only [List.length_append, List.length_cons, List.length_nil]); have n10 := nl 10; have n11 := nl 11; have n12 := nl 12; have n4 := nl 4; have n5 := nl 5; have n9 := nl 9; have nk := nl e.kind.toNat; (try simp only [show ((10 : Int)).toNat = 10 from rfl, show ((11 : Int)).toNat = 11 from rfl, show ((12 : Int)).toNat = 12 from rfl, show ((4 : Int)).toNat = 4 from rfl, show ((5 : Int)).toNat = 5 from rfl, show ((9 : Int)).toNat = 9 from rfl]); omega))) ?_
                    refine RunK.cons (.of rfl (ok_assign (.t rfl))) ?_
                    refine RunK.nil ?_
                    intro I a w hs
                    refine then_n ?_
                    refine wp_ret ?_
                    refine block_r ?_
                    refine then_r ?_
                    refine hs.ret rfl (.cons (.t rfl) ResL.nil) ?_
                    first | (exfalso; omega) | (refine ret_av (congrArg AV.text ?_); rw [lineB_unfold]; (repeat (first | rw [if_pos (by omega)] | rw [if_neg (by omega)])) <;> rfl)
                  · try simp only [decide_eq_true_eq, decide_eq_false_iff_not, Bool.not_eq_true', Bool.not_eq_false', Bool.and_eq_true, Bool.or_eq_true, Bool.and_eq_false_iff, Bool.or_eq_false_iff, beq_iff_eq, bne_iff_ne, bne_eq_false_iff_eq, beq_eq_false_iff_ne, ne_eq, Int.not_lt, Int.not_le, Int.ofNat_lt, Int.ofNat_le] at hb27
                    refine wp_skip ?_
                    refine block_n ?_
                    refine then_n ?_
                    refine wp_seq ?_
                    refine St.region ?_
                    refine hs.op rfl rfl rfl (ok_assign .c) fun I a w hs => ?_
                    refine wpList_nil ?_
                    refine then_n ?_
                    refine wp_ret ?_
                    refine hs.ret rfl (.cons (.t rfl) ResL.nil) ?_
                    first | (exfalso; omega) | (refine ret_av (congrArg AV.text ?_); rw [lineB_unfold]; (repeat (first | rw [if_pos (by omega)] | rw [if_neg (by omega)])) <;> rfl)


def neckW (out : List UInt8) : List Ev → List UInt8
  | [] => out
  | e :: r => if evLine e = [] ∨ 60000 < out.length + (evLine e).length then [] else neckW (out ++ evLine e) r
theorem evLine_bad {e : Ev} (h : readB (lineB e) ≠ some e) : evLine e = [] := by unfold evLine; rw [if_neg h]
theorem evLine_good {e : Ev} (h : readB (lineB e) = some e) : evLine e = lineB e ++ [10] := by unfold evLine; rw [if_pos h]
theorem read_test {e : Ev} {o : Option Ev} (h : (!o.isSome || (o.getD default).ints != e.ints) = false) : o = some e := by
  cases o with
  | none => simp at h
  | some f => simp at h; rw [Ev.ints_inj h]
theorem read_test2 {e : Ev} {o : Option Ev} (h : (!o.isSome || (o.getD default).ints != e.ints) = true) : o ≠ some e := fun hh => by
  subst hh; simp at h

theorem c_spec_NeckWrite (l : List Ev) (hl : l.length ≤ 1048576) (h : ∀ e ∈ l, e.Fit) :
    Fn Tryd.prog 6 [evsAV l] (AV.text (neckW [] l)) := by
  refine Fn.intro 42 Tryd.func6 rfl Tryd.ntmps6 rfl (by kernel_rfl) (fun W I a hs => ?_)
  refine wp_seq ?_
  refine St.region ?_
  refine hs.op rfl rfl rfl (ok_assign .c) fun I a w hs => ?_
  refine wpList_nil ?_
  refine then_n ?_
  refine wp_seq ?_
  refine St.region ?_
  refine hs.op rfl rfl rfl (ok_assign .c) fun I a w hs => ?_
  refine wpList_nil ?_
  refine then_n ?_
  refine wp_seq ?_
  refine wp_seq ?_
  refine St.region ?_
  refine hs.op rfl rfl rfl (ok_assign .c) fun I a w hs => ?_
  refine wpList_nil ?_
  refine then_n ?_
  refine wp_block ?_
  refine St.loopS (σ := Nat × List UInt8) (2 :: 3 :: 4 :: 5 :: 6 :: 7 :: 8 :: 9 :: 10 :: 11 :: 12 :: 13 :: 14 :: 15 :: 16 :: 17 :: 18 :: 19 :: 20 :: 21 :: 22 :: 23 :: 24 :: 25 :: 26 :: 27 :: 28 :: 29 :: 30 :: 31 :: 32 :: 33 :: 34 :: 35 :: 36 :: 37 :: 38 :: 39 :: 40 :: []) ⟨fun ⟨k, out⟩ => [(4, AV.int k), (3, AV.text out)], fun ⟨k, out⟩ => [], fun ⟨k, out⟩ => k ≤ l.length ∧ neckW [] l = neckW out (l.drop k) ∧ out.length ≤ 60000⟩ (fun ⟨k, out⟩ => l.length - k) (0, []) hs rfl ?ok1 ?env1 ?round1
  case ok1 => exact ⟨by simp, rfl, by simp⟩
  case env1 => exact (Env.le_consE rfl (by rfl) (Env.le_consE rfl (by rfl) Env.le_nil))
  case round1 =>
    rintro ⟨k, out⟩ I a w hok hs
    obtain ⟨hk, he, hol⟩ := hok
    refine wp_seq ?_
    refine wp_seq ?_
    refine St.region ?_
    refine hs.op rfl rfl rfl (ok_move (.t rfl)) fun I a w hs => ?_
    refine hs.op rfl rfl rfl (ok_move (.t rfl)) fun I a w hs => ?_
    refine hs.op rfl rfl rfl ((by first | exact ok_lenM un25 (.t rfl) | exact ok_len un25 (.t rfl) | exact ok_lenV un25 (.t rfl))) fun I a w hs => ?_
    refine hs.op rfl rfl rfl (ok_lss (.t rfl) (.t rfl)) fun I a w hs => ?_
    refine wpList_nil ?_
    refine then_n ?_
    refine hs.cond (.t rfl) (fun hb1 => ?_) (fun hb1 => ?_)
    · try simp only [decide_eq_true_eq, decide_eq_false_iff_not, Bool.not_eq_true', Bool.not_eq_false', Bool.and_eq_true, Bool.or_eq_true, Bool.and_eq_false_iff, Bool.or_eq_false_iff, beq_iff_eq, bne_iff_ne, bne_eq_false_iff_eq, beq_eq_false_iff_ne, ne_eq, Int.not_lt, Int.not_le, Int.ofNat_lt, Int.ofNat_le] at hb1
      refine wp_skip ?_
      refine then_n ?_
      refine wp_seq ?_
      refine wp_block ?_
      refine wp_seq ?_
      refine St.region ?_
      have hfe : (elt l k).Fit := h _ (by rw [elt, List.getD_eq_getElem?_getD, List.getElem?_eq_getElem hb1]; exact List.getElem_mem _)
      refine hs.op rfl rfl rfl (ok_move (.t rfl)) fun I a w hs => ?_
      refine hs.op rfl rfl rfl (ok_move (.t rfl)) fun I a w hs => ?_
      refine hs.op rfl rfl rfl ((by first | exact ok_idxN un25 ty35 (.t rfl) (.t rfl) (fun _ => by omega) | exact ok_idxM un25 ty35 (.t rfl) (.t rfl) (fun _ => by omega) | exact ok_idx un25 ty35 (.t rfl) (.t rfl) (fun _ => by omega))) fun I a w hs => ?_
      refine hs.op rfl rfl rfl ((by first | exact ok_loadA ty35 (.t rfl) rfl | exact ok_loadS ty35 (.t rfl) rfl)) fun I a w hs => ?_
      refine hs.op rfl rfl rfl (ok_call (c_spec_l45Line _ hfe) (args_cons (.t rfl) args_nil)) fun I a w hs => ?_
      refine hs.op rfl rfl rfl (ok_assign (.t rfl)) fun I a w hs => ?_
      refine wpList_nil ?_
      refine then_n ?_
      refine wp_seq ?_
      refine St.region ?_
      refine hs.op rfl rfl rfl (ok_move (.t rfl)) fun I a w hs => ?_
      refine hs.op rfl rfl rfl (ok_call (c_spec_l45Read _ (by have := lineB_len hfe; omega)) (args_cons (.t rfl) args_nil)) fun I a w hs => ?_
      refine hs.op rfl rfl rfl (ok_move (.t rfl)) fun I a w hs => ?_
      refine hs.op rfl rfl rfl (ok_extract (.t rfl) rfl) fun I a w hs => ?_
      refine hs.op rfl rfl rfl (ok_extract (.t rfl) rfl) fun I a w hs => ?_
      refine hs.alloc rfl ty35 zc35 fun b6 I a w hs => ?_
      refine hs.storeB 0 ty35 (.t rfl) (.t rfl) rfl (by first | rfl | assumption) rfl fun a w hs => ?_
      obtain ⟨I, hs, hf⟩ := hs.freezeBox 0 rfl
      have hs := hs.upd (t := 6) rfl hf; clear hf
      refine hs.op rfl rfl rfl (ok_assign (.t rfl)) fun I a w hs => ?_
      refine wpList_nil ?_
      refine then_n ?_
      refine wp_seq ?_
      refine wp_seq ?_
      refine hs.drawK (by kernel_rfl) (by kernel_rfl) rfl ?_
      refine RunK.cons (.of rfl (ok_move (.t rfl))) ?_
      refine RunK.cons (.of rfl (ok_not (.t rfl))) ?_
      refine RunK.cons (.of rfl (ok_move (.t rfl))) ?_
      refine RunK.cons (.ofG (guarded_F rfl rfl rfl) ((by first | exact ok_loadA ty35 (.t rfl) rfl | exact ok_loadS ty35 (.t rfl) rfl))) ?_
      refine RunK.cons (.ofG (guarded_F rfl rfl rfl) (ok_move (.t rfl))) ?_
      refine RunK.cons (.ofG (guarded_F rfl rfl rfl) (ok_move (.t rfl))) ?_
      refine RunK.cons (.ofG (guarded_F rfl rfl rfl) ((by first | exact ok_idxN un25 ty35 (.g rfl (fun hg => by first | exact hg | exact (Bool.and_eq_true_iff.1 hg).1 | exact (Bool.and_eq_true_iff.1 (Bool.and_eq_true_iff.1 hg).1).1)) (.g rfl (fun hg => by first | exact hg | exact (Bool.and_eq_true_iff.1 hg).1 | exact (Bool.and_eq_true_iff.1 (Bool.and_eq_true_iff.1 hg).1).1)) (fun hg => by omega) | exact ok_idxM un25 ty35 (.g rfl (fun hg => by first | exact hg | exact (Bool.and_eq_true_iff.1 hg).1 | exact (Bool.and_eq_true_iff.1 (Bool.and_eq_true_iff.1 hg).1).1)) (.g rfl (fun hg => by first | exact hg | exact (Bool.and_eq_true_iff.1 hg).1 | exact (Bool.and_eq_true_iff.1 (Bool.and_eq_true_iff.1 hg).1).1)) (fun hg => by omega) | exact ok_idx un25 ty35 (.g rfl (fun hg => by first | exact hg | exact (Bool.and_eq_true_iff.1 hg).1 | exact (Bool.and_eq_true_iff.1 (Bool.and_eq_true_iff.1 hg).1).1)) (.g rfl (fun hg => by first | exact hg | exact (Bool.and_eq_true_iff.1 hg).1 | exact (Bool.and_eq_true_iff.1 (Bool.and_eq_true_iff.1 hg).1).1)) (fun hg => by omega)))) ?_
      refine RunK.cons (.ofG (guarded_F rfl rfl rfl) ((by first | exact ok_loadA ty35 (.g rfl (fun hg => by first | exact hg | exact (Bool.and_eq_true_iff.1 hg).1 | exact (Bool.and_eq_true_iff.1 (Bool.and_eq_true_iff.1 hg).1).1)) rfl | exact ok_loadS ty35 (.g rfl (fun hg => by first | exact hg | exact (Bool.and_eq_true_iff.1 hg).1 | exact (Bool.and_eq_true_iff.1 (Bool.and_eq_true_iff.1 hg).1).1)) rfl))) ?_
      refine RunK.cons (.ofG (guarded_F rfl rfl rfl) (ok_neS [_, _, _, _, _, _, _, _, _, _, _] [_, _, _, _, _, _, _, _, _, _, _] eqt35 rfl rfl (.g rfl (fun hg => by first | exact hg | exact (Bool.and_eq_true_iff.1 hg).1 | exact (Bool.and_eq_true_iff.1 (Bool.and_eq_true_iff.1 hg).1).1)) (.g rfl (fun hg => by first | exact hg | exact (Bool.and_eq_true_iff.1 hg).1 | exact (Bool.and_eq_true_iff.1 (Bool.and_eq_true_iff.1 hg).1).1)))) ?_
      refine RunK.cons (.of rfl (ok_or (.t rfl) .c (by first | exact .t rfl | exact .gc rfl (fun hg => hg) | exact .gc rfl (fun hg => (Bool.and_eq_true_iff.1 hg).1)))) ?_
      refine RunK.nil ?_
      intro I a w hs
      refine then_n ?_
      refine hs.cond (.t rfl) (fun hb2 => ?_) (fun hb2 => ?_)
      · skip
        refine wp_seq ?_
        refine St.region ?_
        refine hs.op rfl rfl rfl (ok_assign .c) fun I a w hs => ?_
        refine wpList_nil ?_
        refine then_n ?_
        refine wp_ret ?_
        refine then_r ?_
        refine block_r ?_
        refine then_r ?_
        refine then_r ?_
        refine block_r ?_
        refine then_r ?_
        refine hs.ret rfl (.cons (.t rfl) ResL.nil) ?_
        exact ret_av (congrArg AV.text (by rw [he, drop_elt hb1, neckW, evLine_bad (read_test2 hb2), if_pos (.inl rfl)]))
      · skip
        refine wp_skip ?_
        refine then_n ?_
        refine wp_seq ?_
        refine St.region ?_
        refine hs.op rfl rfl rfl (ok_move (.t rfl)) fun I a w hs => ?_
        refine hs.op rfl rfl rfl (ok_move (.t rfl)) fun I a w hs => ?_
        refine hs.op rfl rfl rfl (ok_cat (.t rfl) (.t rfl) (fun _ => by have := lineB_len hfe; omega)) fun I a w hs => ?_
        refine hs.op rfl rfl rfl (ok_cat (.t rfl) .c (fun _ => by have := lineB_len hfe; simp only [List.length_append, List.length_cons, List.length_nil]; omega)) fun I a w hs => ?_
        refine hs.op rfl rfl rfl (ok_assign (.t rfl)) fun I a w hs => ?_
        refine wpList_nil ?_
        refine then_n ?_
        refine wp_seq ?_
        refine St.region ?_
        refine hs.op rfl rfl rfl (ok_move (.t rfl)) fun I a w hs => ?_
        refine hs.op rfl rfl rfl (ok_lenT un9 (.t rfl)) fun I a w hs => ?_
        refine hs.op rfl rfl rfl (ok_gtr (.t rfl) .c) fun I a w hs => ?_
        refine wpList_nil ?_
        refine then_n ?_
        refine hs.cond (.t rfl) (fun hb3 => ?_) (fun hb3 => ?_)
        · try simp only [decide_eq_true_eq, decide_eq_false_iff_not, Bool.not_eq_true', Bool.not_eq_false', Bool.and_eq_true, Bool.or_eq_true, Bool.and_eq_false_iff, Bool.or_eq_false_iff, beq_iff_eq, bne_iff_ne, bne_eq_false_iff_eq, beq_eq_false_iff_ne, ne_eq, Int.not_lt, Int.not_le, Int.ofNat_lt, Int.ofNat_le] at hb3
          refine wp_seq ?_
          refine St.region ?_
          refine hs.op rfl rfl rfl (ok_assign .c) fun I a w hs => ?_
          refine wpList_nil ?_
          refine then_n ?_
          refine wp_ret ?_
          refine block_r ?_
          refine then_r ?_
          refine then_r ?_
          refine block_r ?_
          refine then_r ?_
          refine hs.ret rfl (.cons (.t rfl) ResL.nil) ?_
          exact ret_av (congrArg AV.text (by rw [he, drop_elt hb1, neckW, evLine_good (read_test hb2), if_pos (.inr (by simp at hb3 ⊢; omega))]))
        · try simp only [decide_eq_true_eq, decide_eq_false_iff_not, Bool.not_eq_true', Bool.not_eq_false', Bool.and_eq_true, Bool.or_eq_true, Bool.and_eq_false_iff, Bool.or_eq_false_iff, beq_iff_eq, bne_iff_ne, bne_eq_false_iff_eq, beq_eq_false_iff_ne, ne_eq, Int.not_lt, Int.not_le, Int.ofNat_lt, Int.ofNat_le] at hb3
          refine wp_skip ?_
          refine block_n ?_
          refine then_n ?_
          refine St.region ?_
          refine hs.op rfl rfl rfl (ok_move (.t rfl)) fun I a w hs => ?_
          refine hs.op rfl rfl rfl (ok_add (.t rfl) .c (fun _ => by omega)) fun I a w hs => ?_
          refine hs.op rfl rfl rfl (ok_assign (.t rfl)) fun I a w hs => ?_
          refine wpList_nil ?_
          refine then_n ?_
          have hs := hs.drop 0
          refine hs.again (k + 1, out ++ evLine (elt l k)) ?mu1 ?ok1001 (by rfl) ?env1001 (by repeat (first | exact Env.le_rfl | refine Env.le_push rfl ?_))
          case mu1 => simp; omega
          case ok1001 => exact ⟨hb1, by rw [he, drop_elt hb1, neckW, evLine_good (read_test hb2), if_neg]; simp; simp at hb3; omega, by rw [evLine_good (read_test hb2)]; simp at hb3 ⊢; omega⟩
          case env1001 => exact (Env.le_consE rfl (by rfl) (Env.le_consE rfl (by rw [evLine_good (read_test hb2), ← List.append_assoc]) Env.le_nil))
    · try simp only [decide_eq_true_eq, decide_eq_false_iff_not, Bool.not_eq_true', Bool.not_eq_false', Bool.and_eq_true, Bool.or_eq_true, Bool.and_eq_false_iff, Bool.or_eq_false_iff, beq_iff_eq, bne_iff_ne, bne_eq_false_iff_eq, beq_eq_false_iff_ne, ne_eq, Int.not_lt, Int.not_le, Int.ofNat_lt, Int.ofNat_le] at hb1
      refine wp_exit ?_
      refine then_x ?_
      refine then_x ?_
      refine block_hit ?_
      refine then_n ?_
      refine wp_seq ?_
      refine St.region ?_
      refine hs.op rfl rfl rfl (ok_move (.t rfl)) fun I a w hs => ?_
      refine hs.op rfl rfl rfl (ok_assign (.t rfl)) fun I a w hs => ?_
      refine wpList_nil ?_
      refine then_n ?_
      refine wp_ret ?_
      refine hs.ret rfl (.cons (.t rfl) ResL.nil) ?_
      exact ret_av (congrArg AV.text (by rw [he, List.drop_eq_nil_of_le (by omega)]; rfl))

end Go.Proofs.YtblcocjbnjfhkaaDoor
