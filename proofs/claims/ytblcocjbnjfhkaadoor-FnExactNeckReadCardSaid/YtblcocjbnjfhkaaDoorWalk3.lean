/- Walks: the reference of lines, cut, read and written. -/
import Derived.Test.YtblcocjbnjfhkaaDoorWalk2
set_option linter.unusedVariables false
set_option linter.unusedSimpArgs false
set_option maxRecDepth 100000
namespace Go.Proofs.YtblcocjbnjfhkaaDoor
open Go Go.RowKit


theorem splitB_len (c : UInt8) : ∀ s : List UInt8, (splitB c s).length ≤ s.length + 1
  | [] => by simp [splitB]
  | x :: r => by
    have ih := splitB_len c r
    unfold splitB
    split
    · simp; omega
    · split
      · simp
      · rename_i h; rw [h] at ih; simp at ih ⊢; omega
theorem snoc_text (out : List (List UInt8)) (p : List UInt8) : out.map textCell ++ [[AV.text p]] = (out ++ [p]).map textCell := by simp [textCell]
theorem piece_ne {s : List UInt8} {ch : UInt8} {frm k : Nat} (h : ∀ i, frm ≤ i → i < k → s.getD i 0 ≠ ch) : ∀ x ∈ (s.drop frm).take (k - frm), x ≠ ch := by
  intro x hx
  obtain ⟨i, hi, rfl⟩ := List.getElem_of_mem hx
  simp only [List.length_take, List.length_drop] at hi
  have := h (frm + i) (by omega) (by omega)
  rw [List.getD_eq_getElem?_getD, List.getElem?_eq_getElem (by omega)] at this
  simpa using this
theorem split_at {s : List UInt8} {ch : UInt8} {frm k : Nat} (h1 : frm ≤ k) (h2 : k < s.length) (h : ∀ i, frm ≤ i → i < k → s.getD i 0 ≠ ch) (he : s.getD k 0 = ch) : splitB ch (s.drop frm) = (s.drop frm).take (k - frm) :: splitB ch (s.drop (k + 1)) := by
  have e : s.drop frm = (s.drop frm).take (k - frm) ++ ch :: s.drop (k + 1) := by
    conv => lhs; rw [← List.take_append_drop (k - frm) (s.drop frm), List.drop_drop, show frm + (k - frm) = k from by omega, List.drop_eq_getElem_cons h2]
    rw [List.getD_eq_getElem?_getD, List.getElem?_eq_getElem h2] at he
    simp at he; rw [he]
  conv => lhs; rw [e]
  exact splitB_cut (piece_ne h)
theorem split_last {s : List UInt8} {ch : UInt8} {frm k : Nat} (h2 : s.length ≤ k) (h : ∀ i, frm ≤ i → i < k → s.getD i 0 ≠ ch) : splitB ch (s.drop frm) = [s.drop frm] := by
  have := piece_ne h
  rw [List.take_of_length_le (by simp; omega)] at this
  exact splitB_end this
theorem byte_eq (x y : UInt8) : ((x.toNat : Int) == (y.toNat : Int)) = decide (x = y) := by
  rw [Bool.eq_iff_iff, beq_iff_eq, decide_eq_true_eq]
  exact ⟨fun h => UInt8.toNat_inj.1 (by omega), fun h => by rw [h]⟩

theorem c_spec_l45Split (s : List UInt8) (ch : UInt8) (hl : s.length ≤ 1048576) :
    Fn Tryd.prog 22 [AV.text s, AV.byte ch] (textsAV (splitB ch s)) := by
  refine Fn.intro 35 Tryd.func22 rfl Tryd.ntmps22 rfl (by kernel_rfl) (fun W I a hs => ?_)
  refine wp_seq ?_
  refine St.region ?_
  refine hs.op rfl rfl rfl (ok_assign .c) fun I a w hs => ?_
  refine wpList_nil ?_
  refine then_n ?_
  refine wp_seq ?_
  refine St.region ?_
  refine hs.lit0 rfl un51 ty9 (by decide) fun b8 I a w hs => ?_
  refine hs.op rfl rfl rfl (ok_assign (.t rfl)) fun I a w hs => ?_
  refine wpList_nil ?_
  refine then_n ?_
  refine wp_seq ?_
  refine St.region ?_
  refine hs.op rfl rfl rfl (ok_assign .c) fun I a w hs => ?_
  refine wpList_nil ?_
  refine then_n ?_
  refine wp_seq ?_
  refine wp_seq ?_
  refine St.region ?_
  refine hs.op rfl rfl rfl (ok_assign .c) fun I a w hs => ?_
  refine wpList_nil ?_
  refine then_n ?_
  refine wp_block ?_
  refine St.loopS (σ := Nat × Nat × List (List UInt8) × Value) (5 :: 6 :: 7 :: 9 :: 10 :: 11 :: 12 :: 13 :: 14 :: 15 :: 16 :: 17 :: 18 :: 19 :: 20 :: 21 :: 22 :: 23 :: 24 :: 25 :: 26 :: 27 :: 28 :: []) ⟨fun ⟨k, frm, out, v⟩ => [(7, AV.int k), (6, AV.int frm), (5, AV.val v)], fun ⟨k, frm, out, v⟩ => [Own.row v 9 1 (out.map textCell)], fun ⟨k, frm, out, v⟩ => k ≤ s.length ∧ frm ≤ k ∧ (∀ i, frm ≤ i → i < k → s.getD i 0 ≠ ch) ∧ splitB ch s = out ++ splitB ch (s.drop frm)⟩ (fun ⟨k, frm, out, v⟩ => s.length - k) (0, 0, [], .slice (some ⟨b8, 0, none⟩) 0 0) hs rfl ?ok1 ?env1 ?round1
  case ok1 => exact ⟨by simp, by simp, fun i _ hi => by omega, rfl⟩
  case env1 => exact (Env.le_consE rfl (by rfl) (Env.le_consE rfl (by rfl) (Env.le_consE rfl (by rfl) Env.le_nil)))
  case round1 =>
    rintro ⟨k, frm, out, v⟩ I a w hok hs
    obtain ⟨hk, hf, hn, he⟩ := hok
    change St _ _ [Own.row v 9 1 (out.map textCell)] _ _ _ at hs
    have hol : out.length ≤ s.length + 1 := by have := splitB_len ch s; rw [he] at this; simp at this; omega
    refine wp_seq ?_
    refine wp_seq ?_
    refine St.region ?_
    refine hs.op rfl rfl rfl (ok_move (.t rfl)) fun I a w hs => ?_
    refine hs.op rfl rfl rfl (ok_move (.t rfl)) fun I a w hs => ?_
    refine hs.op rfl rfl rfl (ok_lenT un9 (.t rfl)) fun I a w hs => ?_
    refine hs.op rfl rfl rfl (ok_lss (.t rfl) (.t rfl)) fun I a w hs => ?_
    refine wpList_nil ?_
    refine then_n ?_
    refine hs.cond (.t rfl) (fun hb1 => ?_) (fun hb1 => ?_)
    · try simp only [decide_eq_true_eq, decide_eq_false_iff_not, Bool.not_eq_true', Bool.not_eq_false', Bool.and_eq_true, Bool.or_eq_true, Bool.and_eq_false_iff, Bool.or_eq_false_iff, beq_iff_eq, bne_iff_ne, bne_eq_false_iff_eq, beq_eq_false_iff_ne, ne_eq, Int.not_lt, Int.not_le, Int.ofNat_lt, Int.ofNat_le] at hb1
      refine wp_skip ?_
      refine then_n ?_
      refine wp_seq ?_
      refine wp_block ?_
      refine wp_seq ?_
      refine St.region ?_
      refine hs.op rfl rfl rfl (ok_move (.t rfl)) fun I a w hs => ?_
      refine hs.op rfl rfl rfl (ok_move (.t rfl)) fun I a w hs => ?_
      refine hs.op rfl rfl rfl (ok_idxT un9 (.t rfl) (.t rfl) (fun _ => by omega)) fun I a w hs => ?_
      refine hs.op rfl rfl rfl (ok_move (.t rfl)) fun I a w hs => ?_
      refine hs.op rfl rfl rfl (ok_eq8 (.t rfl) (.t rfl)) fun I a w hs => ?_
      refine wpList_nil ?_
      refine then_n ?_
      refine hs.cond (.t rfl) (fun hb2 => ?_) (fun hb2 => ?_)
      · rw [byte_eq, decide_eq_true_eq] at hb2
        refine wp_seq ?_
        refine St.region ?_
        refine hs.op rfl rfl rfl (ok_move (.t rfl)) fun I a w hs => ?_
        refine hs.op rfl rfl rfl (ok_move (.t rfl)) fun I a w hs => ?_
        refine hs.op rfl rfl rfl (ok_move (.t rfl)) fun I a w hs => ?_
        refine hs.op rfl rfl rfl (ok_move (.t rfl)) fun I a w hs => ?_
        refine hs.op rfl rfl rfl (ok_slT un9 (.t rfl) (.t rfl) (.t rfl) (fun _ => by omega)) fun I a w hs => ?_
        refine hs.op rfl rfl rfl (ok_lit (lxs := [_]) un51 ty9 rfl zo9 rfl rfl (Parts.c rfl rfl (.t rfl) (by first | exact one_val rfl | exact one_rows | exact one_ptr | exact one_fn) Parts.nil) rfl rfl (by simp)) fun I a w hs => ?_
        refine hs.append 0 rfl un51 ty9 rfl (.t rfl) (by first | exact .t rfl | exact .nil (.t rfl)) rfl (by simp; omega) fun v26 a w hs => ?_
        change St _ _ [Own.row v26 9 1 (out.map textCell ++ [[AV.text ((s.drop frm).take (k - frm))]])] _ _ _ at hs
        rw [snoc_text] at hs
        refine hs.op rfl rfl rfl (ok_assign (.t rfl)) fun I a w hs => ?_
        refine wpList_nil ?_
        refine then_n ?_
        refine St.region ?_
        refine hs.op rfl rfl rfl (ok_move (.t rfl)) fun I a w hs => ?_
        refine hs.op rfl rfl rfl (ok_add (.t rfl) .c (fun _ => by omega)) fun I a w hs => ?_
        refine hs.op rfl rfl rfl (ok_assign (.t rfl)) fun I a w hs => ?_
        refine wpList_nil ?_
        refine block_n ?_
        refine then_n ?_
        refine St.region ?_
        refine hs.op rfl rfl rfl (ok_move (.t rfl)) fun I a w hs => ?_
        refine hs.op rfl rfl rfl (ok_add (.t rfl) .c (fun _ => by omega)) fun I a w hs => ?_
        refine hs.op rfl rfl rfl (ok_assign (.t rfl)) fun I a w hs => ?_
        refine wpList_nil ?_
        refine then_n ?_
        refine hs.again (k + 1, k + 1, out ++ [(s.drop frm).take (k - frm)], v26) ?mu1 ?ok1001 (by rfl) ?env1001 (by repeat (first | exact Env.le_rfl | refine Env.le_push rfl ?_))
        case mu1 => simp; omega
        case ok1001 => first | exact ⟨hb1, Nat.le_refl _, fun i h1 h2 => by omega, by rw [he, split_at hf hb1 hn hb2]; simp⟩ | exact ⟨hb1, by omega, fun i h1 h2 => by rcases Nat.lt_succ_iff_lt_or_eq.1 h2 with h | h; exact hn i h1 h; rw [h]; exact hb2, he⟩
        case env1001 => exact (Env.le_consE rfl (by first | rfl | (congr 1; done)) (Env.le_consE rfl (by first | rfl | (congr 1; done)) (Env.le_consE rfl (by first | rfl | (congr 1; done)) Env.le_nil)))
      · rw [byte_eq, decide_eq_false_iff_not] at hb2
        refine wp_skip ?_
        refine block_n ?_
        refine then_n ?_
        refine St.region ?_
        refine hs.op rfl rfl rfl (ok_move (.t rfl)) fun I a w hs => ?_
        refine hs.op rfl rfl rfl (ok_add (.t rfl) .c (fun _ => by omega)) fun I a w hs => ?_
        refine hs.op rfl rfl rfl (ok_assign (.t rfl)) fun I a w hs => ?_
        refine wpList_nil ?_
        refine then_n ?_
        refine hs.again (k + 1, frm, out, v) ?mu2 ?ok1002 (by rfl) ?env1002 (by repeat (first | exact Env.le_rfl | refine Env.le_push rfl ?_))
        case mu2 => simp; omega
        case ok1002 => first | exact ⟨hb1, Nat.le_refl _, fun i h1 h2 => by omega, by rw [he, split_at hf hb1 hn hb2]; simp⟩ | exact ⟨hb1, by omega, fun i h1 h2 => by rcases Nat.lt_succ_iff_lt_or_eq.1 h2 with h | h; exact hn i h1 h; rw [h]; exact hb2, he⟩
        case env1002 => exact (Env.le_consE rfl (by first | rfl | (congr 1; done)) (Env.le_consE rfl (by first | rfl | (congr 1; done)) (Env.le_consE rfl (by first | rfl | (congr 1; done)) Env.le_nil)))
    · try simp only [decide_eq_true_eq, decide_eq_false_iff_not, Bool.not_eq_true', Bool.not_eq_false', Bool.and_eq_true, Bool.or_eq_true, Bool.and_eq_false_iff, Bool.or_eq_false_iff, beq_iff_eq, bne_iff_ne, bne_eq_false_iff_eq, beq_eq_false_iff_ne, ne_eq, Int.not_lt, Int.not_le, Int.ofNat_lt, Int.ofNat_le] at hb1
      refine wp_exit ?_
      refine then_x ?_
      refine then_x ?_
      refine block_hit ?_
      refine then_n ?_
      refine wp_seq ?_
      refine St.region ?_
      refine hs.op rfl rfl rfl (ok_move (.t rfl)) fun I a w hs => ?_
      refine hs.op rfl rfl rfl (ok_move (.t rfl)) fun I a w hs => ?_
      refine hs.op rfl rfl rfl (ok_move (.t rfl)) fun I a w hs => ?_
      refine hs.op rfl rfl rfl (ok_slTL un9 (.t rfl) (.t rfl) (fun _ => by omega)) fun I a w hs => ?_
      refine hs.op rfl rfl rfl (ok_lit (lxs := [_]) un51 ty9 rfl zo9 rfl rfl (Parts.c rfl rfl (.t rfl) (by first | exact one_val rfl | exact one_rows | exact one_ptr | exact one_fn) Parts.nil) rfl rfl (by simp)) fun I a w hs => ?_
      refine hs.append 0 rfl un51 ty9 rfl (.t rfl) (by first | exact .t rfl | exact .nil (.t rfl)) rfl (by simp; omega) fun v34 a w hs => ?_
      change St _ _ [Own.row v34 9 1 (out.map textCell ++ [[AV.text (s.drop frm)]])] _ _ _ at hs
      rw [snoc_text] at hs
      refine hs.op rfl rfl rfl (ok_assign (.t rfl)) fun I a w hs => ?_
      refine wpList_nil ?_
      refine then_n ?_
      refine wp_ret ?_
      rw [show out ++ [s.drop frm] = splitB ch s from by rw [he, split_last (by omega) hn]] at hs
      obtain ⟨I, hs, hf⟩ := hs.freezeRow 0 rfl
      have hs := hs.upd (t := 4) rfl hf
      refine hs.ret rfl (.cons (by first | exact .t rfl | exact .nil rfl) ResL.nil) ?_
      rfl

theorem c_spec_l45Event (k : Nat) (h2 : 2 ≤ k) (h13 : k < 13) (n : List Int) :
    Fn Tryd.prog 28 [AV.int k, intsAV n] (AV.tup [((readEv k n).getD default).av, AV.bool (readEv k n).isSome]) := by
  refine Fn.intro 110 Tryd.func28 rfl Tryd.ntmps28 rfl (by kernel_rfl) (fun W I a hs => ?_)
  have hle := hs.lenleM (t := 1) rfl
  refine wp_seq ?_
  refine St.region ?_
  refine hs.alloc rfl ty35 zc35 fun b4 I a w hs => ?_
  refine hs.op rfl rfl rfl (ok_assign .c) fun I a w hs => ?_
  refine wpList_nil ?_
  refine then_n ?_
  refine wp_seq ?_
  refine wp_block ?_
  refine wp_seq ?_
  refine St.region ?_
  refine hs.op rfl rfl rfl (ok_move (.t rfl)) fun I a w hs => ?_
  refine hs.op rfl rfl rfl (ok_eqi (.t rfl) .c) fun I a w hs => ?_
  refine hs.op rfl rfl rfl (ok_move (.t rfl)) fun I a w hs => ?_
  refine hs.opG (guarded_T rfl rfl rfl) rfl rfl (ok_move (.t rfl)) fun I a w hs => ?_
  refine hs.opG (guarded_T rfl rfl rfl) rfl rfl ((by first | exact ok_lenM un56 (.g rfl (fun hg => by first | exact hg | exact (Bool.and_eq_true_iff.1 hg).1 | exact (Bool.and_eq_true_iff.1 (Bool.and_eq_true_iff.1 hg).1).1)) | exact ok_len un56 (.g rfl (fun hg => by first | exact hg | exact (Bool.and_eq_true_iff.1 hg).1 | exact (Bool.and_eq_true_iff.1 (Bool.and_eq_true_iff.1 hg).1).1)) | exact ok_lenV un56 (.g rfl (fun hg => by first | exact hg | exact (Bool.and_eq_true_iff.1 hg).1 | exact (Bool.and_eq_true_iff.1 (Bool.and_eq_true_iff.1 hg).1).1)))) fun I a w hs => ?_
  refine hs.opG (guarded_T rfl rfl rfl) rfl rfl (ok_eqi (.g rfl (fun hg => by first | exact hg | exact (Bool.and_eq_true_iff.1 hg).1 | exact (Bool.and_eq_true_iff.1 (Bool.and_eq_true_iff.1 hg).1).1)) .c) fun I a w hs => ?_
  refine hs.op rfl rfl rfl (ok_and (.t rfl) (by first | exact .t rfl | exact .gc rfl (fun hg => hg) | exact .gc rfl (fun hg => (Bool.and_eq_true_iff.1 hg).1)) .c) fun I a w hs => ?_
  refine hs.op rfl rfl rfl (ok_assign (.t rfl)) fun I a w hs => ?_
  refine wpList_nil ?_
  refine then_n ?_
  refine hs.cond (.t rfl) (fun hb1 => ?_) (fun hb1 => ?_)
  · try simp only [decide_eq_true_eq, decide_eq_false_iff_not, Bool.not_eq_true', Bool.not_eq_false', Bool.and_eq_true, Bool.or_eq_true, Bool.and_eq_false_iff, Bool.or_eq_false_iff, beq_iff_eq, bne_iff_ne, bne_eq_false_iff_eq, beq_eq_false_iff_ne, ne_eq, Int.not_lt, Int.not_le, Int.ofNat_lt, Int.ofNat_le] at hb1
    refine wp_seq ?_
    refine hs.drawT 10 (by kernel_rfl) (by kernel_rfl) (by kernel_rfl) ?_
    simp only [List.take_succ_cons, List.take_zero, List.drop_succ_cons, List.drop_zero]
    refine RunT.cons (.of rfl (ok_move (.t rfl))) ?_
    refine RunT.cons (.of rfl ((by first | exact ok_idxN un56 ty3 (.t rfl) .c (fun _ => by omega) | exact ok_idxM un56 ty3 (.t rfl) .c (fun _ => by omega) | exact ok_idx un56 ty3 (.t rfl) .c (fun _ => by omega)))) ?_
    refine RunT.cons (.of rfl (ok_load1 ty3 (.t rfl))) ?_
    refine RunT.cons (.of rfl (ok_move (.t rfl))) ?_
    refine RunT.cons (.of rfl ((by first | exact ok_idxN un56 ty3 (.t rfl) .c (fun _ => by omega) | exact ok_idxM un56 ty3 (.t rfl) .c (fun _ => by omega) | exact ok_idx un56 ty3 (.t rfl) .c (fun _ => by omega)))) ?_
    refine RunT.cons (.of rfl (ok_load1 ty3 (.t rfl))) ?_
    refine RunT.cons (.of rfl (ok_move (.t rfl))) ?_
    refine RunT.cons (.of rfl ((by first | exact ok_idxN un56 ty3 (.t rfl) .c (fun _ => by omega) | exact ok_idxM un56 ty3 (.t rfl) .c (fun _ => by omega) | exact ok_idx un56 ty3 (.t rfl) .c (fun _ => by omega)))) ?_
    refine RunT.cons (.of rfl (ok_load1 ty3 (.t rfl))) ?_
    refine RunT.cons (.of rfl (ok_build (l0 := [AV.val (.int .i64 0), AV.val (.int .i64 0), AV.val (.int .i64 0), AV.val (.int .i64 0), AV.val (.int .i64 0), AV.val (.int .i64 0), AV.val (.int .i64 0), AV.val (.int .i64 0), AV.val (.int .i64 0), AV.val (.int .i64 0), AV.val (.int .i64 0)]) ty35 fk35 zc35 rfl (Parts.c sp35_0 rfl .c (by first | exact one_val rfl | exact one_rows | exact one_ptr | exact one_fn) (Parts.c sp35_2 rfl (.t rfl) (by first | exact one_val rfl | exact one_rows | exact one_ptr | exact one_fn) (Parts.c sp35_6 rfl .c (by first | exact one_val rfl | exact one_rows | exact one_ptr | exact one_fn) (Parts.c sp35_7 rfl (.t rfl) (by first | exact one_val rfl | exact one_rows | exact one_ptr | exact one_fn) (Parts.c sp35_10 rfl (.t rfl) (by first | exact one_val rfl | exact one_rows | exact one_ptr | exact one_fn) Parts.nil))))))) ?_
    refine RunT.nil ?_
    intro I a w hs
    refine hs.storeB 0 ty35 (.t rfl) (.t rfl) rfl (by first | rfl | assumption) rfl fun a w hs => ?_
    refine hs.op rfl rfl rfl (ok_assign .c) fun I a w hs => ?_
    refine wpList_nil ?_
    refine then_n ?_
    refine wp_ret ?_
    refine block_r ?_
    refine then_r ?_
    refine hs.ret rfl (.cons (.s 0 ty35 rfl rfl (by first | rfl | assumption)) (.cons (.t rfl) ResL.nil)) ?_
    exact (by unfold readEv; (repeat (first | rw [if_pos (by omega)] | rw [if_neg (by omega)])); rfl)
  · try simp only [decide_eq_true_eq, decide_eq_false_iff_not, Bool.not_eq_true', Bool.not_eq_false', Bool.and_eq_true, Bool.or_eq_true, Bool.and_eq_false_iff, Bool.or_eq_false_iff, beq_iff_eq, bne_iff_ne, bne_eq_false_iff_eq, beq_eq_false_iff_ne, ne_eq, Int.not_lt, Int.not_le, Int.ofNat_lt, Int.ofNat_le] at hb1
    refine wp_seq ?_
    refine St.region ?_
    refine hs.op rfl rfl rfl (ok_move (.t rfl)) fun I a w hs => ?_
    refine hs.op rfl rfl rfl (ok_eqi (.t rfl) .c) fun I a w hs => ?_
    refine hs.op rfl rfl rfl (ok_move (.t rfl)) fun I a w hs => ?_
    refine hs.opG (guarded_T rfl rfl rfl) rfl rfl (ok_move (.t rfl)) fun I a w hs => ?_
    refine hs.opG (guarded_T rfl rfl rfl) rfl rfl ((by first | exact ok_lenM un56 (.g rfl (fun hg => by first | exact hg | exact (Bool.and_eq_true_iff.1 hg).1 | exact (Bool.and_eq_true_iff.1 (Bool.and_eq_true_iff.1 hg).1).1)) | exact ok_len un56 (.g rfl (fun hg => by first | exact hg | exact (Bool.and_eq_true_iff.1 hg).1 | exact (Bool.and_eq_true_iff.1 (Bool.and_eq_true_iff.1 hg).1).1)) | exact ok_lenV un56 (.g rfl (fun hg => by first | exact hg | exact (Bool.and_eq_true_iff.1 hg).1 | exact (Bool.and_eq_true_iff.1 (Bool.and_eq_true_iff.1 hg).1).1)))) fun I a w hs => ?_
    refine hs.opG (guarded_T rfl rfl rfl) rfl rfl (ok_eqi (.g rfl (fun hg => by first | exact hg | exact (Bool.and_eq_true_iff.1 hg).1 | exact (Bool.and_eq_true_iff.1 (Bool.and_eq_true_iff.1 hg).1).1)) .c) fun I a w hs => ?_
    refine hs.op rfl rfl rfl (ok_and (.t rfl) (by first | exact .t rfl | exact .gc rfl (fun hg => hg) | exact .gc rfl (fun hg => (Bool.and_eq_true_iff.1 hg).1)) .c) fun I a w hs => ?_
    refine hs.op rfl rfl rfl (ok_assign (.t rfl)) fun I a w hs => ?_
    refine wpList_nil ?_
    refine then_n ?_
    refine hs.cond (.t rfl) (fun hb2 => ?_) (fun hb2 => ?_)
    · try simp only [decide_eq_true_eq, decide_eq_false_iff_not, Bool.not_eq_true', Bool.not_eq_false', Bool.and_eq_true, Bool.or_eq_true, Bool.and_eq_false_iff, Bool.or_eq_false_iff, beq_iff_eq, bne_iff_ne, bne_eq_false_iff_eq, beq_eq_false_iff_ne, ne_eq, Int.not_lt, Int.not_le, Int.ofNat_lt, Int.ofNat_le] at hb2
      refine wp_seq ?_
      refine hs.drawT 13 (by kernel_rfl) (by kernel_rfl) (by kernel_rfl) ?_
      simp only [List.take_succ_cons, List.take_zero, List.drop_succ_cons, List.drop_zero]
      refine RunT.cons (.of rfl (ok_move (.t rfl))) ?_
      refine RunT.cons (.of rfl ((by first | exact ok_idxN un56 ty3 (.t rfl) .c (fun _ => by omega) | exact ok_idxM un56 ty3 (.t rfl) .c (fun _ => by omega) | exact ok_idx un56 ty3 (.t rfl) .c (fun _ => by omega)))) ?_
      refine RunT.cons (.of rfl (ok_load1 ty3 (.t rfl))) ?_
      refine RunT.cons (.of rfl (ok_move (.t rfl))) ?_
      refine RunT.cons (.of rfl ((by first | exact ok_idxN un56 ty3 (.t rfl) .c (fun _ => by omega) | exact ok_idxM un56 ty3 (.t rfl) .c (fun _ => by omega) | exact ok_idx un56 ty3 (.t rfl) .c (fun _ => by omega)))) ?_
      refine RunT.cons (.of rfl (ok_load1 ty3 (.t rfl))) ?_
      refine RunT.cons (.of rfl (ok_move (.t rfl))) ?_
      refine RunT.cons (.of rfl ((by first | exact ok_idxN un56 ty3 (.t rfl) .c (fun _ => by omega) | exact ok_idxM un56 ty3 (.t rfl) .c (fun _ => by omega) | exact ok_idx un56 ty3 (.t rfl) .c (fun _ => by omega)))) ?_
      refine RunT.cons (.of rfl (ok_load1 ty3 (.t rfl))) ?_
      refine RunT.cons (.of rfl (ok_move (.t rfl))) ?_
      refine RunT.cons (.of rfl ((by first | exact ok_idxN un56 ty3 (.t rfl) .c (fun _ => by omega) | exact ok_idxM un56 ty3 (.t rfl) .c (fun _ => by omega) | exact ok_idx un56 ty3 (.t rfl) .c (fun _ => by omega)))) ?_
      refine RunT.cons (.of rfl (ok_load1 ty3 (.t rfl))) ?_
      refine RunT.cons (.of rfl (ok_build (l0 := [AV.val (.int .i64 0), AV.val (.int .i64 0), AV.val (.int .i64 0), AV.val (.int .i64 0), AV.val (.int .i64 0), AV.val (.int .i64 0), AV.val (.int .i64 0), AV.val (.int .i64 0), AV.val (.int .i64 0), AV.val (.int .i64 0), AV.val (.int .i64 0)]) ty35 fk35 zc35 rfl (Parts.c sp35_0 rfl .c (by first | exact one_val rfl | exact one_rows | exact one_ptr | exact one_fn) (Parts.c sp35_2 rfl (.t rfl) (by first | exact one_val rfl | exact one_rows | exact one_ptr | exact one_fn) (Parts.c sp35_6 rfl .c (by first | exact one_val rfl | exact one_rows | exact one_ptr | exact one_fn) (Parts.c sp35_7 rfl (.t rfl) (by first | exact one_val rfl | exact one_rows | exact one_ptr | exact one_fn) (Parts.c sp35_8 rfl (.t rfl) (by first | exact one_val rfl | exact one_rows | exact one_ptr | exact one_fn) (Parts.c sp35_9 rfl (.t rfl) (by first | exact one_val rfl | exact one_rows | exact one_ptr | exact one_fn) Parts.nil)))))))) ?_
      refine RunT.nil ?_
      intro I a w hs
      refine hs.storeB 0 ty35 (.t rfl) (.t rfl) rfl (by first | rfl | assumption) rfl fun a w hs => ?_
      refine hs.op rfl rfl rfl (ok_assign .c) fun I a w hs => ?_
      refine wpList_nil ?_
      refine then_n ?_
      refine wp_ret ?_
      refine block_r ?_
      refine then_r ?_
      refine hs.ret rfl (.cons (.s 0 ty35 rfl rfl (by first | rfl | assumption)) (.cons (.t rfl) ResL.nil)) ?_
      exact (by unfold readEv; (repeat (first | rw [if_pos (by omega)] | rw [if_neg (by omega)])); rfl)
    · try simp only [decide_eq_true_eq, decide_eq_false_iff_not, Bool.not_eq_true', Bool.not_eq_false', Bool.and_eq_true, Bool.or_eq_true, Bool.and_eq_false_iff, Bool.or_eq_false_iff, beq_iff_eq, bne_iff_ne, bne_eq_false_iff_eq, beq_eq_false_iff_ne, ne_eq, Int.not_lt, Int.not_le, Int.ofNat_lt, Int.ofNat_le] at hb2
      refine wp_seq ?_
      refine St.region ?_
      refine hs.op rfl rfl rfl (ok_move (.t rfl)) fun I a w hs => ?_
      refine hs.op rfl rfl rfl (ok_eqi (.t rfl) .c) fun I a w hs => ?_
      refine hs.op rfl rfl rfl (ok_move (.t rfl)) fun I a w hs => ?_
      refine hs.opG (guarded_T rfl rfl rfl) rfl rfl (ok_move (.t rfl)) fun I a w hs => ?_
      refine hs.opG (guarded_T rfl rfl rfl) rfl rfl ((by first | exact ok_lenM un56 (.g rfl (fun hg => by first | exact hg | exact (Bool.and_eq_true_iff.1 hg).1 | exact (Bool.and_eq_true_iff.1 (Bool.and_eq_true_iff.1 hg).1).1)) | exact ok_len un56 (.g rfl (fun hg => by first | exact hg | exact (Bool.and_eq_true_iff.1 hg).1 | exact (Bool.and_eq_true_iff.1 (Bool.and_eq_true_iff.1 hg).1).1)) | exact ok_lenV un56 (.g rfl (fun hg => by first | exact hg | exact (Bool.and_eq_true_iff.1 hg).1 | exact (Bool.and_eq_true_iff.1 (Bool.and_eq_true_iff.1 hg).1).1)))) fun I a w hs => ?_
      refine hs.opG (guarded_T rfl rfl rfl) rfl rfl (ok_eqi (.g rfl (fun hg => by first | exact hg | exact (Bool.and_eq_true_iff.1 hg).1 | exact (Bool.and_eq_true_iff.1 (Bool.and_eq_true_iff.1 hg).1).1)) .c) fun I a w hs => ?_
      refine hs.op rfl rfl rfl (ok_and (.t rfl) (by first | exact .t rfl | exact .gc rfl (fun hg => hg) | exact .gc rfl (fun hg => (Bool.and_eq_true_iff.1 hg).1)) .c) fun I a w hs => ?_
      refine hs.op rfl rfl rfl (ok_assign (.t rfl)) fun I a w hs => ?_
      refine wpList_nil ?_
      refine then_n ?_
      refine hs.cond (.t rfl) (fun hb3 => ?_) (fun hb3 => ?_)
      · try simp only [decide_eq_true_eq, decide_eq_false_iff_not, Bool.not_eq_true', Bool.not_eq_false', Bool.and_eq_true, Bool.or_eq_true, Bool.and_eq_false_iff, Bool.or_eq_false_iff, beq_iff_eq, bne_iff_ne, bne_eq_false_iff_eq, beq_eq_false_iff_ne, ne_eq, Int.not_lt, Int.not_le, Int.ofNat_lt, Int.ofNat_le] at hb3
        refine wp_seq ?_
        refine hs.drawT 8 (by kernel_rfl) (by kernel_rfl) (by kernel_rfl) ?_
        simp only [List.take_succ_cons, List.take_zero, List.drop_succ_cons, List.drop_zero]
        refine RunT.cons (.of rfl (ok_move (.t rfl))) ?_
        refine RunT.cons (.of rfl (ok_move (.t rfl))) ?_
        refine RunT.cons (.of rfl ((by first | exact ok_idxN un56 ty3 (.t rfl) .c (fun _ => by omega) | exact ok_idxM un56 ty3 (.t rfl) .c (fun _ => by omega) | exact ok_idx un56 ty3 (.t rfl) .c (fun _ => by omega)))) ?_
        refine RunT.cons (.of rfl (ok_load1 ty3 (.t rfl))) ?_
        refine RunT.cons (.of rfl (ok_move (.t rfl))) ?_
        refine RunT.cons (.of rfl ((by first | exact ok_idxN un56 ty3 (.t rfl) .c (fun _ => by omega) | exact ok_idxM un56 ty3 (.t rfl) .c (fun _ => by omega) | exact ok_idx un56 ty3 (.t rfl) .c (fun _ => by omega)))) ?_
        refine RunT.cons (.of rfl (ok_load1 ty3 (.t rfl))) ?_
        refine RunT.cons (.of rfl (ok_build (l0 := [AV.val (.int .i64 0), AV.val (.int .i64 0), AV.val (.int .i64 0), AV.val (.int .i64 0), AV.val (.int .i64 0), AV.val (.int .i64 0), AV.val (.int .i64 0), AV.val (.int .i64 0), AV.val (.int .i64 0), AV.val (.int .i64 0), AV.val (.int .i64 0)]) ty35 fk35 zc35 rfl (Parts.c sp35_0 rfl (.t rfl) (by first | exact one_val rfl | exact one_rows | exact one_ptr | exact one_fn) (Parts.c sp35_1 rfl (.t rfl) (by first | exact one_val rfl | exact one_rows | exact one_ptr | exact one_fn) (Parts.c sp35_5 rfl (.t rfl) (by first | exact one_val rfl | exact one_rows | exact one_ptr | exact one_fn) Parts.nil))))) ?_
        refine RunT.nil ?_
        intro I a w hs
        refine hs.storeB 0 ty35 (.t rfl) (.t rfl) rfl (by first | rfl | assumption) rfl fun a w hs => ?_
        refine hs.op rfl rfl rfl (ok_assign .c) fun I a w hs => ?_
        refine wpList_nil ?_
        refine then_n ?_
        refine wp_ret ?_
        refine block_r ?_
        refine then_r ?_
        refine hs.ret rfl (.cons (.s 0 ty35 rfl rfl (by first | rfl | assumption)) (.cons (.t rfl) ResL.nil)) ?_
        obtain rfl : k = 9 := by omega
        exact (by unfold readEv; (repeat (first | rw [if_pos (by omega)] | rw [if_neg (by omega)])); rfl)
      · try simp only [decide_eq_true_eq, decide_eq_false_iff_not, Bool.not_eq_true', Bool.not_eq_false', Bool.and_eq_true, Bool.or_eq_true, Bool.and_eq_false_iff, Bool.or_eq_false_iff, beq_iff_eq, bne_iff_ne, bne_eq_false_iff_eq, beq_eq_false_iff_ne, ne_eq, Int.not_lt, Int.not_le, Int.ofNat_lt, Int.ofNat_le] at hb3
        refine wp_seq ?_
        refine St.region ?_
        refine hs.op rfl rfl rfl (ok_move (.t rfl)) fun I a w hs => ?_
        refine hs.op rfl rfl rfl (ok_gtr (.t rfl) .c) fun I a w hs => ?_
        refine hs.op rfl rfl rfl (ok_move (.t rfl)) fun I a w hs => ?_
        refine hs.opG (guarded_T rfl rfl rfl) rfl rfl (ok_move (.t rfl)) fun I a w hs => ?_
        refine hs.opG (guarded_T rfl rfl rfl) rfl rfl (ok_lss (.g rfl (fun hg => by first | exact hg | exact (Bool.and_eq_true_iff.1 hg).1 | exact (Bool.and_eq_true_iff.1 (Bool.and_eq_true_iff.1 hg).1).1)) .c) fun I a w hs => ?_
        refine hs.op rfl rfl rfl (ok_and (.t rfl) (by first | exact .t rfl | exact .gc rfl (fun hg => hg) | exact .gc rfl (fun hg => (Bool.and_eq_true_iff.1 hg).1)) .c) fun I a w hs => ?_
        refine hs.op rfl rfl rfl (ok_move (.t rfl)) fun I a w hs => ?_
        refine hs.opG (guarded_F rfl rfl rfl) rfl rfl (ok_move (.t rfl)) fun I a w hs => ?_
        refine hs.opG (guarded_F rfl rfl rfl) rfl rfl ((by first | exact ok_lenM un56 (.g rfl (fun hg => by first | exact hg | exact (Bool.and_eq_true_iff.1 hg).1 | exact (Bool.and_eq_true_iff.1 (Bool.and_eq_true_iff.1 hg).1).1)) | exact ok_len un56 (.g rfl (fun hg => by first | exact hg | exact (Bool.and_eq_true_iff.1 hg).1 | exact (Bool.and_eq_true_iff.1 (Bool.and_eq_true_iff.1 hg).1).1)) | exact ok_lenV un56 (.g rfl (fun hg => by first | exact hg | exact (Bool.and_eq_true_iff.1 hg).1 | exact (Bool.and_eq_true_iff.1 (Bool.and_eq_true_iff.1 hg).1).1)))) fun I a w hs => ?_
        refine hs.opG (guarded_F rfl rfl rfl) rfl rfl (ok_nei (.g rfl (fun hg => by first | exact hg | exact (Bool.and_eq_true_iff.1 hg).1 | exact (Bool.and_eq_true_iff.1 (Bool.and_eq_true_iff.1 hg).1).1)) .c) fun I a w hs => ?_
        refine hs.op rfl rfl rfl (ok_or (.t rfl) .c (by first | exact .t rfl | exact .gc rfl (fun hg => hg) | exact .gc rfl (fun hg => (Bool.and_eq_true_iff.1 hg).1))) fun I a w hs => ?_
        refine hs.op rfl rfl rfl (ok_assign (.t rfl)) fun I a w hs => ?_
        refine wpList_nil ?_
        refine then_n ?_
        refine hs.cond (.t rfl) (fun hb4 => ?_) (fun hb4 => ?_)
        · try simp only [decide_eq_true_eq, decide_eq_false_iff_not, Bool.not_eq_true', Bool.not_eq_false', Bool.and_eq_true, Bool.or_eq_true, Bool.and_eq_false_iff, Bool.or_eq_false_iff, beq_iff_eq, bne_iff_ne, bne_eq_false_iff_eq, beq_eq_false_iff_ne, ne_eq, Int.not_lt, Int.not_le, Int.ofNat_lt, Int.ofNat_le] at hb4
          refine wp_seq ?_
          refine St.region ?_
          refine hs.op rfl rfl rfl (ok_build (l0 := [AV.val (.int .i64 0), AV.val (.int .i64 0), AV.val (.int .i64 0), AV.val (.int .i64 0), AV.val (.int .i64 0), AV.val (.int .i64 0), AV.val (.int .i64 0), AV.val (.int .i64 0), AV.val (.int .i64 0), AV.val (.int .i64 0), AV.val (.int .i64 0)]) ty35 fk35 zc35 rfl Parts.nil) fun I a w hs => ?_
          refine hs.storeB 0 ty35 (.t rfl) (.t rfl) rfl (by first | rfl | assumption) rfl fun a w hs => ?_
          refine hs.op rfl rfl rfl (ok_assign .c) fun I a w hs => ?_
          refine wpList_nil ?_
          refine then_n ?_
          refine wp_ret ?_
          refine block_r ?_
          refine then_r ?_
          refine hs.ret rfl (.cons (.s 0 ty35 rfl rfl (by first | rfl | assumption)) (.cons (.t rfl) ResL.nil)) ?_
          exact (by unfold readEv; (repeat (first | rw [if_pos (by omega)] | rw [if_neg (by omega)])); rfl)
        · try simp only [decide_eq_true_eq, decide_eq_false_iff_not, Bool.not_eq_true', Bool.not_eq_false', Bool.and_eq_true, Bool.or_eq_true, Bool.and_eq_false_iff, Bool.or_eq_false_iff, beq_iff_eq, bne_iff_ne, bne_eq_false_iff_eq, beq_eq_false_iff_ne, ne_eq, Int.not_lt, Int.not_le, Int.ofNat_lt, Int.ofNat_le] at hb4
          refine wp_seq ?_
          refine St.region ?_
          refine hs.op rfl rfl rfl (ok_move (.t rfl)) fun I a w hs => ?_
          refine hs.op rfl rfl rfl (ok_eqi (.t rfl) .c) fun I a w hs => ?_
          refine hs.op rfl rfl rfl (ok_assign (.t rfl)) fun I a w hs => ?_
          refine wpList_nil ?_
          refine then_n ?_
          refine hs.cond (.t rfl) (fun hb5 => ?_) (fun hb5 => ?_)
          · try simp only [decide_eq_true_eq, decide_eq_false_iff_not, Bool.not_eq_true', Bool.not_eq_false', Bool.and_eq_true, Bool.or_eq_true, Bool.and_eq_false_iff, Bool.or_eq_false_iff, beq_iff_eq, bne_iff_ne, bne_eq_false_iff_eq, beq_eq_false_iff_ne, ne_eq, Int.not_lt, Int.not_le, Int.ofNat_lt, Int.ofNat_le] at hb5
            refine wp_seq ?_
            refine St.region ?_
            refine hs.op rfl rfl rfl (ok_move (.t rfl)) fun I a w hs => ?_
            refine hs.op rfl rfl rfl ((by first | exact ok_idxN un56 ty3 (.t rfl) .c (fun _ => by omega) | exact ok_idxM un56 ty3 (.t rfl) .c (fun _ => by omega) | exact ok_idx un56 ty3 (.t rfl) .c (fun _ => by omega))) fun I a w hs => ?_
            refine hs.op rfl rfl rfl (ok_load1 ty3 (.t rfl)) fun I a w hs => ?_
            refine hs.op rfl rfl rfl (ok_build (l0 := [AV.val (.int .i64 0), AV.val (.int .i64 0), AV.val (.int .i64 0), AV.val (.int .i64 0), AV.val (.int .i64 0), AV.val (.int .i64 0), AV.val (.int .i64 0), AV.val (.int .i64 0), AV.val (.int .i64 0), AV.val (.int .i64 0), AV.val (.int .i64 0)]) ty35 fk35 zc35 rfl (Parts.c sp35_0 rfl .c (by first | exact one_val rfl | exact one_rows | exact one_ptr | exact one_fn) (Parts.c sp35_3 rfl (.t rfl) (by first | exact one_val rfl | exact one_rows | exact one_ptr | exact one_fn) (Parts.c sp35_4 rfl .c (by first | exact one_val rfl | exact one_rows | exact one_ptr | exact one_fn) Parts.nil)))) fun I a w hs => ?_
            refine hs.storeB 0 ty35 (.t rfl) (.t rfl) rfl (by first | rfl | assumption) rfl fun a w hs => ?_
            refine hs.op rfl rfl rfl (ok_assign .c) fun I a w hs => ?_
            refine wpList_nil ?_
            refine then_n ?_
            refine wp_ret ?_
            refine block_r ?_
            refine then_r ?_
            refine hs.ret rfl (.cons (.s 0 ty35 rfl rfl (by first | rfl | assumption)) (.cons (.t rfl) ResL.nil)) ?_
            exact (by unfold readEv; (repeat (first | rw [if_pos (by omega)] | rw [if_neg (by omega)])); rfl)
          · try simp only [decide_eq_true_eq, decide_eq_false_iff_not, Bool.not_eq_true', Bool.not_eq_false', Bool.and_eq_true, Bool.or_eq_true, Bool.and_eq_false_iff, Bool.or_eq_false_iff, beq_iff_eq, bne_iff_ne, bne_eq_false_iff_eq, beq_eq_false_iff_ne, ne_eq, Int.not_lt, Int.not_le, Int.ofNat_lt, Int.ofNat_le] at hb5
            refine wp_seq ?_
            refine St.region ?_
            refine hs.op rfl rfl rfl (ok_move (.t rfl)) fun I a w hs => ?_
            refine hs.op rfl rfl rfl (ok_eqi (.t rfl) .c) fun I a w hs => ?_
            refine hs.op rfl rfl rfl (ok_move (.t rfl)) fun I a w hs => ?_
            refine hs.opG (guarded_F rfl rfl rfl) rfl rfl (ok_move (.t rfl)) fun I a w hs => ?_
            refine hs.opG (guarded_F rfl rfl rfl) rfl rfl (ok_eqi (.g rfl (fun hg => by first | exact hg | exact (Bool.and_eq_true_iff.1 hg).1 | exact (Bool.and_eq_true_iff.1 (Bool.and_eq_true_iff.1 hg).1).1)) .c) fun I a w hs => ?_
            refine hs.op rfl rfl rfl (ok_or (.t rfl) .c (by first | exact .t rfl | exact .gc rfl (fun hg => hg) | exact .gc rfl (fun hg => (Bool.and_eq_true_iff.1 hg).1))) fun I a w hs => ?_
            refine hs.op rfl rfl rfl (ok_assign (.t rfl)) fun I a w hs => ?_
            refine wpList_nil ?_
            refine then_n ?_
            refine hs.cond (.t rfl) (fun hb6 => ?_) (fun hb6 => ?_)
            · try simp only [decide_eq_true_eq, decide_eq_false_iff_not, Bool.not_eq_true', Bool.not_eq_false', Bool.and_eq_true, Bool.or_eq_true, Bool.and_eq_false_iff, Bool.or_eq_false_iff, beq_iff_eq, bne_iff_ne, bne_eq_false_iff_eq, beq_eq_false_iff_ne, ne_eq, Int.not_lt, Int.not_le, Int.ofNat_lt, Int.ofNat_le] at hb6
              refine wp_seq ?_
              refine St.region ?_
              refine hs.op rfl rfl rfl (ok_move (.t rfl)) fun I a w hs => ?_
              refine hs.op rfl rfl rfl (ok_move (.t rfl)) fun I a w hs => ?_
              refine hs.op rfl rfl rfl ((by first | exact ok_idxN un56 ty3 (.t rfl) .c (fun _ => by omega) | exact ok_idxM un56 ty3 (.t rfl) .c (fun _ => by omega) | exact ok_idx un56 ty3 (.t rfl) .c (fun _ => by omega))) fun I a w hs => ?_
              refine hs.op rfl rfl rfl (ok_load1 ty3 (.t rfl)) fun I a w hs => ?_
              refine hs.op rfl rfl rfl (ok_build (l0 := [AV.val (.int .i64 0), AV.val (.int .i64 0), AV.val (.int .i64 0), AV.val (.int .i64 0), AV.val (.int .i64 0), AV.val (.int .i64 0), AV.val (.int .i64 0), AV.val (.int .i64 0), AV.val (.int .i64 0), AV.val (.int .i64 0), AV.val (.int .i64 0)]) ty35 fk35 zc35 rfl (Parts.c sp35_0 rfl (.t rfl) (by first | exact one_val rfl | exact one_rows | exact one_ptr | exact one_fn) (Parts.c sp35_3 rfl (.t rfl) (by first | exact one_val rfl | exact one_rows | exact one_ptr | exact one_fn) Parts.nil))) fun I a w hs => ?_
              refine hs.storeB 0 ty35 (.t rfl) (.t rfl) rfl (by first | rfl | assumption) rfl fun a w hs => ?_
              refine hs.op rfl rfl rfl (ok_assign .c) fun I a w hs => ?_
              refine wpList_nil ?_
              refine then_n ?_
              refine wp_ret ?_
              refine block_r ?_
              refine then_r ?_
              refine hs.ret rfl (.cons (.s 0 ty35 rfl rfl (by first | rfl | assumption)) (.cons (.t rfl) ResL.nil)) ?_
              exact (by unfold readEv; (repeat (first | rw [if_pos (by omega)] | rw [if_neg (by omega)])); rfl)
            · try simp only [decide_eq_true_eq, decide_eq_false_iff_not, Bool.not_eq_true', Bool.not_eq_false', Bool.and_eq_true, Bool.or_eq_true, Bool.and_eq_false_iff, Bool.or_eq_false_iff, beq_iff_eq, bne_iff_ne, bne_eq_false_iff_eq, beq_eq_false_iff_ne, ne_eq, Int.not_lt, Int.not_le, Int.ofNat_lt, Int.ofNat_le] at hb6
              refine wp_seq ?_
              refine St.region ?_
              refine hs.op rfl rfl rfl (ok_move (.t rfl)) fun I a w hs => ?_
              refine hs.op rfl rfl rfl (ok_eqi (.t rfl) .c) fun I a w hs => ?_
              refine hs.op rfl rfl rfl (ok_move (.t rfl)) fun I a w hs => ?_
              refine hs.opG (guarded_F rfl rfl rfl) rfl rfl (ok_move (.t rfl)) fun I a w hs => ?_
              refine hs.opG (guarded_F rfl rfl rfl) rfl rfl (ok_eqi (.g rfl (fun hg => by first | exact hg | exact (Bool.and_eq_true_iff.1 hg).1 | exact (Bool.and_eq_true_iff.1 (Bool.and_eq_true_iff.1 hg).1).1)) .c) fun I a w hs => ?_
              refine hs.op rfl rfl rfl (ok_or (.t rfl) .c (by first | exact .t rfl | exact .gc rfl (fun hg => hg) | exact .gc rfl (fun hg => (Bool.and_eq_true_iff.1 hg).1))) fun I a w hs => ?_
              refine hs.op rfl rfl rfl (ok_assign (.t rfl)) fun I a w hs => ?_
              refine wpList_nil ?_
              refine then_n ?_
              refine hs.cond (.t rfl) (fun hb7 => ?_) (fun hb7 => ?_)
              · try simp only [decide_eq_true_eq, decide_eq_false_iff_not, Bool.not_eq_true', Bool.not_eq_false', Bool.and_eq_true, Bool.or_eq_true, Bool.and_eq_false_iff, Bool.or_eq_false_iff, beq_iff_eq, bne_iff_ne, bne_eq_false_iff_eq, beq_eq_false_iff_ne, ne_eq, Int.not_lt, Int.not_le, Int.ofNat_lt, Int.ofNat_le] at hb7
                refine wp_seq ?_
                refine St.region ?_
                refine hs.op rfl rfl rfl (ok_move (.t rfl)) fun I a w hs => ?_
                refine hs.op rfl rfl rfl (ok_move (.t rfl)) fun I a w hs => ?_
                refine hs.op rfl rfl rfl ((by first | exact ok_idxN un56 ty3 (.t rfl) .c (fun _ => by omega) | exact ok_idxM un56 ty3 (.t rfl) .c (fun _ => by omega) | exact ok_idx un56 ty3 (.t rfl) .c (fun _ => by omega))) fun I a w hs => ?_
                refine hs.op rfl rfl rfl (ok_load1 ty3 (.t rfl)) fun I a w hs => ?_
                refine hs.op rfl rfl rfl (ok_build (l0 := [AV.val (.int .i64 0), AV.val (.int .i64 0), AV.val (.int .i64 0), AV.val (.int .i64 0), AV.val (.int .i64 0), AV.val (.int .i64 0), AV.val (.int .i64 0), AV.val (.int .i64 0), AV.val (.int .i64 0), AV.val (.int .i64 0), AV.val (.int .i64 0)]) ty35 fk35 zc35 rfl (Parts.c sp35_0 rfl (.t rfl) (by first | exact one_val rfl | exact one_rows | exact one_ptr | exact one_fn) (Parts.c sp35_2 rfl (.t rfl) (by first | exact one_val rfl | exact one_rows | exact one_ptr | exact one_fn) Parts.nil))) fun I a w hs => ?_
                refine hs.storeB 0 ty35 (.t rfl) (.t rfl) rfl (by first | rfl | assumption) rfl fun a w hs => ?_
                refine hs.op rfl rfl rfl (ok_assign .c) fun I a w hs => ?_
                refine wpList_nil ?_
                refine then_n ?_
                refine wp_ret ?_
                refine block_r ?_
                refine then_r ?_
                refine hs.ret rfl (.cons (.s 0 ty35 rfl rfl (by first | rfl | assumption)) (.cons (.t rfl) ResL.nil)) ?_
                exact (by unfold readEv; (repeat (first | rw [if_pos (by omega)] | rw [if_neg (by omega)])); rfl)
              · try simp only [decide_eq_true_eq, decide_eq_false_iff_not, Bool.not_eq_true', Bool.not_eq_false', Bool.and_eq_true, Bool.or_eq_true, Bool.and_eq_false_iff, Bool.or_eq_false_iff, beq_iff_eq, bne_iff_ne, bne_eq_false_iff_eq, beq_eq_false_iff_ne, ne_eq, Int.not_lt, Int.not_le, Int.ofNat_lt, Int.ofNat_le] at hb7
                refine wp_skip ?_
                refine block_n ?_
                refine then_n ?_
                refine wp_seq ?_
                refine St.region ?_
                refine hs.op rfl rfl rfl (ok_move (.t rfl)) fun I a w hs => ?_
                refine hs.op rfl rfl rfl (ok_move (.t rfl)) fun I a w hs => ?_
                refine hs.op rfl rfl rfl ((by first | exact ok_idxN un56 ty3 (.t rfl) .c (fun _ => by omega) | exact ok_idxM un56 ty3 (.t rfl) .c (fun _ => by omega) | exact ok_idx un56 ty3 (.t rfl) .c (fun _ => by omega))) fun I a w hs => ?_
                refine hs.op rfl rfl rfl (ok_load1 ty3 (.t rfl)) fun I a w hs => ?_
                refine hs.op rfl rfl rfl (ok_build (l0 := [AV.val (.int .i64 0), AV.val (.int .i64 0), AV.val (.int .i64 0), AV.val (.int .i64 0), AV.val (.int .i64 0), AV.val (.int .i64 0), AV.val (.int .i64 0), AV.val (.int .i64 0), AV.val (.int .i64 0), AV.val (.int .i64 0), AV.val (.int .i64 0)]) ty35 fk35 zc35 rfl (Parts.c sp35_0 rfl (.t rfl) (by first | exact one_val rfl | exact one_rows | exact one_ptr | exact one_fn) (Parts.c sp35_1 rfl (.t rfl) (by first | exact one_val rfl | exact one_rows | exact one_ptr | exact one_fn) Parts.nil))) fun I a w hs => ?_
                refine hs.storeB 0 ty35 (.t rfl) (.t rfl) rfl (by first | rfl | assumption) rfl fun a w hs => ?_
                refine hs.op rfl rfl rfl (ok_assign .c) fun I a w hs => ?_
                refine wpList_nil ?_
                refine then_n ?_
                refine wp_ret ?_
                refine hs.ret rfl (.cons (.s 0 ty35 rfl rfl (by first | rfl | assumption)) (.cons (.t rfl) ResL.nil)) ?_
                exact (by unfold readEv; (repeat (first | rw [if_pos (by omega)] | rw [if_neg (by omega)])); rfl)


def listed (s : List UInt8) : List Int := (splitB 32 s).tail.map parseB

end Go.Proofs.YtblcocjbnjfhkaaDoor
