/- Walks: the reference of lines of text. -/
import Derived.Test.YtblcocjbnjfhkaaDoorWalk1
set_option linter.unusedVariables false
set_option linter.unusedSimpArgs false
set_option maxRecDepth 100000
namespace Go.Proofs.YtblcocjbnjfhkaaDoor
open Go Go.RowKit


theorem elt_eq {l m : List Ev} {k : Nat} (h : k < l.length) (he : l.length = m.length) (hall : ∀ i, i < k → elt l i = elt m i) (hn : elt l k ≠ elt m k) : l ≠ m := fun e => hn (by rw [e])
theorem elt_all {l m : List Ev} {k : Nat} (h : l.length ≤ k) (he : l.length = m.length) (hall : ∀ i, i < k → elt l i = elt m i) : l = m := by
  apply List.ext_getElem he
  intro i h1 h2
  have := hall i (by omega)
  simpa [elt, h1, h2] using this

theorem c_laws_eqNeckEventS (l m : List Ev) :
    Fn Tryd.prog 9 [evsAV l, evsAV m] (AV.bool (decide (l = m))) := by
  refine Fn.intro 27 Tryd.func9 rfl Tryd.ntmps9 rfl (by kernel_rfl) (fun W I a hs => ?_)
  have hle := hs.lenleM (t := 0) rfl
  refine wp_seq ?_
  refine St.region ?_
  refine hs.op rfl rfl rfl (ok_assign .c) fun I a w hs => ?_
  refine wpList_nil ?_
  refine then_n ?_
  refine wp_seq ?_
  refine wp_seq ?_
  refine St.region ?_
  refine hs.op rfl rfl rfl (ok_move (.t rfl)) fun I a w hs => ?_
  refine hs.op rfl rfl rfl ((by first | exact ok_lenM un25 (.t rfl) | exact ok_len un25 (.t rfl) | exact ok_lenV un25 (.t rfl))) fun I a w hs => ?_
  refine hs.op rfl rfl rfl (ok_move (.t rfl)) fun I a w hs => ?_
  refine hs.op rfl rfl rfl ((by first | exact ok_lenM un25 (.t rfl) | exact ok_len un25 (.t rfl) | exact ok_lenV un25 (.t rfl))) fun I a w hs => ?_
  refine hs.op rfl rfl rfl (ok_nei (.t rfl) (.t rfl)) fun I a w hs => ?_
  refine wpList_nil ?_
  refine then_n ?_
  refine hs.cond (.t rfl) (fun hb1 => ?_) (fun hb1 => ?_)
  · try simp only [decide_eq_true_eq, decide_eq_false_iff_not, Bool.not_eq_true', Bool.not_eq_false', Bool.and_eq_true, Bool.or_eq_true, Bool.and_eq_false_iff, Bool.or_eq_false_iff, beq_iff_eq, bne_iff_ne, bne_eq_false_iff_eq, beq_eq_false_iff_ne, ne_eq, Int.not_lt, Int.not_le, Int.ofNat_lt, Int.ofNat_le] at hb1
    refine wp_seq ?_
    refine St.region ?_
    refine hs.op rfl rfl rfl (ok_assign .c) fun I a w hs => ?_
    refine wpList_nil ?_
    refine then_n ?_
    refine wp_ret ?_
    refine then_r ?_
    refine hs.ret rfl (.cons (.t rfl) ResL.nil) ?_
    exact ret_bool (decide_eq_false (fun h => hb1 (by rw [h]))).symm
  · try simp only [decide_eq_true_eq, decide_eq_false_iff_not, Bool.not_eq_true', Bool.not_eq_false', Bool.and_eq_true, Bool.or_eq_true, Bool.and_eq_false_iff, Bool.or_eq_false_iff, beq_iff_eq, bne_iff_ne, bne_eq_false_iff_eq, beq_eq_false_iff_ne, ne_eq, Int.not_lt, Int.not_le, Int.ofNat_lt, Int.ofNat_le] at hb1
    refine wp_skip ?_
    refine then_n ?_
    refine wp_seq ?_
    refine wp_seq ?_
    refine St.region ?_
    refine hs.op rfl rfl rfl (ok_assign .c) fun I a w hs => ?_
    refine wpList_nil ?_
    refine then_n ?_
    refine wp_block ?_
    refine St.loopS (σ := Nat) (4 :: 5 :: 11 :: 12 :: 13 :: 14 :: 15 :: 16 :: 17 :: 18 :: 19 :: 20 :: 21 :: 22 :: 23 :: 24 :: 25 :: 26 :: []) ⟨fun k => [(5, AV.int k)], fun k => [], fun k => k ≤ l.length ∧ ∀ i, i < k → elt l i = elt m i⟩ (fun k => l.length - k) 0 hs rfl ?ok1 ?env1 ?round1
    case ok1 => exact ⟨by omega, fun i hi => by omega⟩
    case env1 => exact (Env.le_consE rfl (by rfl) Env.le_nil)
    case round1 =>
      rintro k I a w hok hs
      obtain ⟨hk, hall⟩ := hok
      refine wp_seq ?_
      refine wp_seq ?_
      refine St.region ?_
      refine hs.op rfl rfl rfl (ok_move (.t rfl)) fun I a w hs => ?_
      refine hs.op rfl rfl rfl (ok_move (.t rfl)) fun I a w hs => ?_
      refine hs.op rfl rfl rfl ((by first | exact ok_lenM un25 (.t rfl) | exact ok_len un25 (.t rfl) | exact ok_lenV un25 (.t rfl))) fun I a w hs => ?_
      refine hs.op rfl rfl rfl (ok_lss (.t rfl) (.t rfl)) fun I a w hs => ?_
      refine wpList_nil ?_
      refine then_n ?_
      refine hs.cond (.t rfl) (fun hb2 => ?_) (fun hb2 => ?_)
      · try simp only [decide_eq_true_eq, decide_eq_false_iff_not, Bool.not_eq_true', Bool.not_eq_false', Bool.and_eq_true, Bool.or_eq_true, Bool.and_eq_false_iff, Bool.or_eq_false_iff, beq_iff_eq, bne_iff_ne, bne_eq_false_iff_eq, beq_eq_false_iff_ne, ne_eq, Int.not_lt, Int.not_le, Int.ofNat_lt, Int.ofNat_le] at hb2
        refine wp_skip ?_
        refine then_n ?_
        refine wp_seq ?_
        refine wp_block ?_
        refine wp_seq ?_
        refine hs.drawK (by kernel_rfl) (by kernel_rfl) rfl ?_
        refine RunK.cons (.of rfl (ok_move (.t rfl))) ?_
        refine RunK.cons (.of rfl (ok_move (.t rfl))) ?_
        refine RunK.cons (.of rfl ((by first | exact ok_idxN un25 ty35 (.t rfl) (.t rfl) (fun _ => by exact hb2) | exact ok_idxM un25 ty35 (.t rfl) (.t rfl) (fun _ => by exact hb2) | exact ok_idx un25 ty35 (.t rfl) (.t rfl) (fun _ => by exact hb2)))) ?_
        refine RunK.cons (.of rfl ((by first | exact ok_loadA ty35 (.t rfl) rfl | exact ok_loadS ty35 (.t rfl) rfl))) ?_
        refine RunK.cons (.of rfl (ok_move (.t rfl))) ?_
        refine RunK.cons (.of rfl (ok_move (.t rfl))) ?_
        refine RunK.cons (.of rfl ((by first | exact ok_idxN un25 ty35 (.t rfl) (.t rfl) (fun _ => by omega) | exact ok_idxM un25 ty35 (.t rfl) (.t rfl) (fun _ => by omega) | exact ok_idx un25 ty35 (.t rfl) (.t rfl) (fun _ => by omega)))) ?_
        refine RunK.cons (.of rfl ((by first | exact ok_loadA ty35 (.t rfl) rfl | exact ok_loadS ty35 (.t rfl) rfl))) ?_
        refine RunK.cons (.of rfl (ok_call (c_laws_eqNeckEvent ..) (args_cons (.t rfl) (args_cons (.t rfl) args_nil)))) ?_
        refine RunK.cons (.of rfl (ok_not (.t rfl))) ?_
        refine RunK.nil ?_
        intro I a w hs
        refine then_n ?_
        refine hs.cond (.t rfl) (fun hb3 => ?_) (fun hb3 => ?_)
        · simp only [Bool.not_eq_true', decide_eq_false_iff_not] at hb3
          refine wp_seq ?_
          refine St.region ?_
          refine hs.op rfl rfl rfl (ok_assign .c) fun I a w hs => ?_
          refine wpList_nil ?_
          refine then_n ?_
          refine wp_ret ?_
          refine block_r ?_
          refine then_r ?_
          refine then_r ?_
          refine block_r ?_
          refine then_r ?_
          refine hs.ret rfl (.cons (.t rfl) ResL.nil) ?_
          exact ret_bool (decide_eq_false (fun h => hb3 (by rw [h]))).symm
        · simp only [Bool.not_eq_false', decide_eq_true_eq] at hb3
          refine wp_skip ?_
          refine block_n ?_
          refine then_n ?_
          refine St.region ?_
          refine hs.op rfl rfl rfl (ok_move (.t rfl)) fun I a w hs => ?_
          refine hs.op rfl rfl rfl (ok_add (.t rfl) .c (fun _ => by omega)) fun I a w hs => ?_
          refine hs.op rfl rfl rfl (ok_assign (.t rfl)) fun I a w hs => ?_
          refine wpList_nil ?_
          refine then_n ?_
          refine hs.again (k + 1) ?mu1 ?ok1001 (by rfl) ?env1001 (by repeat (first | exact Env.le_rfl | refine Env.le_push rfl ?_))
          case mu1 => omega
          case ok1001 => exact ⟨hb2, fun i hi => by rcases Nat.lt_succ_iff_lt_or_eq.1 hi with h | h; exact hall i h; rw [h]; exact hb3⟩
          case env1001 => exact (Env.le_consE rfl (by first | rfl | (congr 1; done)) Env.le_nil)
      · try simp only [decide_eq_true_eq, decide_eq_false_iff_not, Bool.not_eq_true', Bool.not_eq_false', Bool.and_eq_true, Bool.or_eq_true, Bool.and_eq_false_iff, Bool.or_eq_false_iff, beq_iff_eq, bne_iff_ne, bne_eq_false_iff_eq, beq_eq_false_iff_ne, ne_eq, Int.not_lt, Int.not_le, Int.ofNat_lt, Int.ofNat_le] at hb2
        refine wp_exit ?_
        refine then_x ?_
        refine then_x ?_
        refine block_hit ?_
        refine then_n ?_
        refine wp_seq ?_
        refine St.region ?_
        refine hs.op rfl rfl rfl (ok_assign .c) fun I a w hs => ?_
        refine wpList_nil ?_
        refine then_n ?_
        refine wp_ret ?_
        refine hs.ret rfl (.cons (.t rfl) ResL.nil) ?_
        exact ret_bool (decide_eq_true (elt_all (by omega) (by omega) hall)).symm


def decMu (n : Int) : Nat := 2 * n.natAbs + (if n < 0 then 1 else 0)
theorem dec_len {n : Int} (h : i64r n) : (dec n).length ≤ 21 := Lib.itoa_length_le n h.1 h.2
theorem dec_min : dec (-9223372036854775808) = [45, 57, 50, 50, 51, 51, 55, 50, 48, 51, 54, 56, 53, 52, 55, 55, 53, 56, 48, 56] := by
  simp [dec, Lib.itoa, Lib.decDigits]
theorem dec_neg {n : Int} (h : n < 0) : [45] ++ dec (-n) = dec n := by
  unfold dec Lib.itoa
  rw [if_pos h, if_neg (by omega), show (-n).toNat = n.natAbs from by omega]; rfl
theorem dec_small {n : Int} (h0 : 0 ≤ n) (h : n < 10) : [UInt8.ofNat (48 + n).toNat] = dec n := by
  unfold dec Lib.itoa
  rw [if_neg (by omega), Lib.decDigits, dif_pos (by omega), show (48 + n).toNat = 48 + n.toNat from by omega]
theorem dec_big {n : Int} (h : 10 ≤ n) : dec (n / 10) ++ [UInt8.ofNat (48 + n % 10).toNat] = dec n := by
  unfold dec Lib.itoa
  rw [if_neg (by omega), if_neg (by omega)]
  conv => rhs; rw [Lib.decDigits, dif_neg (by omega)]
  rw [show (n / 10).toNat = n.toNat / 10 from by omega, show (48 + n % 10).toNat = 48 + n.toNat % 10 from by omega]

theorem l6Dec_step (N : Nat) (ih : ∀ n : Int, decMu n < N → i64r n → Fn Tryd.prog 26 [AV.int n] (AV.text (dec n))) (n : Int) (hN : decMu n = N) (h : i64r n) :
    Fn Tryd.prog 26 [AV.int n] (AV.text (dec n)) := by
  refine Fn.intro 28 Tryd.func26 rfl Tryd.ntmps26 rfl (by kernel_rfl) (fun W I a hs => ?_)
  obtain ⟨h1, h2⟩ := id h
  refine wp_seq ?_
  refine St.region ?_
  refine hs.op rfl rfl rfl (ok_assign .c) fun I a w hs => ?_
  refine wpList_nil ?_
  refine then_n ?_
  refine wp_seq ?_
  refine wp_seq ?_
  refine St.region ?_
  refine hs.op rfl rfl rfl (ok_move (.t rfl)) fun I a w hs => ?_
  refine hs.op rfl rfl rfl (ok_lss (.t rfl) .c) fun I a w hs => ?_
  refine wpList_nil ?_
  refine then_n ?_
  refine hs.cond (.t rfl) (fun hb1 => ?_) (fun hb1 => ?_)
  · try simp only [decide_eq_true_eq, decide_eq_false_iff_not, Bool.not_eq_true', Bool.not_eq_false', Bool.and_eq_true, Bool.or_eq_true, Bool.and_eq_false_iff, Bool.or_eq_false_iff, beq_iff_eq, bne_iff_ne, bne_eq_false_iff_eq, beq_eq_false_iff_ne, ne_eq, Int.not_lt, Int.not_le, Int.ofNat_lt, Int.ofNat_le] at hb1
    refine wp_seq ?_
    refine St.region ?_
    refine hs.op rfl rfl rfl (ok_assign .c) fun I a w hs => ?_
    refine wpList_nil ?_
    refine then_n ?_
    refine wp_ret ?_
    refine then_r ?_
    refine hs.ret rfl (.cons (.t rfl) ResL.nil) ?_
    exact ret_av (by rw [show n = -9223372036854775808 from by omega]; rw [dec_min])
  · try simp only [decide_eq_true_eq, decide_eq_false_iff_not, Bool.not_eq_true', Bool.not_eq_false', Bool.and_eq_true, Bool.or_eq_true, Bool.and_eq_false_iff, Bool.or_eq_false_iff, beq_iff_eq, bne_iff_ne, bne_eq_false_iff_eq, beq_eq_false_iff_ne, ne_eq, Int.not_lt, Int.not_le, Int.ofNat_lt, Int.ofNat_le] at hb1
    refine wp_skip ?_
    refine then_n ?_
    refine wp_seq ?_
    refine wp_seq ?_
    refine St.region ?_
    refine hs.op rfl rfl rfl (ok_move (.t rfl)) fun I a w hs => ?_
    refine hs.op rfl rfl rfl (ok_lss (.t rfl) .c) fun I a w hs => ?_
    refine wpList_nil ?_
    refine then_n ?_
    refine hs.cond (.t rfl) (fun hb2 => ?_) (fun hb2 => ?_)
    · try simp only [decide_eq_true_eq, decide_eq_false_iff_not, Bool.not_eq_true', Bool.not_eq_false', Bool.and_eq_true, Bool.or_eq_true, Bool.and_eq_false_iff, Bool.or_eq_false_iff, beq_iff_eq, bne_iff_ne, bne_eq_false_iff_eq, beq_eq_false_iff_ne, ne_eq, Int.not_lt, Int.not_le, Int.ofNat_lt, Int.ofNat_le] at hb2
      refine wp_seq ?_
      refine St.region ?_
      refine hs.op rfl rfl rfl (ok_move (.t rfl)) fun I a w hs => ?_
      refine hs.op rfl rfl rfl (ok_negI (.t rfl) (fun _ => by omega)) fun I a w hs => ?_
      refine hs.op rfl rfl rfl (ok_call (ih (-n) (by simp only [decMu] at *; split at hN <;> split <;> omega) ⟨by omega, by omega⟩) (args_cons (.t rfl) args_nil)) fun I a w hs => ?_
      refine hs.op rfl rfl rfl (ok_cat .c (.t rfl) (fun _ => by have := dec_len (n := -n) ⟨by omega, by omega⟩; simp only [List.length_cons, List.length_nil]; omega)) fun I a w hs => ?_
      refine hs.op rfl rfl rfl (ok_assign (.t rfl)) fun I a w hs => ?_
      refine wpList_nil ?_
      refine then_n ?_
      refine wp_ret ?_
      refine then_r ?_
      refine hs.ret rfl (.cons (.t rfl) ResL.nil) ?_
      exact ret_av (by rw [dec_neg (by omega)])
    · try simp only [decide_eq_true_eq, decide_eq_false_iff_not, Bool.not_eq_true', Bool.not_eq_false', Bool.and_eq_true, Bool.or_eq_true, Bool.and_eq_false_iff, Bool.or_eq_false_iff, beq_iff_eq, bne_iff_ne, bne_eq_false_iff_eq, beq_eq_false_iff_ne, ne_eq, Int.not_lt, Int.not_le, Int.ofNat_lt, Int.ofNat_le] at hb2
      refine wp_skip ?_
      refine then_n ?_
      refine wp_seq ?_
      refine wp_seq ?_
      refine St.region ?_
      refine hs.op rfl rfl rfl (ok_move (.t rfl)) fun I a w hs => ?_
      refine hs.op rfl rfl rfl (ok_lss (.t rfl) .c) fun I a w hs => ?_
      refine wpList_nil ?_
      refine then_n ?_
      refine hs.cond (.t rfl) (fun hb3 => ?_) (fun hb3 => ?_)
      · try simp only [decide_eq_true_eq, decide_eq_false_iff_not, Bool.not_eq_true', Bool.not_eq_false', Bool.and_eq_true, Bool.or_eq_true, Bool.and_eq_false_iff, Bool.or_eq_false_iff, beq_iff_eq, bne_iff_ne, bne_eq_false_iff_eq, beq_eq_false_iff_ne, ne_eq, Int.not_lt, Int.not_le, Int.ofNat_lt, Int.ofNat_le] at hb3
        refine wp_seq ?_
        refine St.region ?_
        refine hs.op rfl rfl rfl (ok_move (.t rfl)) fun I a w hs => ?_
        refine hs.op rfl rfl rfl (ok_add .c (.t rfl) (fun _ => by omega)) fun I a w hs => ?_
        refine hs.op rfl rfl rfl (ok_to8 (by kernel_rfl) un5 (.t rfl) (fun _ => by omega)) fun I a w hs => ?_
        refine hs.op rfl rfl rfl (ok_lit (lxs := [_]) un41 ty5 rfl zo5 rfl rfl (Parts.c rfl rfl (.t rfl) (by first | exact one_val rfl | exact one_rows | exact one_ptr | exact one_fn) Parts.nil) rfl rfl (by simp)) fun I a w hs => ?_
        refine hs.op rfl rfl rfl (ok_text1 un41 un5 un9 (.t rfl)) fun I a w hs => ?_
        refine hs.op rfl rfl rfl (ok_assign (.t rfl)) fun I a w hs => ?_
        refine wpList_nil ?_
        refine then_n ?_
        refine wp_ret ?_
        refine then_r ?_
        refine hs.ret rfl (.cons (.t rfl) ResL.nil) ?_
        exact ret_av (by rw [dec_small (by omega) (by omega)])
      · try simp only [decide_eq_true_eq, decide_eq_false_iff_not, Bool.not_eq_true', Bool.not_eq_false', Bool.and_eq_true, Bool.or_eq_true, Bool.and_eq_false_iff, Bool.or_eq_false_iff, beq_iff_eq, bne_iff_ne, bne_eq_false_iff_eq, beq_eq_false_iff_ne, ne_eq, Int.not_lt, Int.not_le, Int.ofNat_lt, Int.ofNat_le] at hb3
        refine wp_skip ?_
        refine then_n ?_
        refine wp_seq ?_
        refine hs.drawK (by kernel_rfl) (by kernel_rfl) rfl ?_
        refine RunK.cons (.of rfl (ok_move (.t rfl))) ?_
        refine RunK.cons (.of rfl (ok_quo (.t rfl) .c (fun _ => by omega))) ?_
        refine RunK.cons (.of rfl (ok_call (ih (n / 10) (by simp only [decMu] at *; split at hN <;> split <;> omega) ⟨by omega, by omega⟩) (args_cons (.t rfl) args_nil))) ?_
        refine RunK.cons (.of rfl (ok_move (.t rfl))) ?_
        refine RunK.cons (.of rfl (ok_rem (.t rfl) .c (fun _ => by omega))) ?_
        refine RunK.cons (.of rfl (ok_add .c (.t rfl) (fun _ => by omega))) ?_
        refine RunK.cons (.of rfl (ok_to8 (by kernel_rfl) un5 (.t rfl) (fun _ => by omega))) ?_
        refine RunK.cons (.of rfl (ok_lit (lxs := [_]) un41 ty5 rfl zo5 rfl rfl (Parts.c rfl rfl (.t rfl) (by first | exact one_val rfl | exact one_rows | exact one_ptr | exact one_fn) Parts.nil) rfl rfl (by simp))) ?_
        refine RunK.cons (.of rfl (ok_text1 un41 un5 un9 (.t rfl))) ?_
        refine RunK.cons (.of rfl (ok_cat (.t rfl) (.t rfl) (fun _ => by have := dec_len (n := n / 10) ⟨by omega, by omega⟩; simp only [List.length_cons, List.length_nil]; omega))) ?_
        refine RunK.cons (.of rfl (ok_assign (.t rfl))) ?_
        refine RunK.nil ?_
        intro I a w hs
        refine then_n ?_
        refine wp_ret ?_
        refine hs.ret rfl (.cons (.t rfl) ResL.nil) ?_
        exact ret_av (by rw [dec_big (by omega)])


theorem c_spec_l6Dec (n : Int) (h : i64r n) : Fn Tryd.prog 26 [AV.int n] (AV.text (dec n)) := by
  have key : ∀ N, ∀ n : Int, decMu n = N → i64r n → Fn Tryd.prog 26 [AV.int n] (AV.text (dec n)) := by
    intro N
    induction N using Nat.strongRecOn with
    | _ N ih => exact fun n hN h => l6Dec_step N (fun k hk hk2 => ih _ hk k rfl hk2) n hN h
  exact key _ n rfl h
/-! The figures read so far -/
theorem numB_take {s : List UInt8} {k : Nat} (h : k < s.length) : numB (s.take (k + 1)) = numB (s.take k) * 10 + (((s.getD k 0).toNat : Int) - 48) := by
  rw [List.take_succ_eq_append_getElem h]
  unfold numB
  rw [List.foldl_append]
  simp [h]
theorem digit_iff (x : UInt8) : digitB x = (decide (48 ≤ (x.toNat : Int)) && decide ((x.toNat : Int) ≤ 57)) := by
  simp only [digitB]; congr 1 <;> simp <;> omega
theorem digit_test (x : UInt8) : (decide ((x.toNat : Int) < 48) || decide (57 < (x.toNat : Int))) = !digitB x := by
  rw [digit_iff, Bool.eq_iff_iff]; simp
theorem getD_mem {s : List UInt8} {k : Nat} (h : k < s.length) : s.getD k 0 ∈ s := by
  rw [List.getD_eq_getElem?_getD, List.getElem?_eq_getElem h]; exact List.getElem_mem _
theorem numB_le : ∀ (k : Nat) (s : List UInt8), (∀ i, i < k → digitB (s.getD i 0) = true) → k ≤ s.length → 0 ≤ numB (s.take k) ∧ numB (s.take k) < 10 ^ k
  | 0, s, _, _ => by simp [numB]
  | k + 1, s, h, hk => by
    have ih := numB_le k s (fun i hi => h i (by omega)) (by omega)
    rw [numB_take (by omega)]
    have h1 := h k (by omega)
    rw [digit_iff] at h1
    simp only [Bool.and_eq_true, decide_eq_true_eq] at h1
    rw [Int.pow_succ]
    omega
theorem parse_len {s : List UInt8} (h : (decide ((s.length : Int) < 1) || decide (5 < (s.length : Int))) = true) : -1 = parseB s := by
  unfold parseB; rw [if_pos]; simp at h; omega
theorem parse_bad {s : List UInt8} {k : Nat} (hk : k < s.length) (h : (!digitB (s.getD k 0)) = true) : -1 = parseB s := by
  unfold parseB
  split
  · rfl
  · rw [if_neg]
    intro hh
    rw [List.all_eq_true] at hh
    have := hh _ (getD_mem hk)
    rw [this] at h; cases h
theorem parse_all {s : List UInt8} {k : Nat} (hl : (decide ((s.length : Int) < 1) || decide (5 < (s.length : Int))) = false) (hk : s.length ≤ k) (h : ∀ i, i < k → digitB (s.getD i 0) = true) : parseB s = if dec (numB s) = s then numB s else -1 := by
  unfold parseB
  simp at hl
  rw [if_neg (by omega), if_pos]
  rw [List.all_eq_true]
  intro x hx
  obtain ⟨i, hi, rfl⟩ := List.getElem_of_mem hx
  have := h i (by omega)
  rwa [List.getD_eq_getElem?_getD, List.getElem?_eq_getElem hi] at this

theorem c_spec_l45Dec (s : List UInt8) :
    Fn Tryd.prog 27 [AV.text s] (AV.int (parseB s)) := by
  refine Fn.intro 42 Tryd.func27 rfl Tryd.ntmps27 rfl (by kernel_rfl) (fun W I a hs => ?_)
  refine wp_seq ?_
  refine St.region ?_
  refine hs.op rfl rfl rfl (ok_assign .c) fun I a w hs => ?_
  refine wpList_nil ?_
  refine then_n ?_
  refine wp_seq ?_
  refine wp_seq ?_
  refine St.region ?_
  refine hs.op rfl rfl rfl (ok_move (.t rfl)) fun I a w hs => ?_
  refine hs.op rfl rfl rfl (ok_lenT un9 (.t rfl)) fun I a w hs => ?_
  refine hs.op rfl rfl rfl (ok_lss (.t rfl) .c) fun I a w hs => ?_
  refine hs.op rfl rfl rfl (ok_move (.t rfl)) fun I a w hs => ?_
  refine hs.opG (guarded_F rfl rfl rfl) rfl rfl (ok_move (.t rfl)) fun I a w hs => ?_
  refine hs.opG (guarded_F rfl rfl rfl) rfl rfl (ok_lenT un9 (.g rfl (fun hg => by first | exact hg | exact (Bool.and_eq_true_iff.1 hg).1 | exact (Bool.and_eq_true_iff.1 (Bool.and_eq_true_iff.1 hg).1).1))) fun I a w hs => ?_
  refine hs.opG (guarded_F rfl rfl rfl) rfl rfl (ok_gtr (.g rfl (fun hg => by first | exact hg | exact (Bool.and_eq_true_iff.1 hg).1 | exact (Bool.and_eq_true_iff.1 (Bool.and_eq_true_iff.1 hg).1).1)) .c) fun I a w hs => ?_
  refine hs.op rfl rfl rfl (ok_or (.t rfl) .c (by first | exact .t rfl | exact .gc rfl (fun hg => hg) | exact .gc rfl (fun hg => (Bool.and_eq_true_iff.1 hg).1))) fun I a w hs => ?_
  refine wpList_nil ?_
  refine then_n ?_
  refine hs.cond (.t rfl) (fun hb1 => ?_) (fun hb1 => ?_)
  · skip
    refine wp_seq ?_
    refine St.region ?_
    refine hs.op rfl rfl rfl (ok_assign .c) fun I a w hs => ?_
    refine wpList_nil ?_
    refine then_n ?_
    refine wp_ret ?_
    refine then_r ?_
    refine hs.ret rfl (.cons (.t rfl) ResL.nil) ?_
    exact ret_int (parse_len hb1)
  · skip
    refine wp_skip ?_
    refine then_n ?_
    refine wp_seq ?_
    refine St.region ?_
    refine hs.op rfl rfl rfl (ok_assign .c) fun I a w hs => ?_
    refine wpList_nil ?_
    refine then_n ?_
    refine wp_seq ?_
    refine wp_seq ?_
    refine St.region ?_
    refine hs.op rfl rfl rfl (ok_assign .c) fun I a w hs => ?_
    refine wpList_nil ?_
    refine then_n ?_
    refine wp_block ?_
    refine St.loopS (σ := Nat) (2 :: 3 :: 4 :: 13 :: 14 :: 15 :: 16 :: 17 :: 18 :: 19 :: 20 :: 21 :: 22 :: 23 :: 24 :: 25 :: 26 :: 27 :: 28 :: 29 :: 30 :: 31 :: 32 :: 33 :: 34 :: 35 :: 36 :: []) ⟨fun k => [(4, AV.int k), (3, AV.int (numB (s.take k)))], fun k => [], fun k => k ≤ s.length ∧ ∀ i, i < k → digitB (s.getD i 0) = true⟩ (fun k => s.length - k) 0 hs rfl ?ok1 ?env1 ?round1
    case ok1 => exact ⟨by omega, fun i hi => by omega⟩
    case env1 => exact (Env.le_consE rfl (by rfl) (Env.le_consE rfl (by rfl) Env.le_nil))
    case round1 =>
      rintro k I a w hok hs
      obtain ⟨hk, hall⟩ := hok
      have hl5 : s.length ≤ 5 := by simp at hb1; omega
      have hnb := numB_le k s hall hk
      have hp5 : (10 : Int) ^ k ≤ 10 ^ 5 := by exact_mod_cast Nat.pow_le_pow_right (by omega) (by omega : k ≤ 5)
      refine wp_seq ?_
      refine wp_seq ?_
      refine St.region ?_
      refine hs.op rfl rfl rfl (ok_move (.t rfl)) fun I a w hs => ?_
      refine hs.op rfl rfl rfl (ok_move (.t rfl)) fun I a w hs => ?_
      refine hs.op rfl rfl rfl (ok_lenT un9 (.t rfl)) fun I a w hs => ?_
      refine hs.op rfl rfl rfl (ok_lss (.t rfl) (.t rfl)) fun I a w hs => ?_
      refine wpList_nil ?_
      refine then_n ?_
      refine hs.cond (.t rfl) (fun hb2 => ?_) (fun hb2 => ?_)
      · try simp only [decide_eq_true_eq, decide_eq_false_iff_not, Bool.not_eq_true', Bool.not_eq_false', Bool.and_eq_true, Bool.or_eq_true, Bool.and_eq_false_iff, Bool.or_eq_false_iff, beq_iff_eq, bne_iff_ne, bne_eq_false_iff_eq, beq_eq_false_iff_ne, ne_eq, Int.not_lt, Int.not_le, Int.ofNat_lt, Int.ofNat_le] at hb2
        refine wp_skip ?_
        refine then_n ?_
        refine wp_seq ?_
        refine wp_block ?_
        refine wp_seq ?_
        refine wp_seq ?_
        refine St.region ?_
        refine hs.op rfl rfl rfl (ok_move (.t rfl)) fun I a w hs => ?_
        refine hs.op rfl rfl rfl (ok_move (.t rfl)) fun I a w hs => ?_
        refine hs.op rfl rfl rfl (ok_idxT un9 (.t rfl) (.t rfl) (fun _ => by omega)) fun I a w hs => ?_
        refine hs.op rfl rfl rfl (ok_lss8 (.t rfl) .c) fun I a w hs => ?_
        refine hs.op rfl rfl rfl (ok_move (.t rfl)) fun I a w hs => ?_
        refine hs.opG (guarded_F rfl rfl rfl) rfl rfl (ok_move (.t rfl)) fun I a w hs => ?_
        refine hs.opG (guarded_F rfl rfl rfl) rfl rfl (ok_move (.t rfl)) fun I a w hs => ?_
        refine hs.opG (guarded_F rfl rfl rfl) rfl rfl (ok_idxT un9 (.g rfl (fun hg => by first | exact hg | exact (Bool.and_eq_true_iff.1 hg).1 | exact (Bool.and_eq_true_iff.1 (Bool.and_eq_true_iff.1 hg).1).1)) (.g rfl (fun hg => by first | exact hg | exact (Bool.and_eq_true_iff.1 hg).1 | exact (Bool.and_eq_true_iff.1 (Bool.and_eq_true_iff.1 hg).1).1)) (fun hg => by omega)) fun I a w hs => ?_
        refine hs.opG (guarded_F rfl rfl rfl) rfl rfl (ok_gtr8 (.g rfl (fun hg => by first | exact hg | exact (Bool.and_eq_true_iff.1 hg).1 | exact (Bool.and_eq_true_iff.1 (Bool.and_eq_true_iff.1 hg).1).1)) .c) fun I a w hs => ?_
        refine hs.op rfl rfl rfl (ok_or (.t rfl) .c (by first | exact .t rfl | exact .gc rfl (fun hg => hg) | exact .gc rfl (fun hg => (Bool.and_eq_true_iff.1 hg).1))) fun I a w hs => ?_
        refine wpList_nil ?_
        refine then_n ?_
        refine hs.cond (.t rfl) (fun hb3 => ?_) (fun hb3 => ?_)
        · rw [digit_test] at hb3
          refine wp_seq ?_
          refine St.region ?_
          refine hs.op rfl rfl rfl (ok_assign .c) fun I a w hs => ?_
          refine wpList_nil ?_
          refine then_n ?_
          refine wp_ret ?_
          refine then_r ?_
          refine block_r ?_
          refine then_r ?_
          refine then_r ?_
          refine block_r ?_
          refine then_r ?_
          refine hs.ret rfl (.cons (.t rfl) ResL.nil) ?_
          exact ret_int (parse_bad hb2 hb3)
        · rw [digit_test, Bool.not_eq_false'] at hb3
          refine wp_skip ?_
          refine then_n ?_
          refine St.region ?_
          refine hs.op rfl rfl rfl (ok_move (.t rfl)) fun I a w hs => ?_
          refine hs.op rfl rfl rfl (ok_mul (.t rfl) .c (fun _ => by omega)) fun I a w hs => ?_
          refine hs.op rfl rfl rfl (ok_move (.t rfl)) fun I a w hs => ?_
          refine hs.op rfl rfl rfl (ok_move (.t rfl)) fun I a w hs => ?_
          refine hs.op rfl rfl rfl (ok_idxT un9 (.t rfl) (.t rfl) (fun _ => by omega)) fun I a w hs => ?_
          refine hs.op rfl rfl rfl (ok_sub8 (.t rfl) .c (fun _ => by have h3 := hb3; rw [digit_iff] at h3; simp only [Bool.and_eq_true, decide_eq_true_eq] at h3; omega)) fun I a w hs => ?_
          refine hs.op rfl rfl rfl (ok_of8 (by kernel_rfl) un3 (.t rfl) (fun _ => by have h3 := hb3; rw [digit_iff] at h3; simp only [Bool.and_eq_true, decide_eq_true_eq] at h3; omega)) fun I a w hs => ?_
          refine hs.op rfl rfl rfl (ok_add (.t rfl) (.t rfl) (fun _ => by have h3 := hb3; rw [digit_iff] at h3; simp only [Bool.and_eq_true, decide_eq_true_eq] at h3; omega)) fun I a w hs => ?_
          refine hs.op rfl rfl rfl (ok_assign (.t rfl)) fun I a w hs => ?_
          refine wpList_nil ?_
          refine block_n ?_
          refine then_n ?_
          refine St.region ?_
          refine hs.op rfl rfl rfl (ok_move (.t rfl)) fun I a w hs => ?_
          refine hs.op rfl rfl rfl (ok_add (.t rfl) .c (fun _ => by omega)) fun I a w hs => ?_
          refine hs.op rfl rfl rfl (ok_assign (.t rfl)) fun I a w hs => ?_
          refine wpList_nil ?_
          refine then_n ?_
          refine hs.again (k + 1) ?mu1 ?ok1001 (by rfl) ?env1001 (by repeat (first | exact Env.le_rfl | refine Env.le_push rfl ?_))
          case mu1 => omega
          case ok1001 => exact ⟨by omega, fun i hi => by rcases Nat.lt_succ_iff_lt_or_eq.1 hi with h | h; exact hall i h; rw [h]; exact hb3⟩
          case env1001 => exact (Env.le_consE rfl (by rfl) (Env.le_consE rfl (by rw [numB_take hb2]; rfl) Env.le_nil))
      · try simp only [decide_eq_true_eq, decide_eq_false_iff_not, Bool.not_eq_true', Bool.not_eq_false', Bool.and_eq_true, Bool.or_eq_true, Bool.and_eq_false_iff, Bool.or_eq_false_iff, beq_iff_eq, bne_iff_ne, bne_eq_false_iff_eq, beq_eq_false_iff_ne, ne_eq, Int.not_lt, Int.not_le, Int.ofNat_lt, Int.ofNat_le] at hb2
        refine wp_exit ?_
        refine then_x ?_
        refine then_x ?_
        refine block_hit ?_
        refine then_n ?_
        refine wp_seq ?_
        refine wp_seq ?_
        refine St.region ?_
        refine hs.op rfl rfl rfl (ok_move (.t rfl)) fun I a w hs => ?_
        refine hs.op rfl rfl rfl (ok_call (c_spec_l6Dec _ ⟨by omega, by omega⟩) (args_cons (.t rfl) args_nil)) fun I a w hs => ?_
        refine hs.op rfl rfl rfl (ok_move (.t rfl)) fun I a w hs => ?_
        refine hs.op rfl rfl rfl (ok_neT (.t rfl) (.t rfl)) fun I a w hs => ?_
        refine wpList_nil ?_
        refine then_n ?_
        refine hs.cond (.t rfl) (fun hb4 => ?_) (fun hb4 => ?_)
        · try simp only [decide_eq_true_eq, decide_eq_false_iff_not, Bool.not_eq_true', Bool.not_eq_false', Bool.and_eq_true, Bool.or_eq_true, Bool.and_eq_false_iff, Bool.or_eq_false_iff, beq_iff_eq, bne_iff_ne, bne_eq_false_iff_eq, beq_eq_false_iff_ne, ne_eq, Int.not_lt, Int.not_le, Int.ofNat_lt, Int.ofNat_le] at hb4
          refine wp_seq ?_
          refine St.region ?_
          refine hs.op rfl rfl rfl (ok_assign .c) fun I a w hs => ?_
          refine wpList_nil ?_
          refine then_n ?_
          refine wp_ret ?_
          refine then_r ?_
          refine hs.ret rfl (.cons (.t rfl) ResL.nil) ?_
          exact ret_int (by rw [List.take_of_length_le (by omega)] at hb4; rw [parse_all hb1 (by omega) hall, if_neg hb4])
        · try simp only [decide_eq_true_eq, decide_eq_false_iff_not, Bool.not_eq_true', Bool.not_eq_false', Bool.and_eq_true, Bool.or_eq_true, Bool.and_eq_false_iff, Bool.or_eq_false_iff, beq_iff_eq, bne_iff_ne, bne_eq_false_iff_eq, beq_eq_false_iff_ne, ne_eq, Int.not_lt, Int.not_le, Int.ofNat_lt, Int.ofNat_le] at hb4
          refine wp_skip ?_
          refine then_n ?_
          refine wp_seq ?_
          refine St.region ?_
          refine hs.op rfl rfl rfl (ok_move (.t rfl)) fun I a w hs => ?_
          refine hs.op rfl rfl rfl (ok_assign (.t rfl)) fun I a w hs => ?_
          refine wpList_nil ?_
          refine then_n ?_
          refine wp_ret ?_
          refine hs.ret rfl (.cons (.t rfl) ResL.nil) ?_
          exact ret_int (by rw [List.take_of_length_le (by omega)] at *; rw [parse_all hb1 (by omega) hall, if_pos hb4])

end Go.Proofs.YtblcocjbnjfhkaaDoor
