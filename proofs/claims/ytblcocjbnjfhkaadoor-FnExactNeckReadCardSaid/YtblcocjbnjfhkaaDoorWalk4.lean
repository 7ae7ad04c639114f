/- Walks: the reference of lines, read and written. -/
import Derived.Test.YtblcocjbnjfhkaaDoorWalk3
set_option linter.unusedVariables false
set_option linter.unusedSimpArgs false
set_option maxRecDepth 100000
namespace Go.Proofs.YtblcocjbnjfhkaaDoor
open Go Go.RowKit


def numsTo (ws : List (List UInt8)) (k : Nat) : List Int := (ws.tail.take (k - 1)).map parseB
theorem numsTo_succ {ws : List (List UInt8)} {k : Nat} (h1 : 1 ≤ k) (h2 : k < ws.length) : numsTo ws (k + 1) = numsTo ws k ++ [parseB (elt ws k)] := by
  unfold numsTo
  rw [show k + 1 - 1 = (k - 1) + 1 from by omega, List.take_succ_eq_append_getElem (by simp; omega), List.map_append]
  simp [elt, h2, show k - 1 + 1 = k from by omega]
theorem numsTo_all {ws : List (List UInt8)} {k : Nat} (h : ws.length ≤ k) : numsTo ws k = ws.tail.map parseB := by
  unfold numsTo; rw [List.take_of_length_le (by simp; omega)]
theorem numsTo_len {ws : List (List UInt8)} {k : Nat} : (numsTo ws k).length ≤ ws.length := by
  unfold numsTo; simp; omega
theorem snoc_int (out : List Int) (p : Int) : out.map intCell ++ [[AV.int p]] = (out ++ [p]).map intCell := by simp [intCell]
theorem elt_tail {ws : List (List UInt8)} {k : Nat} (h1 : 1 ≤ k) (h2 : k < ws.length) : elt ws k ∈ ws.tail := by
  cases ws with
  | nil => simp at h2
  | cons w r =>
    simp only [List.length_cons] at h2
    obtain ⟨j, rfl⟩ : ∃ j, k = j + 1 := ⟨k - 1, by omega⟩
    simp only [elt, List.getD_eq_getElem?_getD, List.getElem?_cons_succ, List.tail_cons]
    rw [List.getElem?_eq_getElem (by omega)]
    exact List.getElem_mem _
theorem readB_bad {s : List UInt8} {k : Nat} (h1 : 1 ≤ k) (h2 : k < (splitB 32 s).length) (h : parseB (elt (splitB 32 s) k) < 0) : readB s = none := by
  unfold readB
  rw [if_neg]
  intro hh
  rw [List.all_eq_true] at hh
  have := hh _ (List.mem_map_of_mem (f := parseB) (elt_tail h1 h2))
  simp at this; omega
theorem place_first {w : List UInt8} {k : Nat} (h2 : 2 ≤ k) (h13 : k < 13) (h : ∀ i, 2 ≤ i → i < k → w ≠ elt names i) (he : w = elt names k) : placeB w = some k := by
  unfold placeB
  rw [List.find?_range_eq_some]
  refine ⟨by simp only [Bool.and_eq_true, decide_eq_true_eq]; exact ⟨h2, he.symm⟩, by simpa using h13, fun i hi => ?_⟩
  simp only [Bool.not_eq_true', Bool.and_eq_false_iff, decide_eq_false_iff_not]
  by_cases h' : 2 ≤ i
  · exact .inr fun e => h i h' hi e.symm
  · exact .inl h'
theorem place_none {w : List UInt8} (h : ∀ i, 2 ≤ i → i < 13 → w ≠ elt names i) : placeB w = none := by
  unfold placeB
  rw [List.find?_eq_none]
  intro i hi
  simp only [Bool.and_eq_true, decide_eq_true_eq, not_and]
  exact fun h' e => h i h' (by simpa using hi) e.symm
theorem headD_elt (ws : List (List UInt8)) : ws.headD [] = elt ws 0 := by cases ws <;> rfl
theorem readB_good {s : List UInt8} (h : ∀ x ∈ (splitB 32 s).tail.map parseB, (0 : Int) ≤ x) : readB s = (placeB (elt (splitB 32 s) 0)).bind fun k => readEv k ((splitB 32 s).tail.map parseB) := by
  unfold readB
  simp only
  rw [if_pos, headD_elt]
  rw [List.all_eq_true]
  exact fun x hx => by simpa using h x hx
theorem split_pos (s : List UInt8) : 0 < (splitB 32 s).length := List.length_pos_iff.2 (splitB_ne _ _)
theorem names_len : names.length = 13 := rfl

theorem c_spec_l45Read (s : List UInt8) (hl : s.length ≤ 1048576) :
    Fn Tryd.prog 15 [AV.text s] (AV.tup [((readB s).getD default).av, AV.bool (readB s).isSome]) := by
  refine Fn.intro 52 Tryd.func15 rfl Tryd.ntmps15 rfl (by kernel_rfl) (fun W I a hs => ?_)
  have hsl := splitB_len 32 s
  have hsp := split_pos s
  refine wp_seq ?_
  refine St.region ?_
  refine hs.alloc rfl ty35 zc35 fun b2 I a w hs => ?_
  refine hs.op rfl rfl rfl (ok_assign .c) fun I a w hs => ?_
  refine wpList_nil ?_
  refine then_n ?_
  refine wp_seq ?_
  refine St.region ?_
  refine hs.op rfl rfl rfl (ok_move (.t rfl)) fun I a w hs => ?_
  refine hs.op rfl rfl rfl (ok_call (c_spec_l45Split _ 32 hl) (args_cons (.t rfl) (args_cons .c args_nil))) fun I a w hs => ?_
  refine hs.op rfl rfl rfl (ok_assign (.t rfl)) fun I a w hs => ?_
  refine wpList_nil ?_
  refine then_n ?_
  refine wp_seq ?_
  refine St.region ?_
  refine hs.lit0 rfl un56 ty3 (by decide) fun b12 I a w hs => ?_
  refine hs.op rfl rfl rfl (ok_assign (.t rfl)) fun I a w hs => ?_
  refine wpList_nil ?_
  refine then_n ?_
  refine wp_seq ?_
  refine wp_seq ?_
  refine St.region ?_
  refine hs.op rfl rfl rfl (ok_assign .c) fun I a w hs => ?_
  refine wpList_nil ?_
  refine then_n ?_
  refine wp_block ?_
  refine St.loopS (σ := Nat × Value) (3 :: 5 :: 6 :: 7 :: 13 :: 14 :: 15 :: 16 :: 17 :: 18 :: 19 :: 20 :: 21 :: 22 :: 23 :: 24 :: 25 :: 26 :: 27 :: 28 :: 29 :: 30 :: []) ⟨fun ⟨k, v⟩ => [(6, AV.int k), (5, AV.val v)], fun ⟨k, v⟩ => [Own.box b2 35 zeroEv, Own.row v 3 1 ((numsTo (splitB 32 s) k).map intCell)], fun ⟨k, v⟩ => 1 ≤ k ∧ k ≤ (splitB 32 s).length ∧ ∀ x ∈ numsTo (splitB 32 s) k, (0 : Int) ≤ x⟩ (fun ⟨k, v⟩ => (splitB 32 s).length - k) (1, .slice (some ⟨b12, 0, none⟩) 0 0) hs rfl ?ok1 ?env1 ?round1
  case ok1 => exact ⟨Nat.le_refl _, hsp, fun x hx => by simp [numsTo] at hx⟩
  case env1 => exact (Env.le_consE rfl (by rfl) (Env.le_consE rfl (by rfl) Env.le_nil))
  case round1 =>
    rintro ⟨k, v⟩ I a w hok hs
    obtain ⟨hk1, hk, hall⟩ := hok
    change St _ _ [Own.box b2 35 zeroEv, Own.row v 3 1 ((numsTo (splitB 32 s) k).map intCell)] _ _ _ at hs
    have hnl := numsTo_len (ws := splitB 32 s) (k := k)
    refine wp_seq ?_
    refine wp_seq ?_
    refine St.region ?_
    refine hs.op rfl rfl rfl (ok_move (.t rfl)) fun I a w hs => ?_
    refine hs.op rfl rfl rfl (ok_move (.t rfl)) fun I a w hs => ?_
    refine hs.op rfl rfl rfl ((by first | exact ok_lenM un51 (.t rfl) | exact ok_len un51 (.t rfl) | exact ok_lenV un51 (.t rfl))) fun I a w hs => ?_
    refine hs.op rfl rfl rfl (ok_lss (.t rfl) (.t rfl)) fun I a w hs => ?_
    refine wpList_nil ?_
    refine then_n ?_
    refine hs.cond (.t rfl) (fun hb1 => ?_) (fun hb1 => ?_)
    · try simp only [decide_eq_true_eq, decide_eq_false_iff_not, Bool.not_eq_true', Bool.not_eq_false', Bool.and_eq_true, Bool.or_eq_true, Bool.and_eq_false_iff, Bool.or_eq_false_iff, beq_iff_eq, bne_iff_ne, bne_eq_false_iff_eq, beq_eq_false_iff_ne, ne_eq, Int.not_lt, Int.not_le, Int.ofNat_lt, Int.ofNat_le] at hb1
      refine wp_skip ?_
      refine then_n ?_
      refine wp_seq ?_
      refine wp_block ?_
      refine wp_seq ?_
      refine St.region ?_
      refine hs.op rfl rfl rfl (ok_move (.t rfl)) fun I a w hs => ?_
      refine hs.op rfl rfl rfl (ok_move (.t rfl)) fun I a w hs => ?_
      refine hs.op rfl rfl rfl ((by first | exact ok_idxN un51 ty9 (.t rfl) (.t rfl) (fun _ => by omega) | exact ok_idxM un51 ty9 (.t rfl) (.t rfl) (fun _ => by omega) | exact ok_idx un51 ty9 (.t rfl) (.t rfl) (fun _ => by omega))) fun I a w hs => ?_
      refine hs.op rfl rfl rfl (ok_load1 ty9 (.t rfl)) fun I a w hs => ?_
      refine hs.op rfl rfl rfl (ok_call (c_spec_l45Dec ..) (args_cons (.t rfl) args_nil)) fun I a w hs => ?_
      refine hs.op rfl rfl rfl (ok_assign (.t rfl)) fun I a w hs => ?_
      refine wpList_nil ?_
      refine then_n ?_
      refine wp_seq ?_
      refine wp_seq ?_
      refine St.region ?_
      refine hs.op rfl rfl rfl (ok_move (.t rfl)) fun I a w hs => ?_
      refine hs.op rfl rfl rfl (ok_lss (.t rfl) .c) fun I a w hs => ?_
      refine wpList_nil ?_
      refine then_n ?_
      refine hs.cond (.t rfl) (fun hb2 => ?_) (fun hb2 => ?_)
      · try simp only [decide_eq_true_eq, decide_eq_false_iff_not, Bool.not_eq_true', Bool.not_eq_false', Bool.and_eq_true, Bool.or_eq_true, Bool.and_eq_false_iff, Bool.or_eq_false_iff, beq_iff_eq, bne_iff_ne, bne_eq_false_iff_eq, beq_eq_false_iff_ne, ne_eq, Int.not_lt, Int.not_le, Int.ofNat_lt, Int.ofNat_le] at hb2
        refine wp_seq ?_
        refine St.region ?_
        refine hs.op rfl rfl rfl (ok_build (l0 := [AV.val (.int .i64 0), AV.val (.int .i64 0), AV.val (.int .i64 0), AV.val (.int .i64 0), AV.val (.int .i64 0), AV.val (.int .i64 0), AV.val (.int .i64 0), AV.val (.int .i64 0), AV.val (.int .i64 0), AV.val (.int .i64 0), AV.val (.int .i64 0)]) ty35 fk35 zc35 rfl Parts.nil) fun I a w hs => ?_
        refine hs.storeB 0 ty35 (.t rfl) (.t rfl) rfl (by first | rfl | assumption) rfl fun a w hs => ?_
        refine hs.op rfl rfl rfl (ok_assign .c) fun I a w hs => ?_
        refine wpList_nil ?_
        refine then_n ?_
        refine wp_ret ?_
        refine then_r ?_
        refine block_r ?_
        refine then_r ?_
        refine then_r ?_
        refine block_r ?_
        refine then_r ?_
        refine hs.ret rfl (.cons (.s 0 ty35 rfl rfl (by first | rfl | assumption)) (.cons (.t rfl) ResL.nil)) ?_
        exact ret_tup2 (by rw [readB_bad hk1 hb1 hb2]; rfl) (by rw [readB_bad hk1 hb1 hb2]; rfl)
      · try simp only [decide_eq_true_eq, decide_eq_false_iff_not, Bool.not_eq_true', Bool.not_eq_false', Bool.and_eq_true, Bool.or_eq_true, Bool.and_eq_false_iff, Bool.or_eq_false_iff, beq_iff_eq, bne_iff_ne, bne_eq_false_iff_eq, beq_eq_false_iff_ne, ne_eq, Int.not_lt, Int.not_le, Int.ofNat_lt, Int.ofNat_le] at hb2
        refine wp_skip ?_
        refine then_n ?_
        refine St.region ?_
        refine hs.op rfl rfl rfl (ok_move (.t rfl)) fun I a w hs => ?_
        refine hs.op rfl rfl rfl (ok_move (.t rfl)) fun I a w hs => ?_
        refine hs.op rfl rfl rfl (ok_lit (lxs := [_]) un56 ty3 rfl zo3 rfl rfl (Parts.c rfl rfl (.t rfl) (by first | exact one_val rfl | exact one_rows | exact one_ptr | exact one_fn) Parts.nil) rfl rfl (by simp)) fun I a w hs => ?_
        refine hs.append 1 rfl un56 ty3 rfl (.t rfl) (by first | exact .t rfl | exact .nil (.t rfl)) rfl (by simp; omega) fun v30 a w hs => ?_
        change St _ _ [Own.box b2 35 zeroEv, Own.row v30 3 1 ((numsTo (splitB 32 s) k).map intCell ++ [[AV.int (parseB (elt (splitB 32 s) k))]])] _ _ _ at hs
        rw [snoc_int, ← numsTo_succ hk1 hb1] at hs
        refine hs.op rfl rfl rfl (ok_assign (.t rfl)) fun I a w hs => ?_
        refine wpList_nil ?_
        refine block_n ?_
        refine then_n ?_
        refine St.region ?_
        refine hs.op rfl rfl rfl (ok_move (.t rfl)) fun I a w hs => ?_
        refine hs.op rfl rfl rfl (ok_add (.t rfl) .c (fun _ => by omega)) fun I a w hs => ?_
        refine hs.op rfl rfl rfl (ok_assign (.t rfl)) fun I a w hs => ?_
        refine wpList_nil ?_
        refine then_n ?_
        refine hs.again (k + 1, v30) ?mu1 ?ok1001 (by rfl) ?env1001 (by repeat (first | exact Env.le_rfl | refine Env.le_push rfl ?_))
        case mu1 => simp; omega
        case ok1001 => exact ⟨by omega, hb1, fun x hx => by rw [numsTo_succ hk1 hb1] at hx; rcases List.mem_append.1 hx with h | h; exact hall x h; simp at h; rw [h]; exact hb2⟩
        case env1001 => exact (Env.le_consE rfl (by first | rfl | (congr 1; done)) (Env.le_consE rfl (by first | rfl | (congr 1; done)) Env.le_nil))
    · try simp only [decide_eq_true_eq, decide_eq_false_iff_not, Bool.not_eq_true', Bool.not_eq_false', Bool.and_eq_true, Bool.or_eq_true, Bool.and_eq_false_iff, Bool.or_eq_false_iff, beq_iff_eq, bne_iff_ne, bne_eq_false_iff_eq, beq_eq_false_iff_ne, ne_eq, Int.not_lt, Int.not_le, Int.ofNat_lt, Int.ofNat_le] at hb1
      refine wp_exit ?_
      refine then_x ?_
      refine then_x ?_
      refine block_hit ?_
      refine then_n ?_
      refine wp_seq ?_
      refine St.region ?_
      refine hs.op rfl rfl rfl (ok_call (c_spec_l45Names ..) args_nil) fun I a w hs => ?_
      refine hs.op rfl rfl rfl (ok_assign (.t rfl)) fun I a w hs => ?_
      rw [numsTo_all (by omega)] at hs hall
      obtain ⟨I, hs, hf⟩ := hs.freezeRow 1 rfl
      have hs := hs.upd (t := 5) rfl hf
      refine wpList_nil ?_
      refine then_n ?_
      refine wp_seq ?_
      refine wp_seq ?_
      refine St.region ?_
      refine hs.op rfl rfl rfl (ok_assign .c) fun I a w hs => ?_
      refine wpList_nil ?_
      refine then_n ?_
      refine wp_block ?_
      refine St.loopS (σ := Nat) (3 :: 9 :: 32 :: 33 :: 34 :: 35 :: 36 :: 37 :: 38 :: 39 :: 40 :: 41 :: 42 :: 43 :: 44 :: 45 :: 46 :: 47 :: 48 :: 49 :: 50 :: []) ⟨fun k => [(9, AV.int k)], fun k => [Own.box b2 35 zeroEv, Own.gone], fun k => 2 ≤ k ∧ k ≤ 13 ∧ ∀ i, 2 ≤ i → i < k → elt (splitB 32 s) 0 ≠ elt names i⟩ (fun k => 13 - k) 2 hs rfl ?ok2 ?env2 ?round2
      case ok2 => exact ⟨by omega, by omega, fun i h1 h2 => by omega⟩
      case env2 => exact (Env.le_consE rfl (by rfl) Env.le_nil)
      case round2 =>
        rintro k I a w hok hs
        obtain ⟨hk, hk13, hne⟩ := hok
        refine wp_seq ?_
        refine wp_seq ?_
        refine St.region ?_
        refine hs.op rfl rfl rfl (ok_move (.t rfl)) fun I a w hs => ?_
        refine hs.op rfl rfl rfl (ok_move (.t rfl)) fun I a w hs => ?_
        refine hs.op rfl rfl rfl ((by first | exact ok_lenM un51 (.t rfl) | exact ok_len un51 (.t rfl) | exact ok_lenV un51 (.t rfl))) fun I a w hs => ?_
        refine hs.op rfl rfl rfl (ok_lss (.t rfl) (.t rfl)) fun I a w hs => ?_
        refine wpList_nil ?_
        refine then_n ?_
        refine hs.cond (.t rfl) (fun hb3 => ?_) (fun hb3 => ?_)
        · try simp only [decide_eq_true_eq, decide_eq_false_iff_not, Bool.not_eq_true', Bool.not_eq_false', Bool.and_eq_true, Bool.or_eq_true, Bool.and_eq_false_iff, Bool.or_eq_false_iff, beq_iff_eq, bne_iff_ne, bne_eq_false_iff_eq, beq_eq_false_iff_ne, ne_eq, Int.not_lt, Int.not_le, Int.ofNat_lt, Int.ofNat_le] at hb3
          refine wp_skip ?_
          refine then_n ?_
          refine wp_seq ?_
          refine wp_block ?_
          refine wp_seq ?_
          refine hs.drawK (by kernel_rfl) (by kernel_rfl) rfl ?_
          refine RunK.cons (.of rfl (ok_move (.t rfl))) ?_
          refine RunK.cons (.of rfl ((by first | exact ok_idxN un51 ty9 (.t rfl) .c (fun _ => by omega) | exact ok_idxM un51 ty9 (.t rfl) .c (fun _ => by omega) | exact ok_idx un51 ty9 (.t rfl) .c (fun _ => by omega)))) ?_
          refine RunK.cons (.of rfl (ok_load1 ty9 (.t rfl))) ?_
          refine RunK.cons (.of rfl (ok_move (.t rfl))) ?_
          refine RunK.cons (.of rfl (ok_move (.t rfl))) ?_
          refine RunK.cons (.of rfl ((by first | exact ok_idxN un51 ty9 (.t rfl) (.t rfl) (fun _ => by omega) | exact ok_idxM un51 ty9 (.t rfl) (.t rfl) (fun _ => by omega) | exact ok_idx un51 ty9 (.t rfl) (.t rfl) (fun _ => by omega)))) ?_
          refine RunK.cons (.of rfl (ok_load1 ty9 (.t rfl))) ?_
          refine RunK.cons (.of rfl (ok_eqT (.t rfl) (.t rfl))) ?_
          refine RunK.nil ?_
          intro I a w hs
          refine then_n ?_
          refine hs.cond (.t rfl) (fun hb4 => ?_) (fun hb4 => ?_)
          · try simp only [decide_eq_true_eq, decide_eq_false_iff_not, Bool.not_eq_true', Bool.not_eq_false', Bool.and_eq_true, Bool.or_eq_true, Bool.and_eq_false_iff, Bool.or_eq_false_iff, beq_iff_eq, bne_iff_ne, bne_eq_false_iff_eq, beq_eq_false_iff_ne, ne_eq, Int.not_lt, Int.not_le, Int.ofNat_lt, Int.ofNat_le] at hb4
            refine wp_seq ?_
            refine St.region ?_
            refine hs.op rfl rfl rfl (ok_move (.t rfl)) fun I a w hs => ?_
            refine hs.op rfl rfl rfl (ok_move (.t rfl)) fun I a w hs => ?_
            refine hs.op rfl rfl rfl (ok_call (c_spec_l45Event k hk hb3 _) (args_cons (.t rfl) (args_cons (by first | exact .t rfl | exact .nil (.t rfl)) args_nil))) fun I a w hs => ?_
            refine hs.op rfl rfl rfl (ok_extract (.t rfl) rfl) fun I a w hs => ?_
            refine hs.op rfl rfl rfl (ok_extract (.t rfl) rfl) fun I a w hs => ?_
            refine hs.storeB 0 ty35 (.t rfl) (.t rfl) rfl (by first | rfl | assumption) rfl fun a w hs => ?_
            refine hs.op rfl rfl rfl (ok_assign (.t rfl)) fun I a w hs => ?_
            refine wpList_nil ?_
            refine then_n ?_
            refine wp_ret ?_
            refine block_r ?_
            refine then_r ?_
            refine then_r ?_
            refine block_r ?_
            refine then_r ?_
            refine hs.ret rfl (.cons (.s 0 ty35 rfl rfl (by first | rfl | assumption)) (.cons (.t rfl) ResL.nil)) ?_
            have er := readB_good hall
            rw [place_first hk (by rw [names_len] at hb3; omega) hne hb4] at er
            exact ret_tup2 (by rw [er]; rfl) (by rw [er]; rfl)
          · try simp only [decide_eq_true_eq, decide_eq_false_iff_not, Bool.not_eq_true', Bool.not_eq_false', Bool.and_eq_true, Bool.or_eq_true, Bool.and_eq_false_iff, Bool.or_eq_false_iff, beq_iff_eq, bne_iff_ne, bne_eq_false_iff_eq, beq_eq_false_iff_ne, ne_eq, Int.not_lt, Int.not_le, Int.ofNat_lt, Int.ofNat_le] at hb4
            refine wp_skip ?_
            refine block_n ?_
            refine then_n ?_
            refine St.region ?_
            refine hs.op rfl rfl rfl (ok_move (.t rfl)) fun I a w hs => ?_
            refine hs.op rfl rfl rfl (ok_add (.t rfl) .c (fun _ => by omega)) fun I a w hs => ?_
            refine hs.op rfl rfl rfl (ok_assign (.t rfl)) fun I a w hs => ?_
            refine wpList_nil ?_
            refine then_n ?_
            refine hs.again (k + 1) ?mu2 ?ok1002 (by rfl) ?env1002 (by repeat (first | exact Env.le_rfl | refine Env.le_push rfl ?_))
            case mu2 => rw [names_len] at hb3; omega
            case ok1002 => exact ⟨by omega, by rw [names_len] at hb3; omega, fun i h1 h2 => by rcases Nat.lt_succ_iff_lt_or_eq.1 h2 with h | h; exact hne i h1 h; rw [h]; exact hb4⟩
            case env1002 => exact (Env.le_consE rfl (by first | rfl | (congr 1; done)) Env.le_nil)
        · try simp only [decide_eq_true_eq, decide_eq_false_iff_not, Bool.not_eq_true', Bool.not_eq_false', Bool.and_eq_true, Bool.or_eq_true, Bool.and_eq_false_iff, Bool.or_eq_false_iff, beq_iff_eq, bne_iff_ne, bne_eq_false_iff_eq, beq_eq_false_iff_ne, ne_eq, Int.not_lt, Int.not_le, Int.ofNat_lt, Int.ofNat_le] at hb3
          refine wp_exit ?_
          refine then_x ?_
          refine then_x ?_
          refine block_hit ?_
          refine then_n ?_
          refine wp_seq ?_
          refine St.region ?_
          refine hs.op rfl rfl rfl (ok_build (l0 := [AV.val (.int .i64 0), AV.val (.int .i64 0), AV.val (.int .i64 0), AV.val (.int .i64 0), AV.val (.int .i64 0), AV.val (.int .i64 0), AV.val (.int .i64 0), AV.val (.int .i64 0), AV.val (.int .i64 0), AV.val (.int .i64 0), AV.val (.int .i64 0)]) ty35 fk35 zc35 rfl Parts.nil) fun I a w hs => ?_
          refine hs.storeB 0 ty35 (.t rfl) (.t rfl) rfl (by first | rfl | assumption) rfl fun a w hs => ?_
          refine hs.op rfl rfl rfl (ok_assign .c) fun I a w hs => ?_
          refine wpList_nil ?_
          refine then_n ?_
          refine wp_ret ?_
          refine hs.ret rfl (.cons (.s 0 ty35 rfl rfl (by first | rfl | assumption)) (.cons (.t rfl) ResL.nil)) ?_
          have er := readB_good hall
          rw [place_none (fun i h1 h2 => hne i h1 (by rw [names_len] at hb3; omega))] at er
          exact ret_tup2 (by rw [er]; rfl) (by rw [er]; rfl)


def Ev.Fit (e : Ev) : Prop := ∀ x ∈ e.ints, i64r x
theorem lineB_eq {e : Ev} {k : Nat} {ns : List Int} (h : evK e = some (k, ns)) : lineB e = elt names k ++ fieldsB ns := by unfold lineB; rw [h]; rfl
theorem fields_len : ∀ {ns : List Int}, (∀ n ∈ ns, i64r n) → (fieldsB ns).length ≤ 22 * ns.length
  | [], _ => by simp [fieldsB]
  | n :: ns, h => by
    have := fields_len (ns := ns) fun m hm => h m (by simp [hm])
    have h1 := dec_len (h n (by simp))
    simp [fieldsB] at this ⊢; omega
theorem names_le (k : Nat) : (elt names k).length ≤ 7 := by
  by_cases h : k < 13
  · have : ∀ k : Fin 13, (elt names k.val).length ≤ 7 := by decide
    exact this ⟨k, h⟩
  · have : elt names k = [] := by
      unfold elt; rw [List.getD_eq_getElem?_getD, List.getElem?_eq_none (by rw [names_len]; omega)]; rfl
    rw [this]; simp
theorem lineB_len {e : Ev} (h : e.Fit) : (lineB e).length ≤ 95 := by
  unfold lineB
  cases hk : evK e with
  | none => simp
  | some p =>
    obtain ⟨k, ns⟩ := p
    have h4 : ns.length ≤ 4 ∧ ∀ n ∈ ns, i64r n := by
      unfold evK at hk
      have hh : ∀ x, x ∈ e.ints → i64r x := h
      simp only [Ev.ints, List.mem_cons, List.not_mem_nil, or_false] at hh
      (repeat' split at hk) <;> simp at hk <;> obtain ⟨_, rfl⟩ := hk <;> refine ⟨by simp, fun n hn => hh n ?_⟩ <;> simp only [List.mem_cons, List.not_mem_nil, or_false] at hn <;> (rcases hn with h | h | h | h <;> simp [h]) 
    have := fields_len h4.2
    have h7 := names_le k
    simp only [lineOf, List.length_append]
    have e7 : (names.getD k []).length ≤ 7 := h7
    omega

end Go.Proofs.YtblcocjbnjfhkaaDoor
