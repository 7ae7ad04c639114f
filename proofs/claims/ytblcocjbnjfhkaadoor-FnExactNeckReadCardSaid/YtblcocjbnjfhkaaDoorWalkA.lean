/- Walks: a text read. -/
import Derived.Test.YtblcocjbnjfhkaaDoorLibA
set_option linter.unusedVariables false
set_option linter.unusedSimpArgs false
set_option maxRecDepth 100000
namespace Go.Proofs.YtblcocjbnjfhkaaDoor
open Go Go.RowKit


def readGo (out : List Ev) (k : Nat) : List (List UInt8) → List Ev × Int
  | [] => (out, 0)
  | ln :: r => if ln = [] then readGo out (k + 1) r else if (readB ln).isSome = true then readGo (out ++ [(readB ln).getD default]) (k + 1) r else ([], (k : Int) + 1)
def readAll (s : List UInt8) : List Ev × Int := if 60000 < s.length then ([], -1) else readGo [] 0 (splitB 10 s)
theorem splitB_elt (c : UInt8) : ∀ (s : List UInt8), ∀ p ∈ splitB c s, p.length ≤ s.length
  | [], p, h => by simp [splitB] at h; subst h; simp
  | x :: r, p, h => by
    have ih := splitB_elt c r
    unfold splitB at h
    split at h
    · rcases List.mem_cons.1 h with rfl | h
      · simp
      · have := ih p h; simp; omega
    · split at h
      · simp at h; subst h; simp
      · rename_i y t hy
        rw [hy] at ih
        rcases List.mem_cons.1 h with rfl | h
        · have := ih y (by simp); simp; omega
        · have := ih p (by simp [h]); simp; omega
theorem elt_memT {l : List (List UInt8)} {k : Nat} (h : k < l.length) : elt l k ∈ l := by
  unfold elt; rw [List.getD_eq_getElem?_getD, List.getElem?_eq_getElem h]; exact List.getElem_mem _
theorem snoc_ev (out : List Ev) (e : Ev) : out.map Ev.cells ++ [e.cells] = (out ++ [e]).map Ev.cells := by simp

theorem c_spec_NeckRead (s : List UInt8) (hl : s.length ≤ 1048576) :
    Fn Tryd.prog 10 [AV.text s] (AV.tup [evsAV (readAll s).1, AV.int (readAll s).2]) := by
  refine Fn.intro 47 Tryd.func10 rfl Tryd.ntmps10 rfl (by kernel_rfl) (fun W I a hs => ?_)
  have hsl := splitB_len 10 s
  refine wp_seq ?_
  refine St.region ?_
  refine hs.op rfl rfl rfl (ok_assign .c) fun I a w hs => ?_
  refine hs.op rfl rfl rfl (ok_assign .c) fun I a w hs => ?_
  refine wpList_nil ?_
  refine then_n ?_
  refine wp_seq ?_
  refine St.region ?_
  refine hs.lit0 rfl un25 ty35 (by decide) fun b10 I a w hs => ?_
  refine hs.op rfl rfl rfl (ok_assign (.t rfl)) fun I a w hs => ?_
  refine wpList_nil ?_
  refine then_n ?_
  refine wp_seq ?_
  refine wp_seq ?_
  refine St.region ?_
  refine hs.op rfl rfl rfl (ok_move (.t rfl)) fun I a w hs => ?_
  refine hs.op rfl rfl rfl (ok_lenT un9 (.t rfl)) fun I a w hs => ?_
  refine hs.op rfl rfl rfl (ok_gtr (.t rfl) .c) fun I a w hs => ?_
  refine wpList_nil ?_
  refine then_n ?_
  refine hs.cond (.t rfl) (fun hb1 => ?_) (fun hb1 => ?_)
  · try simp only [decide_eq_true_eq, decide_eq_false_iff_not, Bool.not_eq_true', Bool.not_eq_false', Bool.and_eq_true, Bool.or_eq_true, Bool.and_eq_false_iff, Bool.or_eq_false_iff, beq_iff_eq, bne_iff_ne, bne_eq_false_iff_eq, beq_eq_false_iff_ne, ne_eq, Int.not_lt, Int.not_le, Int.ofNat_lt, Int.ofNat_le] at hb1
    refine wp_seq ?_
    refine St.region ?_
    refine hs.op rfl rfl rfl (ok_move (.t rfl)) fun I a w hs => ?_
    refine hs.op rfl rfl rfl (ok_assign (.t rfl)) fun I a w hs => ?_
    refine hs.op rfl rfl rfl (ok_assign .c) fun I a w hs => ?_
    refine wpList_nil ?_
    refine then_n ?_
    refine wp_ret ?_
    refine then_r ?_
    obtain ⟨I, hs, hf⟩ := hs.freezeRow 0 rfl
    have hs := hs.upd (t := 2) rfl hf
    refine hs.ret rfl (.cons (by first | exact .t rfl | exact .nil rfl) (.cons (.t rfl) ResL.nil)) ?_
    exact (by unfold readAll; rw [if_pos (by omega)]; rfl)
  · try simp only [decide_eq_true_eq, decide_eq_false_iff_not, Bool.not_eq_true', Bool.not_eq_false', Bool.and_eq_true, Bool.or_eq_true, Bool.and_eq_false_iff, Bool.or_eq_false_iff, beq_iff_eq, bne_iff_ne, bne_eq_false_iff_eq, beq_eq_false_iff_ne, ne_eq, Int.not_lt, Int.not_le, Int.ofNat_lt, Int.ofNat_le] at hb1
    refine wp_skip ?_
    refine then_n ?_
    refine wp_seq ?_
    refine St.region ?_
    refine hs.lit0 rfl un25 ty35 (by decide) fun b15 I a w hs => ?_
    refine hs.op rfl rfl rfl (ok_assign (.t rfl)) fun I a w hs => ?_
    refine wpList_nil ?_
    refine then_n ?_
    refine wp_seq ?_
    refine St.region ?_
    refine hs.op rfl rfl rfl (ok_move (.t rfl)) fun I a w hs => ?_
    refine hs.op rfl rfl rfl (ok_call (c_spec_l45Split _ 10 hl) (args_cons (.t rfl) (args_cons .c args_nil))) fun I a w hs => ?_
    refine hs.op rfl rfl rfl (ok_assign (.t rfl)) fun I a w hs => ?_
    refine wpList_nil ?_
    refine then_n ?_
    refine wp_seq ?_
    refine wp_seq ?_
    refine St.region ?_
    refine hs.op rfl rfl rfl (ok_assign .c) fun I a w hs => ?_
    refine wpList_nil ?_
    refine then_n ?_
    refine wp_block ?_
    refine St.loopS (σ := Nat × List Ev × Value) (2 :: 3 :: 5 :: 7 :: 8 :: 9 :: 18 :: 19 :: 20 :: 21 :: 22 :: 23 :: 24 :: 25 :: 26 :: 27 :: 28 :: 29 :: 30 :: 31 :: 32 :: 33 :: 34 :: 35 :: 36 :: 37 :: 38 :: 39 :: 40 :: 41 :: 42 :: 43 :: 44 :: 45 :: []) ⟨fun ⟨k, out, v⟩ => [(7, AV.int k), (5, AV.val v)], fun ⟨k, out, v⟩ => [Own.row (.slice (some ⟨b10, 0, none⟩) 0 0) 35 11 [], Own.row v 35 11 (out.map Ev.cells)], fun ⟨k, out, v⟩ => k ≤ (splitB 10 s).length ∧ readAll s = readGo out k ((splitB 10 s).drop k) ∧ out.length ≤ k⟩ (fun ⟨k, out, v⟩ => (splitB 10 s).length - k) (0, [], .slice (some ⟨b15, 0, none⟩) 0 0) hs rfl ?ok1 ?env1 ?round1
    case ok1 => exact ⟨by simp, by unfold readAll; rw [if_neg (by omega)]; rfl, by simp⟩
    case env1 => exact (Env.le_consE rfl (by rfl) (Env.le_consE rfl (by rfl) Env.le_nil))
    case round1 =>
      rintro ⟨k, out, v⟩ I a w hok hs
      obtain ⟨hk, he, hol⟩ := hok
      change St _ _ [Own.row (.slice (some ⟨b10, 0, none⟩) 0 0) 35 11 [], Own.row v 35 11 (out.map Ev.cells)] _ _ _ at hs
      refine wp_seq ?_
      refine wp_seq ?_
      refine St.region ?_
      refine hs.op rfl rfl rfl (ok_move (.t rfl)) fun I a w hs => ?_
      refine hs.op rfl rfl rfl (ok_move (.t rfl)) fun I a w hs => ?_
      refine hs.op rfl rfl rfl ((by first | exact ok_lenM un51 (.t rfl) | exact ok_len un51 (.t rfl) | exact ok_lenV un51 (.t rfl))) fun I a w hs => ?_
      refine hs.op rfl rfl rfl (ok_lss (.t rfl) (.t rfl)) fun I a w hs => ?_
      refine wpList_nil ?_
      refine then_n ?_
      refine hs.cond (.t rfl) (fun hb2 => ?_) (fun hb2 => ?_)
      · try simp only [decide_eq_true_eq, decide_eq_false_iff_not, Bool.not_eq_true', Bool.not_eq_false', Bool.and_eq_true, Bool.or_eq_true, Bool.and_eq_false_iff, Bool.or_eq_false_iff, beq_iff_eq, bne_iff_ne, bne_eq_false_iff_eq, beq_eq_false_iff_ne, ne_eq, Int.not_lt, Int.not_le, Int.ofNat_lt, Int.ofNat_le] at hb2
        refine wp_skip ?_
        refine then_n ?_
        refine wp_seq ?_
        refine wp_block ?_
        refine wp_seq ?_
        refine wp_seq ?_
        refine St.region ?_
        refine hs.op rfl rfl rfl (ok_move (.t rfl)) fun I a w hs => ?_
        refine hs.op rfl rfl rfl (ok_move (.t rfl)) fun I a w hs => ?_
        refine hs.op rfl rfl rfl ((by first | exact ok_idxN un51 ty9 (.t rfl) (.t rfl) (fun _ => by exact hb2) | exact ok_idxM un51 ty9 (.t rfl) (.t rfl) (fun _ => by exact hb2) | exact ok_idx un51 ty9 (.t rfl) (.t rfl) (fun _ => by exact hb2))) fun I a w hs => ?_
        refine hs.op rfl rfl rfl (ok_load1 ty9 (.t rfl)) fun I a w hs => ?_
        refine hs.op rfl rfl rfl (ok_eqT (.t rfl) .c) fun I a w hs => ?_
        refine wpList_nil ?_
        refine then_n ?_
        refine hs.cond (.t rfl) (fun hb3 => ?_) (fun hb3 => ?_)
        · try simp only [decide_eq_true_eq, decide_eq_false_iff_not, Bool.not_eq_true', Bool.not_eq_false', Bool.and_eq_true, Bool.or_eq_true, Bool.and_eq_false_iff, Bool.or_eq_false_iff, beq_iff_eq, bne_iff_ne, bne_eq_false_iff_eq, beq_eq_false_iff_ne, ne_eq, Int.not_lt, Int.not_le, Int.ofNat_lt, Int.ofNat_le] at hb3
          refine wp_exit ?_
          refine then_x ?_
          refine block_hit ?_
          refine then_n ?_
          refine St.region ?_
          refine hs.op rfl rfl rfl (ok_move (.t rfl)) fun I a w hs => ?_
          refine hs.op rfl rfl rfl (ok_add (.t rfl) .c (fun _ => by omega)) fun I a w hs => ?_
          refine hs.op rfl rfl rfl (ok_assign (.t rfl)) fun I a w hs => ?_
          refine wpList_nil ?_
          refine then_n ?_
          refine hs.again (k + 1, out, v) ?mu1 ?ok1001 (by rfl) ?env1001 (by repeat (first | exact Env.le_rfl | refine Env.le_push rfl ?_))
          case mu1 => simp; omega
          case ok1001 => first | exact ⟨hb2, by rw [he, drop_elt hb2, readGo, if_pos hb3], by omega⟩ | exact ⟨hb2, by rw [he, drop_elt hb2, readGo, if_neg hb3, if_pos hb4], by simp; omega⟩
          case env1001 => exact (Env.le_consE rfl (by first | rfl | (congr 1; done)) (Env.le_consE rfl (by first | rfl | (congr 1; done)) Env.le_nil))
        · try simp only [decide_eq_true_eq, decide_eq_false_iff_not, Bool.not_eq_true', Bool.not_eq_false', Bool.and_eq_true, Bool.or_eq_true, Bool.and_eq_false_iff, Bool.or_eq_false_iff, beq_iff_eq, bne_iff_ne, bne_eq_false_iff_eq, beq_eq_false_iff_ne, ne_eq, Int.not_lt, Int.not_le, Int.ofNat_lt, Int.ofNat_le] at hb3
          refine wp_skip ?_
          refine then_n ?_
          refine wp_seq ?_
          refine St.region ?_
          refine hs.op rfl rfl rfl (ok_move (.t rfl)) fun I a w hs => ?_
          refine hs.op rfl rfl rfl (ok_move (.t rfl)) fun I a w hs => ?_
          refine hs.op rfl rfl rfl ((by first | exact ok_idxN un51 ty9 (.t rfl) (.t rfl) (fun _ => by exact hb2) | exact ok_idxM un51 ty9 (.t rfl) (.t rfl) (fun _ => by exact hb2) | exact ok_idx un51 ty9 (.t rfl) (.t rfl) (fun _ => by exact hb2))) fun I a w hs => ?_
          refine hs.op rfl rfl rfl (ok_load1 ty9 (.t rfl)) fun I a w hs => ?_
          refine hs.op rfl rfl rfl (ok_call (c_spec_l45Read _ (by have := splitB_elt 10 s _ (elt_memT hb2); omega)) (args_cons (.t rfl) args_nil)) fun I a w hs => ?_
          refine hs.op rfl rfl rfl (ok_move (.t rfl)) fun I a w hs => ?_
          refine hs.op rfl rfl rfl (ok_extract (.t rfl) rfl) fun I a w hs => ?_
          refine hs.op rfl rfl rfl (ok_extract (.t rfl) rfl) fun I a w hs => ?_
          refine hs.alloc rfl ty35 zc35 fun b8 I a w hs => ?_
          refine hs.storeB 2 ty35 (.t rfl) (.t rfl) rfl (by first | rfl | assumption) rfl fun a w hs => ?_
          obtain ⟨I, hs, hf⟩ := hs.freezeBox 2 rfl
          have hs := hs.upd (t := 8) rfl hf; clear hf
          refine hs.op rfl rfl rfl (ok_assign (.t rfl)) fun I a w hs => ?_
          refine wpList_nil ?_
          refine then_n ?_
          refine wp_seq ?_
          refine wp_seq ?_
          refine St.region ?_
          refine hs.op rfl rfl rfl (ok_move (.t rfl)) fun I a w hs => ?_
          refine hs.op rfl rfl rfl (ok_not (.t rfl)) fun I a w hs => ?_
          refine wpList_nil ?_
          refine then_n ?_
          refine hs.cond (.t rfl) (fun hb4 => ?_) (fun hb4 => ?_)
          · rw [Bool.not_eq_true'] at hb4
            refine wp_seq ?_
            refine St.region ?_
            refine hs.op rfl rfl rfl (ok_move (.t rfl)) fun I a w hs => ?_
            refine hs.op rfl rfl rfl (ok_move (.t rfl)) fun I a w hs => ?_
            refine hs.op rfl rfl rfl (ok_add (.t rfl) .c (fun _ => by omega)) fun I a w hs => ?_
            refine hs.op rfl rfl rfl (ok_assign (.t rfl)) fun I a w hs => ?_
            refine hs.op rfl rfl rfl (ok_assign (.t rfl)) fun I a w hs => ?_
            refine wpList_nil ?_
            refine then_n ?_
            refine wp_ret ?_
            refine then_r ?_
            refine block_r ?_
            refine then_r ?_
            refine then_r ?_
            refine block_r ?_
            refine then_r ?_
            obtain ⟨I, hs, hf⟩ := hs.freezeRow 0 rfl
            have hs := hs.upd (t := 2) rfl hf
            refine hs.ret rfl (.cons (by first | exact .t rfl | exact .nil rfl) (.cons (.t rfl) ResL.nil)) ?_
            have e9 : readAll s = ([], (k : Int) + 1) := by rw [he, drop_elt hb2, readGo, if_neg hb3, if_neg (by rw [hb4]; simp)]
            exact (by rw [e9]; rfl)
          · rw [Bool.not_eq_false'] at hb4
            refine wp_skip ?_
            refine then_n ?_
            refine St.region ?_
            refine hs.op rfl rfl rfl (ok_move (.t rfl)) fun I a w hs => ?_
            refine hs.op rfl rfl rfl ((by first | exact ok_loadA ty35 (.t rfl) rfl | exact ok_loadS ty35 (.t rfl) rfl)) fun I a w hs => ?_
            refine hs.op rfl rfl rfl (ok_litAll (lxs := [_]) un25 ty35 rfl zo35 rfl rfl (Parts.s rfl rfl rfl (.t rfl) Parts.nil) rfl (by simp only [List.forall_mem_cons]; exact ⟨rfl, fun _ h => by simp at h⟩)) fun I a w hs => ?_
            refine hs.append 1 rfl un25 ty35 rfl (.t rfl) (by first | exact .t rfl | exact .nil (.t rfl)) rfl (by simp; omega) fun v45 a w hs => ?_
            change St _ _ [Own.row (.slice (some ⟨b10, 0, none⟩) 0 0) 35 11 [], Own.row v45 35 11 (out.map Ev.cells ++ [((readB (elt (splitB 10 s) k)).getD default).cells]), Own.gone] _ _ _ at hs
            rw [snoc_ev] at hs
            refine hs.op rfl rfl rfl (ok_assign (.t rfl)) fun I a w hs => ?_
            refine wpList_nil ?_
            refine block_n ?_
            refine then_n ?_
            refine St.region ?_
            refine hs.op rfl rfl rfl (ok_move (.t rfl)) fun I a w hs => ?_
            refine hs.op rfl rfl rfl (ok_add (.t rfl) .c (fun _ => by omega)) fun I a w hs => ?_
            refine hs.op rfl rfl rfl (ok_assign (.t rfl)) fun I a w hs => ?_
            refine wpList_nil ?_
            refine then_n ?_
            have hs := hs.drop 2
            refine hs.again (k + 1, out ++ [(readB (elt (splitB 10 s) k)).getD default], v45) ?mu2 ?ok1002 (by rfl) ?env1002 (by repeat (first | exact Env.le_rfl | refine Env.le_push rfl ?_))
            case mu2 => simp; omega
            case ok1002 => first | exact ⟨hb2, by rw [he, drop_elt hb2, readGo, if_pos hb3], by omega⟩ | exact ⟨hb2, by rw [he, drop_elt hb2, readGo, if_neg hb3, if_pos hb4], by simp; omega⟩
            case env1002 => exact (Env.le_consE rfl (by first | rfl | (congr 1; done)) (Env.le_consE rfl (by first | rfl | (congr 1; done)) Env.le_nil))
      · try simp only [decide_eq_true_eq, decide_eq_false_iff_not, Bool.not_eq_true', Bool.not_eq_false', Bool.and_eq_true, Bool.or_eq_true, Bool.and_eq_false_iff, Bool.or_eq_false_iff, beq_iff_eq, bne_iff_ne, bne_eq_false_iff_eq, beq_eq_false_iff_ne, ne_eq, Int.not_lt, Int.not_le, Int.ofNat_lt, Int.ofNat_le] at hb2
        refine wp_exit ?_
        refine then_x ?_
        refine then_x ?_
        refine block_hit ?_
        refine then_n ?_
        refine wp_seq ?_
        refine St.region ?_
        refine hs.op rfl rfl rfl (ok_move (.t rfl)) fun I a w hs => ?_
        refine hs.op rfl rfl rfl (ok_assign (.t rfl)) fun I a w hs => ?_
        refine hs.op rfl rfl rfl (ok_assign .c) fun I a w hs => ?_
        refine wpList_nil ?_
        refine then_n ?_
        refine wp_ret ?_
        obtain ⟨I, hs, hf⟩ := hs.freezeRow 1 rfl
        have hs := hs.upd (t := 2) rfl hf
        refine hs.ret rfl (.cons (by first | exact .t rfl | exact .nil rfl) (.cons (.t rfl) ResL.nil)) ?_
        have e9 : readAll s = (out, 0) := by rw [he, List.drop_eq_nil_of_le (by omega)]; rfl
        exact (by rw [e9]; rfl)

end Go.Proofs.YtblcocjbnjfhkaaDoor
