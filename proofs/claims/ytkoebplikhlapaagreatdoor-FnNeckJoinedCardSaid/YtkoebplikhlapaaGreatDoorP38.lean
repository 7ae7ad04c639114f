/- Part 38: rules of the proofs, contracts of functions, plain facts. -/
import Derived.Test.YtkoebplikhlapaaGreatDoorP37
set_option linter.unusedVariables false
set_option linter.unusedSimpArgs false
set_option maxRecDepth 100000
namespace Go.Proofs.YtkoebplikhlapaaGreatDoor
open Go Go.RowKit
theorem splitB_len (c : UInt8) : ∀ s : List UInt8, (splitB c s).length ≤ s.length + 1
  | [] => by simp [splitB]
  | x :: r => by
    have ih := splitB_len c r
    unfold splitB
    split
    · simp; omega
    · split
      · simp
      · rename_i h; rw [h] at ih; simp at ih ⊢; omega
theorem snoc_text (out : List (List UInt8)) (p : List UInt8) : out.map textCell ++ [[AV.text p]] = (out ++ [p]).map textCell := by simp [textCell]
theorem piece_ne {s : List UInt8} {ch : UInt8} {frm k : Nat} (h : ∀ i, frm ≤ i → i < k → s.getD i 0 ≠ ch) : ∀ x ∈ (s.drop frm).take (k - frm), x ≠ ch := by
  intro x hx
  obtain ⟨i, hi, rfl⟩ := List.getElem_of_mem hx
  simp only [List.length_take, List.length_drop] at hi
  have := h (frm + i) (by omega) (by omega)
  rw [List.getD_eq_getElem?_getD, List.getElem?_eq_getElem (by omega)] at this
  simpa using this
theorem split_at {s : List UInt8} {ch : UInt8} {frm k : Nat} (h1 : frm ≤ k) (h2 : k < s.length) (h : ∀ i, frm ≤ i → i < k → s.getD i 0 ≠ ch) (he : s.getD k 0 = ch) : splitB ch (s.drop frm) = (s.drop frm).take (k - frm) :: splitB ch (s.drop (k + 1)) := by
  have e : s.drop frm = (s.drop frm).take (k - frm) ++ ch :: s.drop (k + 1) := by
    conv => lhs; rw [← List.take_append_drop (k - frm) (s.drop frm), List.drop_drop, show frm + (k - frm) = k from by omega, List.drop_eq_getElem_cons h2]
    rw [List.getD_eq_getElem?_getD, List.getElem?_eq_getElem h2] at he
    simp at he; rw [he]
  conv => lhs; rw [e]
  exact splitB_cut (piece_ne h)
theorem split_last {s : List UInt8} {ch : UInt8} {frm k : Nat} (h2 : s.length ≤ k) (h : ∀ i, frm ≤ i → i < k → s.getD i 0 ≠ ch) : splitB ch (s.drop frm) = [s.drop frm] := by
  have := piece_ne h
  rw [List.take_of_length_le (by simp; omega)] at this
  exact splitB_end this
theorem byte_eq (x y : UInt8) : ((x.toNat : Int) == (y.toNat : Int)) = decide (x = y) := by
  rw [Bool.eq_iff_iff, beq_iff_eq, decide_eq_true_eq]
  exact ⟨fun h => UInt8.toNat_inj.1 (by omega), fun h => by rw [h]⟩
theorem c_spec_l45SplitO (s : List UInt8) (ch : UInt8) (hl : s.length ≤ 1048576) :
    FnO Tryz.prog 18 [AV.text s, AV.byte ch] 9 1 ((splitB ch s).map textCell) := by
 refine FnO.intro 35 Tryz.func18 rfl Tryz.ntmps18 rfl (by kernel_rfl) (fun W I a hs => ?_)
 refine sr <| hs.sc fun hs => nn <| sr ?_
 refine hs.lit0 rfl un47 ty9 (by decide) fun b8 I a w hs => ?_
 refine hs.s fun hs => nn <| sr <| hs.sc fun hs => nn <| wp_seq <| sr <| hs.sc fun hs => nn <| wp_block ?_
 refine St.lo (σ := Nat × Nat × List (List UInt8) × Value) (run 3 5 (run 20 9 [])) ⟨fun ⟨k, frm, out, v⟩ => [(7, AV.int k), (6, AV.int frm), (5, AV.val v)], fun ⟨k, frm, out, v⟩ => [Own.row v 9 1 (out.map textCell)], fun ⟨k, frm, out, v⟩ => k ≤ s.length ∧ frm ≤ k ∧ (∀ i, frm ≤ i → i < k → s.getD i 0 ≠ ch) ∧ splitB ch s = out ++ splitB ch (s.drop frm)⟩ (fun ⟨k, frm, out, v⟩ => s.length - k) (0, 0, [], .slice (some ⟨b8, 0, none⟩) 0 0) hs ?ok1 ?round1
 case ok1 => exact ⟨by simp, by simp, fun i _ hi => by omega, rfl⟩
 case round1 =>
  rintro ⟨k, frm, out, v⟩ I a w hok hs
  obtain ⟨hk, hf, hn, he⟩ := hok
  change St _ _ [Own.row v 9 1 (out.map textCell)] _ _ _ at hs
  have hol : out.length ≤ s.length + 1 := by have := splitB_len ch s; rw [he] at this; simp at this; omega
  refine wp_seq <| sr <| hs.m fun hs => hs.m fun hs => hs.o (ok_lenT un9 .tt) fun hs => hs.o .lss fun hs => nn ?_
  refine hs.cd (fun hb1 => ?_) fun hb1 => ?_
  ·try simp only [B] at hb1
   refine wp_skip <| then_n <| wp_seq <| wp_block <| sr <| hs.m fun hs => hs.m fun hs => ?_
   refine hs.o (ok_idxT un9 .tt .tt (fun _ => by omega)) fun hs => ?_
   refine hs.m fun hs => hs.o (ok_eq8 .tt .tt) fun hs => nn ?_
   refine hs.cd (fun hb2 => ?_) fun hb2 => ?_
   ·rw [byte_eq, decide_eq_true_eq] at hb2
    refine sr <| hs.m fun hs => hs.m fun hs => hs.m fun hs => hs.m fun hs => ?_
    refine hs.o (ok_slT un9 .tt .tt .tt (fun _ => by omega)) fun hs => ?_
    refine hs.o (.li [_] zo9 (.v .nil)) fun hs => ?_
    refine hs.append 0 rfl un47 ty9 rfl .tt .r rfl (by simp; omega) fun v26 a w hs => ?_
    change St _ _ [Own.row v26 9 1 (out.map textCell ++ [[AV.text ((s.drop frm).take (k - frm))]])] _ _ _ at hs
    rw [snoc_text] at hs
    refine hs.s fun hs => nn <| St.region <| hs.m fun hs => ?_
    refine hs.o .ad fun hs => ?_
    refine hs.s fun hs => wpList_nil <| block_n <| then_n <| St.region <| hs.m fun hs => ?_
    refine hs.o .ad fun hs => ?_
    refine hs.s fun hs => nn ?_
    exact hs.ag (k + 1, k + 1, out ++ [(s.drop frm).take (k - frm)], v26) (by first | exact ⟨hb1, Nat.le_refl _, fun i h1 h2 => by omega, by rw [he, split_at hf hb1 hn hb2]; simp⟩ | exact ⟨hb1, by omega, fun i h1 h2 => by rcases Nat.lt_succ_iff_lt_or_eq.1 h2 with h | h; exact hn i h1 h; rw [h]; exact hb2, he⟩)
   ·rw [byte_eq, decide_eq_false_iff_not] at hb2
    refine wp_skip <| block_n <| then_n <| St.region <| hs.m fun hs => ?_
    refine hs.o .ad fun hs => ?_
    refine hs.s fun hs => nn ?_
    exact hs.ag (k + 1, frm, out, v) (by first | exact ⟨hb1, Nat.le_refl _, fun i h1 h2 => by omega, by rw [he, split_at hf hb1 hn hb2]; simp⟩ | exact ⟨hb1, by omega, fun i h1 h2 => by rcases Nat.lt_succ_iff_lt_or_eq.1 h2 with h | h; exact hn i h1 h; rw [h]; exact hb2, he⟩)
  ·try simp only [B] at hb1
   refine wp_exit <| then_x <| then_x <| block_hit <| then_n <| sr <| hs.m fun hs => hs.m fun hs => hs.m fun hs => ?_
   refine hs.o (ok_slTL un9 .tt .tt (fun _ => by omega)) fun hs => ?_
   refine hs.o (.li [_] zo9 (.v .nil)) fun hs => ?_
   refine hs.append 0 rfl un47 ty9 rfl .tt .r rfl (by simp; omega) fun v34 a w hs => ?_
   change St _ _ [Own.row v34 9 1 (out.map textCell ++ [[AV.text (s.drop frm)]])] _ _ _ at hs
   rw [snoc_text] at hs
   refine hs.s fun hs => nn <| wp_ret ?_
   rw [show out ++ [s.drop frm] = splitB ch s from by rw [he, split_last (by omega) hn]] at hs
   refine hs.retE v34 [0] rfl (.cons (.t rfl) .nil) trivial rfl rfl
theorem c_spec_l45Split (s : List UInt8) (ch : UInt8) (hl : s.length ≤ 1048576) : Fn Tryz.prog 18 [AV.text s, AV.byte ch] (textsAV (splitB ch s)) := (c_spec_l45SplitO s ch hl).fn
theorem c_spec_l45Event (k : Nat) (h2 : 2 ≤ k) (h13 : k < 13) (n : List Int) :
    Fn Tryz.prog 32 [AV.int k, intsAV n] (AV.tup [((readEv k n).getD default).av, AV.bool (readEv k n).isSome]) := by
 refine Fn.intro 110 Tryz.func32 rfl Tryz.ntmps32 rfl (by kernel_rfl) (fun W I a hs => ?_)
 have hle := hs.lenleM (t := 1) rfl
 refine sr <| hs.alloc rfl ty50 zc50 fun b4 I a w hs => hs.sc fun hs => nn <| wp_seq <| wp_block <| sr <| hs.m fun hs => hs.o .eqic fun hs => hs.m fun hs => hs.q .T .mv fun hs => ?_
 refine hs.q .T .ln fun hs => ?_
 refine hs.q .T (ok_eqi .ag .c) fun hs => ?_
 refine hs.o .an fun hs => hs.s fun hs => nn ?_
 refine hs.cd (fun hb1 => ?_) fun hb1 => ?_
 ·try simp only [B] at hb1
  refine wp_seq ?_
  refine hs.drawT 10 (by kernel_rfl) (by kernel_rfl) (by kernel_rfl) ?_
  simp only [List.take_succ_cons, List.take_zero, List.drop_succ_cons, List.drop_zero]
  refine .o .mv ?_
  refine .o .ix ?_
  refine .o .l1 <| .o .mv ?_
  refine .o .ix ?_
  refine .o .l1 <| .o .mv ?_
  refine .o .ix ?_
  refine .o .l1 ?_
  refine .o (.bd zc50 (.k (.k (.k (.k (.k Parts.nil)))))) ?_
  refine .nil ?_
  intro I a w hs
  refine hs.sb 0 fun hs => ?_
  refine hs.sc fun hs => nn <| wp_ret <| block_r <| then_r ?_
  refine hs.ret rfl (.cons (.s 0 ty50 rfl rfl (by first | rfl | assumption)) (.cons (.t rfl) ResL.nil)) ?_
  exact (by unfold readEv; (repeat (first | rw [if_pos (by omega)] | rw [if_neg (by omega)])); rfl)
 ·try simp only [B] at hb1
  refine sr <| hs.m fun hs => hs.o .eqic fun hs => hs.m fun hs => hs.q .T .mv fun hs => ?_
  refine hs.q .T .ln fun hs => ?_
  refine hs.q .T (ok_eqi .ag .c) fun hs => ?_
  refine hs.o .an fun hs => hs.s fun hs => nn ?_
  refine hs.cd (fun hb2 => ?_) fun hb2 => ?_
  ·try simp only [B] at hb2
   refine wp_seq ?_
   refine hs.drawT 13 (by kernel_rfl) (by kernel_rfl) (by kernel_rfl) ?_
   simp only [List.take_succ_cons, List.take_zero, List.drop_succ_cons, List.drop_zero]
   refine .o .mv ?_
   refine .o .ix ?_
   refine .o .l1 <| .o .mv ?_
   refine .o .ix ?_
   refine .o .l1 <| .o .mv ?_
   refine .o .ix ?_
   refine .o .l1 <| .o .mv ?_
   refine .o .ix ?_
   refine .o .l1 ?_
   refine .o (.bd zc50 (.k (.k (.k (.k (.k (.k Parts.nil))))))) ?_
   refine .nil ?_
   intro I a w hs
   refine hs.sb 0 fun hs => ?_
   refine hs.sc fun hs => nn <| wp_ret <| block_r <| then_r ?_
   refine hs.ret rfl (.cons (.s 0 ty50 rfl rfl (by first | rfl | assumption)) (.cons (.t rfl) ResL.nil)) ?_
   exact (by unfold readEv; (repeat (first | rw [if_pos (by omega)] | rw [if_neg (by omega)])); rfl)
  ·try simp only [B] at hb2
   refine sr <| hs.m fun hs => hs.o .eqic fun hs => hs.m fun hs => hs.q .T .mv fun hs => ?_
   refine hs.q .T .ln fun hs => ?_
   refine hs.q .T (ok_eqi .ag .c) fun hs => ?_
   refine hs.o .an fun hs => hs.s fun hs => nn ?_
   refine hs.cd (fun hb3 => ?_) fun hb3 => ?_
   ·try simp only [B] at hb3
    refine wp_seq ?_
    refine hs.drawT 8 (by kernel_rfl) (by kernel_rfl) (by kernel_rfl) ?_
    simp only [List.take_succ_cons, List.take_zero, List.drop_succ_cons, List.drop_zero]
    refine .o .mv <| .o .mv ?_
    refine .o .ix ?_
    refine .o .l1 <| .o .mv ?_
    refine .o .ix ?_
    refine .o .l1 ?_
    refine .o (.bd zc50 (.k (.k (.k Parts.nil)))) ?_
    refine .nil ?_
    intro I a w hs
    refine hs.sb 0 fun hs => ?_
    refine hs.sc fun hs => nn <| wp_ret <| block_r <| then_r ?_
    refine hs.ret rfl (.cons (.s 0 ty50 rfl rfl (by first | rfl | assumption)) (.cons (.t rfl) ResL.nil)) ?_
    obtain rfl : k = 9 := by omega
    exact (by unfold readEv; (repeat (first | rw [if_pos (by omega)] | rw [if_neg (by omega)])); rfl)
   ·try simp only [B] at hb3
    refine sr <| hs.m fun hs => hs.o .gtrc fun hs => hs.m fun hs => hs.q .T .mv fun hs => ?_
    refine hs.q .T (ok_lss .ag .c) fun hs => ?_
    refine hs.o .an fun hs => hs.m fun hs => hs.q .F .mv fun hs => ?_
    refine hs.q .F .ln fun hs => ?_
    refine hs.q .F (ok_nei .ag .c) fun hs => ?_
    refine hs.o .or fun hs => hs.s fun hs => nn ?_
    refine hs.cd (fun hb4 => ?_) fun hb4 => ?_
    ·try simp only [B] at hb4
     refine sr ?_
     refine hs.o (.bd zc50 Parts.nil) fun hs => ?_
     refine hs.sb 0 fun hs => ?_
     refine hs.sc fun hs => nn <| wp_ret <| block_r <| then_r ?_
     refine hs.ret rfl (.cons (.s 0 ty50 rfl rfl (by first | rfl | assumption)) (.cons (.t rfl) ResL.nil)) ?_
     exact (by unfold readEv; (repeat (first | rw [if_pos (by omega)] | rw [if_neg (by omega)])); rfl)
    ·try simp only [B] at hb4
     refine sr <| hs.m fun hs => hs.o .eqic fun hs => hs.s fun hs => nn ?_
     refine hs.cd (fun hb5 => ?_) fun hb5 => ?_
     ·try simp only [B] at hb5
      refine sr <| hs.m fun hs => ?_
      refine hs.o .ix fun hs => ?_
      refine hs.o .l1 fun hs => ?_
      refine hs.o (.bd zc50 (.k (.k (.k Parts.nil)))) fun hs => ?_
      refine hs.sb 0 fun hs => ?_
      refine hs.sc fun hs => nn <| wp_ret <| block_r <| then_r ?_
      refine hs.ret rfl (.cons (.s 0 ty50 rfl rfl (by first | rfl | assumption)) (.cons (.t rfl) ResL.nil)) ?_
      exact (by unfold readEv; (repeat (first | rw [if_pos (by omega)] | rw [if_neg (by omega)])); rfl)
     ·try simp only [B] at hb5
      refine sr <| hs.m fun hs => hs.o .eqic fun hs => hs.m fun hs => hs.q .F .mv fun hs => ?_
      refine hs.q .F (ok_eqi .ag .c) fun hs => ?_
      refine hs.o .or fun hs => hs.s fun hs => nn ?_
      refine hs.cd (fun hb6 => ?_) fun hb6 => ?_
      ·try simp only [B] at hb6
       refine sr <| hs.m fun hs => hs.m fun hs => ?_
       refine hs.o .ix fun hs => ?_
       refine hs.o .l1 fun hs => ?_
       refine hs.o (.bd zc50 (.k (.k Parts.nil))) fun hs => ?_
       refine hs.sb 0 fun hs => ?_
       refine hs.sc fun hs => nn <| wp_ret <| block_r <| then_r ?_
       refine hs.ret rfl (.cons (.s 0 ty50 rfl rfl (by first | rfl | assumption)) (.cons (.t rfl) ResL.nil)) ?_
       exact (by unfold readEv; (repeat (first | rw [if_pos (by omega)] | rw [if_neg (by omega)])); rfl)
      ·try simp only [B] at hb6
       refine sr <| hs.m fun hs => hs.o .eqic fun hs => hs.m fun hs => hs.q .F .mv fun hs => ?_
       refine hs.q .F (ok_eqi .ag .c) fun hs => ?_
       refine hs.o .or fun hs => hs.s fun hs => nn ?_
       refine hs.cd (fun hb7 => ?_) fun hb7 => ?_
       ·try simp only [B] at hb7
        refine sr <| hs.m fun hs => hs.m fun hs => ?_
        refine hs.o .ix fun hs => ?_
        refine hs.o .l1 fun hs => ?_
        refine hs.o (.bd zc50 (.k (.k Parts.nil))) fun hs => ?_
        refine hs.sb 0 fun hs => ?_
        refine hs.sc fun hs => nn <| wp_ret <| block_r <| then_r ?_
        refine hs.ret rfl (.cons (.s 0 ty50 rfl rfl (by first | rfl | assumption)) (.cons (.t rfl) ResL.nil)) ?_
        exact (by unfold readEv; (repeat (first | rw [if_pos (by omega)] | rw [if_neg (by omega)])); rfl)
       ·try simp only [B] at hb7
        refine wp_skip <| block_n <| then_n <| sr <| hs.m fun hs => hs.m fun hs => ?_
        refine hs.o .ix fun hs => ?_
        refine hs.o .l1 fun hs => ?_
        refine hs.o (.bd zc50 (.k (.k Parts.nil))) fun hs => ?_
        refine hs.sb 0 fun hs => ?_
        refine hs.sc fun hs => nn <| wp_ret ?_
        refine hs.ret rfl (.cons (.s 0 ty50 rfl rfl (by first | rfl | assumption)) (.cons (.t rfl) ResL.nil)) ?_
        exact (by unfold readEv; (repeat (first | rw [if_pos (by omega)] | rw [if_neg (by omega)])); rfl)
def listed (s : List UInt8) : List Int := (splitB 32 s).tail.map parseB
theorem pickI_le {bs : List UInt8} {p n m : Int} (h : n ≤ m) (hm : 0 ≤ m) : pickI bs p n ≤ m := by
  by_cases h0 : 0 < n
  · have := pickI_hi bs p h0; omega
  · unfold pickI; rw [if_pos (by omega)]; omega
theorem many_odd {u m o T : Nat} (h : o + u * m = T) (hm : m % 2 = 1) : o + u + (u + u) * (m / 2) = T := by
  have e : m = 2 * (m / 2) + 1 := by omega
  have e2 : u * m = (u + u) * (m / 2) + u := by
    conv => lhs; rw [e]
    rw [Nat.mul_add, Nat.mul_one, ← Nat.mul_assoc, Nat.mul_two]
  omega
theorem many_even {u m o T : Nat} (h : o + u * m = T) (hm : ¬ m % 2 = 1) : o + (u + u) * (m / 2) = T := by
  have e : m = 2 * (m / 2) := by omega
  have e2 : u * m = (u + u) * (m / 2) := by
    conv => lhs; rw [e]
    rw [← Nat.mul_assoc, Nat.mul_two]
  omega
theorem many_le {u m o T : Nat} (h : o + u * m = T) (hm : 0 < m) : o + u ≤ T := by
  have := Nat.le_mul_of_pos_right u hm
  omega
set_option maxHeartbeats 4000000 in
theorem c_spec_l6Open (code : List UInt8) (hcl : code.length ≤ 1099511627776) :
    FnE Tryz.prog 13 [bytesAV code] [] (fun r : Nat × List UInt8 => r.2.length ≤ 1099511627776) (fun r => [Own.box r.1 66 [bytesAV r.2, AV.int (0)]]) (fun r => AV.val (.pointer (some ⟨r.1, 0, none⟩))) := by
 refine FnE.intro 11 Tryz.func13 rfl Tryz.ntmps13 rfl (by kernel_rfl) (fun W I a hs => ?_)
 refine sr <| hs.sc fun hs => nn ?_
 refine St.cut (σ := List UInt8) (0 :: (run 5 3 [])) ⟨fun cd => [(0, bytesAV cd)], fun cd => [], fun cd => cd.length ≤ 1099511627776⟩ hs ?cutA1 ?cutB1
 case cutA1 =>
  refine sr <| hs.m fun hs => ?_
  refine hs.o .ln fun hs => ?_
  refine hs.o .gtrc fun hs => nn ?_
  refine hs.cd (fun hb1 => ?_) fun hb1 => ?_
  ·simp only [B] at hb1
   refine St.region <| hs.m fun hs => ?_
   refine hs.o (ok_slH un22 ty5 .r .c (fun _ => by rw [List.length_map]; omega)) fun hs => ?_
   refine hs.s fun hs => nn ?_
   refine hs.meet (code.take 2000) ?ok2001 (by rfl) ?env2001 (by repeat (first | exact Env.le_without | refine Env.le_push rfl ?_))
   case ok2001 => first | exact hcl | (simp; omega)
   case env2001 => exact (Env.le_consE rfl (by first | rfl | (unfold bytesAV; rw [List.map_take]; rfl)) Env.le_nil)
  ·skip
   refine wp_skip <| then_n ?_
   refine hs.meet code ?ok2002 (by rfl) ?env2002 (by repeat (first | exact Env.le_without | refine Env.le_push rfl ?_))
   case ok2002 => first | exact hcl | (simp; omega)
   case env2002 => exact (Env.le_consE rfl (by first | rfl | (unfold bytesAV; rw [List.map_take]; rfl)) Env.le_nil)
 case cutB1 =>
  rintro cd I a w hok hs
  have hcd : cd.length ≤ 1099511627776 := hok
  refine sr <| hs.m fun hs => ?_
  refine hs.o (.bd zc66 (.k Parts.nil)) fun hs => ?_
  refine hs.box rfl .tt fun b10 I a w hs => hs.s fun hs => nn <| wp_ret ?_
  refine hs.retE (b10, cd) [0] rfl (.cons (.t rfl) .nil) hcd rfl rfl
theorem c_spec_l6Rd_of (br : Nat) (code : List UInt8) (p : Int) (l : List (List UInt8)) (hp : 0 ≤ p ∧ p ≤ 1099511627775) (hb : code.length ≤ 1099511627776) (hl : 0 < l.length ∧ l.length ≤ 1000) :
    FnM Tryz.prog 29 [AV.val (.pointer (some ⟨br, 0, none⟩)), textsAV l] [Own.box br 66 [bytesAV code, AV.int (p)]] [Own.box br 66 [bytesAV code, AV.int (p + 1)]] (AV.text (elt l (pickI code p l.length).toNat)) := by
 refine FnE.intro 12 Tryz.func29 rfl Tryz.ntmps29 rfl (by kernel_rfl) (fun W I a hs => ?_)
 refine sr <| hs.sc fun hs => nn <| sr <| hs.m fun hs => hs.m fun hs => hs.m fun hs => ?_
 refine hs.o .ln fun hs => ?_
 refine hs.callM [0] (c_spec_l6Rd_pick br code p (l.length : Int) hp hb) (args_cons .tt (args_cons .tt args_nil)) rfl (by decide) rfl fun I a w hs => ?_
 have hx := pickI_in code p (n := (l.length : Int)) (by omega)
 refine hs.o .ix fun hs => ?_
 refine hs.o .l1 fun hs => hs.s fun hs => nn <| wp_ret ?_
 refine hs.retE () [0] rfl (.cons (.t rfl) .nil) trivial rfl rfl
set_option maxHeartbeats 4000000 in
theorem c_spec_l6Many (s : List UInt8) (n : Nat) (h : s.length * n ≤ 1048576) (hn : n ≤ 1048576) :
    FnX Tryz.prog 15 [AV.text s, AV.int n] (fun t : List UInt8 => t.length = s.length * n) (fun t => AV.text t) := by
 refine FnX.intro 20 Tryz.func15 rfl Tryz.ntmps15 rfl (by kernel_rfl) (fun W I a hs => ?_)
 refine sr <| hs.sc fun hs => nn <| sr <| hs.sc fun hs => nn <| wp_seq <| wp_block ?_
 refine St.lo (σ := List UInt8 × Nat × List UInt8) (run 2 0 (run 14 5 [])) ⟨fun ⟨u, m, out⟩ => [(0, AV.text u), (1, AV.int m), (5, AV.text out)], fun ⟨u, m, out⟩ => [], fun ⟨u, m, out⟩ => out.length + u.length * m = s.length * n ∧ m ≤ n⟩ (fun ⟨u, m, out⟩ => m) (s, n, []) hs ?ok1 ?round1
 case ok1 => exact ⟨Nat.zero_add _, Nat.le_refl _⟩
 case round1 =>
  rintro ⟨u, m, out⟩ I a w hok hs
  obtain ⟨he, hmn⟩ := hok
  refine wp_seq <| sr <| hs.m fun hs => hs.o .gtrc fun hs => nn ?_
  refine hs.cd (fun hb1 => ?_) fun hb1 => ?_
  ·try simp only [B] at hb1
   refine wp_skip <| then_n <| wp_block <| wp_seq <| sr <| hs.m fun hs => ?_
   refine hs.o (ok_rem .tt .c (fun _ => by omega)) fun hs => ?_
   refine hs.o .eqic fun hs => nn ?_
   refine hs.cd (fun hb2 => ?_) fun hb2 => ?_
   ·try simp only [B] at hb2
    refine St.region <| hs.m fun hs => hs.m fun hs => ?_
    refine hs.o (ok_cat .tt .tt (fun _ => by have := many_le he (by omega); omega)) fun hs => ?_
    refine hs.s fun hs => nn <| sr <| hs.m fun hs => hs.m fun hs => ?_
    refine hs.o (ok_cat .tt .tt (fun _ => by have := many_le he (by omega); omega)) fun hs => ?_
    refine hs.s fun hs => nn <| St.region <| hs.m fun hs => ?_
    refine hs.o (ok_quo .tt .c (fun _ => by omega)) fun hs => ?_
    refine hs.s fun hs => wpList_nil <| block_n <| then_n ?_
    exact hs.ag (u ++ u, m / 2, out ++ u) ((by refine ⟨?_, by show m / 2 ≤ n; omega⟩; show (out ++ u).length + (u ++ u).length * (m / 2) = _; rw [List.length_append, List.length_append]; exact many_odd he (by omega))) (hμ := by show m / 2 < m; omega)
   ·try simp only [B] at hb2
    refine wp_skip <| then_n <| sr <| hs.m fun hs => hs.m fun hs => ?_
    refine hs.o (ok_cat .tt .tt (fun _ => by have := many_le he (by omega); omega)) fun hs => ?_
    refine hs.s fun hs => nn <| St.region <| hs.m fun hs => ?_
    refine hs.o (ok_quo .tt .c (fun _ => by omega)) fun hs => ?_
    refine hs.s fun hs => wpList_nil <| block_n <| then_n ?_
    exact hs.ag (u ++ u, m / 2, out) ((by refine ⟨?_, by show m / 2 ≤ n; omega⟩; show out.length + (u ++ u).length * (m / 2) = _; rw [List.length_append]; exact many_even he (by omega))) (hμ := by show m / 2 < m; omega)
  ·try simp only [B] at hb1
   refine wp_exit <| then_x <| then_x <| block_hit <| then_n <| sr <| hs.m fun hs => hs.s fun hs => nn <| wp_ret ?_
   refine hs.retE out [] rfl (.cons (.t rfl) .nil) ?_ rfl rfl
   have hm0 : m = 0 := by omega
   subst hm0
   simpa using he
set_option maxHeartbeats 8000000 in
theorem c_spec_l71Play (br : Nat) (code : List UInt8) (hcl : code.length ≤ 1099511627776) (p : Int) (n : Nat) (h0 : 0 ≤ p) (h1 : p ≤ n) (hn : n ≤ 10000) (most : Int) (hm : most ≤ 30) :
    FnE Tryz.prog 16 [AV.val (.pointer (some ⟨br, 0, none⟩)), AV.int most] [Own.box br 66 [bytesAV code, AV.int (p)]] (fun r : Nat × Sim × Int => SimIn (n + 26000) r.2.1 ∧ 0 ≤ r.2.2 ∧ r.2.2 ≤ ((n + 26000 : Nat) : Int)) (fun r => [Own.box r.1 43 [AV.val (.pointer (some ⟨br, 0, none⟩)), AV.int r.2.1.w.time, serversAV r.2.1.w.servers, wordsAV r.2.1.w.radio, callsAV r.2.1.w.calls, seenAV r.2.1.w.seen, AV.val r.2.1.lv], Own.row r.2.1.lv 50 11 (r.2.1.list.map Ev.cells), Own.box br 66 [bytesAV code, AV.int (r.2.2)]]) (fun r => AV.val (.pointer (some ⟨r.1, 0, none⟩))) := by
 refine FnE.intro 28 Tryz.func16 rfl Tryz.ntmps16 rfl (by kernel_rfl) (fun W I a hs => ?_)
 refine sr <| hs.sc fun hs => nn <| sr <| hs.m fun hs => ?_
 refine hs.o (.cl (c_spec_NeckStart ..)) fun hs => ?_
 refine hs.o (.bd zx43 (.k (.t Parts.nil))) fun hs => ?_
 refine hs.box rfl .tt fun b11 I a w hs => hs.s fun hs => wpList_nil ?_
 have hs := hs.ownNil (sz := 11) 50
 change St _ _ [Own.box br 66 [bytesAV code, AV.int (p)], Own.box b11 43 [AV.val (.pointer (some ⟨br, 0, none⟩)), AV.int (⟨startN, [], .slice none 0 0⟩ : Sim).w.time, serversAV (⟨startN, [], .slice none 0 0⟩ : Sim).w.servers, wordsAV (⟨startN, [], .slice none 0 0⟩ : Sim).w.radio, callsAV (⟨startN, [], .slice none 0 0⟩ : Sim).w.calls, seenAV (⟨startN, [], .slice none 0 0⟩ : Sim).w.seen, AV.val (⟨startN, [], .slice none 0 0⟩ : Sim).lv], Own.row (⟨startN, [], .slice none 0 0⟩ : Sim).lv 50 11 ((⟨startN, [], .slice none 0 0⟩ : Sim).list.map Ev.cells)] _ _ _ at hs
 refine then_n <| sr ?_
 refine hs.o (.li (([0, 0, 3, 6, 12] : List Int).map intCell) zo3 (.v (.v (.v (.v (.v .nil)))))) fun hs => ?_
 refine hs.m fun hs => ?_
 refine hs.callM [0] (c_spec_l6Rd_pick br code p 5 (by omega) hcl) (args_cons .tt (args_cons .c args_nil)) rfl (by decide) rfl fun I a w hs => ?_
 change St _ _ [Own.box br 66 [bytesAV code, AV.int (p + 1)], Own.box b11 43 [AV.val (.pointer (some ⟨br, 0, none⟩)), AV.int (⟨startN, [], .slice none 0 0⟩ : Sim).w.time, serversAV (⟨startN, [], .slice none 0 0⟩ : Sim).w.servers, wordsAV (⟨startN, [], .slice none 0 0⟩ : Sim).w.radio, callsAV (⟨startN, [], .slice none 0 0⟩ : Sim).w.calls, seenAV (⟨startN, [], .slice none 0 0⟩ : Sim).w.seen, AV.val (⟨startN, [], .slice none 0 0⟩ : Sim).lv], Own.row (⟨startN, [], .slice none 0 0⟩ : Sim).lv 50 11 ((⟨startN, [], .slice none 0 0⟩ : Sim).list.map Ev.cells)] _ _ _ at hs
 refine hs.o ((by first | exact ok_idxN un54 ty3 .tt .tt (fun _ => by have h9 := pickI_in code p (n := 5) (by omega); (try simp); omega) | exact ok_idxM un54 ty3 .tt .tt (fun _ => by have h9 := pickI_in code p (n := 5) (by omega); (try simp); omega) | exact ok_idx un54 ty3 .tt .tt (fun _ => by have h9 := pickI_in code p (n := 5) (by omega); (try simp); omega))) fun hs => ?_
 refine hs.o .l1 fun hs => hs.s fun hs => nn <| wp_seq <| sr <| hs.m fun hs => hs.m fun hs => ?_
 refine hs.callM [0] (c_spec_l6Rd_pick br code (p + 1) most (by omega) hcl) (args_cons .tt (args_cons .tt args_nil)) rfl (by decide) rfl fun I a w hs => ?_
 change St _ _ [Own.box br 66 [bytesAV code, AV.int (p + 1 + 1)], Own.box b11 43 [AV.val (.pointer (some ⟨br, 0, none⟩)), AV.int (⟨startN, [], .slice none 0 0⟩ : Sim).w.time, serversAV (⟨startN, [], .slice none 0 0⟩ : Sim).w.servers, wordsAV (⟨startN, [], .slice none 0 0⟩ : Sim).w.radio, callsAV (⟨startN, [], .slice none 0 0⟩ : Sim).w.calls, seenAV (⟨startN, [], .slice none 0 0⟩ : Sim).w.seen, AV.val (⟨startN, [], .slice none 0 0⟩ : Sim).lv], Own.row (⟨startN, [], .slice none 0 0⟩ : Sim).lv 50 11 ((⟨startN, [], .slice none 0 0⟩ : Sim).list.map Ev.cells)] _ _ _ at hs
 have lo19 := pickI_lo code (p + 1) most
 have hj19 := pickI_le (bs := code) (p := p + 1) hm (by omega)
 generalize pickI code (p + 1) most = x19 at hs lo19 hj19
 refine hs.s fun hs => nn <| wp_block ?_
 refine St.lo (σ := Int × Sim × Int) (7 :: (run 7 20 [])) ⟨fun ⟨y, s1, p1⟩ => [(7, AV.int y)], fun ⟨y, s1, p1⟩ => [Own.box br 66 [bytesAV code, AV.int (p1)], Own.box b11 43 [AV.val (.pointer (some ⟨br, 0, none⟩)), AV.int s1.w.time, serversAV s1.w.servers, wordsAV s1.w.radio, callsAV s1.w.calls, seenAV s1.w.seen, AV.val s1.lv], Own.row s1.lv 50 11 (s1.list.map Ev.cells)], fun ⟨y, s1, p1⟩ => SimIn (n + 10 + 850 * (30 - y).toNat) s1 ∧ 0 ≤ p1 ∧ p1 ≤ ((n + 10 + 850 * (30 - y).toNat : Nat) : Int) ∧ 0 ≤ y ∧ y ≤ 30⟩ (fun ⟨y, s1, p1⟩ => y.toNat) (x19, (⟨startN, [], .slice none 0 0⟩ : Sim), p + 1 + 1) hs ?ok1 ?round1
 case ok1 => exact ⟨SimIn.start _ _, by first | omega | (dsimp only; omega) | (dsimp only; push_cast; omega) | (push_cast; omega) | simp, by first | omega | (dsimp only; omega) | (dsimp only; push_cast; omega) | (push_cast; omega) | simp, by first | omega | (dsimp only; omega) | (dsimp only; push_cast; omega) | (push_cast; omega) | simp, by first | omega | (dsimp only; omega) | (dsimp only; push_cast; omega) | (push_cast; omega) | simp⟩
 case round1 =>
  rintro ⟨y, s1, p1⟩ I a w hok hs
  obtain ⟨hs1, hp4, hp5, hy0, hy1⟩ := hok
  change St _ _ [Own.box br 66 [bytesAV code, AV.int (p1)], Own.box b11 43 [AV.val (.pointer (some ⟨br, 0, none⟩)), AV.int s1.w.time, serversAV s1.w.servers, wordsAV s1.w.radio, callsAV s1.w.calls, seenAV s1.w.seen, AV.val s1.lv], Own.row s1.lv 50 11 (s1.list.map Ev.cells)] _ _ _ at hs
  refine wp_seq <| sr <| hs.m fun hs => hs.o .gtrc fun hs => nn ?_
  refine hs.cd (fun hb1 => ?_) fun hb1 => ?_
  ·try simp only [B] at hb1
   refine wp_skip <| then_n <| wp_seq <| wp_block <| St.region <| hs.m fun hs => hs.m fun hs => ?_
   refine hs.callE [1, 2, 0] (c_spec_l71Sim_step b11 br code hcl s1 p1 (n + 10 + 850 * (30 - y).toNat) hs1 hp4 hp5 (by omega) _) (args_cons .tt (args_cons .tt args_nil)) rfl (by decide) rfl fun r26 I a w hok26 hs => ?_
   obtain ⟨s26, p26⟩ := r26
   change St _ _ [Own.box br 66 [bytesAV code, AV.int (p26)], Own.box b11 43 [AV.val (.pointer (some ⟨br, 0, none⟩)), AV.int s26.w.time, serversAV s26.w.servers, wordsAV s26.w.radio, callsAV s26.w.calls, seenAV s26.w.seen, AV.val s26.lv], Own.row s26.lv 50 11 (s26.list.map Ev.cells)] _ _ _ at hs
   replace hok26 : SimIn ((n + 10 + 850 * (30 - y).toNat) + 850) s26 ∧ 0 ≤ p26 ∧ p26 ≤ (((n + 10 + 850 * (30 - y).toNat) + 850 : Nat) : Int) := hok26
   obtain ⟨k26, l26, u26⟩ := hok26
   refine wpList_nil <| block_n <| then_n <| St.region <| hs.m fun hs => ?_
   refine hs.o .su fun hs => ?_
   refine hs.s fun hs => nn ?_
   exact hs.ag (y - 1, s26, p26) (⟨k26.mono (by omega), by first | omega | (dsimp only; omega) | (dsimp only; push_cast; omega) | (push_cast; omega) | simp, by first | omega | (dsimp only; omega) | (dsimp only; push_cast; omega) | (push_cast; omega) | simp, by first | omega | (dsimp only; omega) | (dsimp only; push_cast; omega) | (push_cast; omega) | simp, by first | omega | (dsimp only; omega) | (dsimp only; push_cast; omega) | (push_cast; omega) | simp⟩)
  ·try simp only [B] at hb1
   refine wp_exit <| then_x <| then_x <| block_hit <| then_n <| sr <| hs.m fun hs => hs.s fun hs => nn <| wp_ret ?_
   refine hs.retE (b11, s1, p1) [1, 2, 0] rfl (.cons (.t rfl) .nil) (by (try dsimp only); exact ⟨hs1.mono (by omega), by first | omega | (dsimp only; omega) | (dsimp only; push_cast; omega) | (push_cast; omega) | simp, by first | omega | (dsimp only; omega) | (dsimp only; push_cast; omega) | (push_cast; omega) | simp⟩) rfl rfl
def numsTo (ws : List (List UInt8)) (k : Nat) : List Int := (ws.tail.take (k - 1)).map parseB
theorem numsTo_succ {ws : List (List UInt8)} {k : Nat} (h1 : 1 ≤ k) (h2 : k < ws.length) : numsTo ws (k + 1) = numsTo ws k ++ [parseB (elt ws k)] := by
  unfold numsTo
  rw [show k + 1 - 1 = (k - 1) + 1 from by omega, List.take_succ_eq_append_getElem (by simp; omega), List.map_append]
  simp [elt, h2, show k - 1 + 1 = k from by omega]
theorem numsTo_all {ws : List (List UInt8)} {k : Nat} (h : ws.length ≤ k) : numsTo ws k = ws.tail.map parseB := by
  unfold numsTo; rw [List.take_of_length_le (by simp; omega)]
theorem numsTo_len {ws : List (List UInt8)} {k : Nat} : (numsTo ws k).length ≤ ws.length := by
  unfold numsTo; simp; omega
theorem snoc_int (out : List Int) (p : Int) : out.map intCell ++ [[AV.int p]] = (out ++ [p]).map intCell := by simp [intCell]
theorem elt_tail {ws : List (List UInt8)} {k : Nat} (h1 : 1 ≤ k) (h2 : k < ws.length) : elt ws k ∈ ws.tail := by
  cases ws with
  | nil => simp at h2
  | cons w r =>
    simp only [List.length_cons] at h2
    obtain ⟨j, rfl⟩ : ∃ j, k = j + 1 := ⟨k - 1, by omega⟩
    simp only [elt, List.getD_eq_getElem?_getD, List.getElem?_cons_succ, List.tail_cons]
    rw [List.getElem?_eq_getElem (by omega)]
    exact List.getElem_mem _
theorem readB_bad {s : List UInt8} {k : Nat} (h1 : 1 ≤ k) (h2 : k < (splitB 32 s).length) (h : parseB (elt (splitB 32 s) k) < 0) : readB s = none := by
  unfold readB
  rw [if_neg]
  intro hh
  rw [List.all_eq_true] at hh
  have := hh _ (List.mem_map_of_mem (f := parseB) (elt_tail h1 h2))
  simp at this; omega
theorem place_first {w : List UInt8} {k : Nat} (h2 : 2 ≤ k) (h13 : k < 13) (h : ∀ i, 2 ≤ i → i < k → w ≠ elt names i) (he : w = elt names k) : placeB w = some k := by
  unfold placeB
  rw [List.find?_range_eq_some]
  refine ⟨by simp only [Bool.and_eq_true, decide_eq_true_eq]; exact ⟨h2, he.symm⟩, by simpa using h13, fun i hi => ?_⟩
  simp only [Bool.not_eq_true', Bool.and_eq_false_iff, decide_eq_false_iff_not]
  by_cases h' : 2 ≤ i
  · exact .inr fun e => h i h' hi e.symm
  · exact .inl h'
theorem placeB_none {w : List UInt8} (h : ∀ i, 2 ≤ i → i < 13 → w ≠ elt names i) : placeB w = none := by
  unfold placeB
  rw [List.find?_eq_none]
  intro i hi
  simp only [Bool.and_eq_true, decide_eq_true_eq, not_and]
  exact fun h' e => h i h' (by simpa using hi) e.symm
theorem headD_elt (ws : List (List UInt8)) : ws.headD [] = elt ws 0 := by cases ws <;> rfl
theorem readB_good {s : List UInt8} (h : ∀ x ∈ (splitB 32 s).tail.map parseB, (0 : Int) ≤ x) : readB s = (placeB (elt (splitB 32 s) 0)).bind fun k => readEv k ((splitB 32 s).tail.map parseB) := by
  unfold readB
  simp only
  rw [if_pos, headD_elt]
  rw [List.all_eq_true]
  exact fun x hx => by simpa using h x hx
theorem split_pos (s : List UInt8) : 0 < (splitB 32 s).length := List.length_pos_iff.2 (splitB_ne _ _)
theorem names_len : names.length = 13 := rfl
theorem c_spec_l45Read (s : List UInt8) (hl : s.length ≤ 1048576) :
    Fn Tryz.prog 19 [AV.text s] (AV.tup [((readB s).getD default).av, AV.bool (readB s).isSome]) := by
 refine Fn.intro 52 Tryz.func19 rfl Tryz.ntmps19 rfl (by kernel_rfl) (fun W I a hs => ?_)
 have hsl := splitB_len 32 s
 have hsp := split_pos s
 refine sr <| hs.alloc rfl ty50 zc50 fun b2 I a w hs => hs.sc fun hs => nn <| sr <| hs.m fun hs => ?_
 refine hs.o (.cl (c_spec_l45Split _ 32 hl)) fun hs => ?_
 refine hs.s fun hs => nn <| sr ?_
 refine hs.lit0 rfl un54 ty3 (by decide) fun b12 I a w hs => ?_
 refine hs.s fun hs => nn <| wp_seq <| sr <| hs.sc fun hs => nn <| wp_block ?_
 refine St.lo (σ := Nat × Value) (3 :: (run 3 5 (run 18 13 []))) ⟨fun ⟨k, v⟩ => [(6, AV.int k), (5, AV.val v)], fun ⟨k, v⟩ => [Own.box b2 50 zeroEv, Own.row v 3 1 ((numsTo (splitB 32 s) k).map intCell)], fun ⟨k, v⟩ => 1 ≤ k ∧ k ≤ (splitB 32 s).length ∧ ∀ x ∈ numsTo (splitB 32 s) k, (0 : Int) ≤ x⟩ (fun ⟨k, v⟩ => (splitB 32 s).length - k) (1, .slice (some ⟨b12, 0, none⟩) 0 0) hs ?ok1 ?round1
 case ok1 => exact ⟨Nat.le_refl _, hsp, fun x hx => by simp [numsTo] at hx⟩
 case round1 =>
  rintro ⟨k, v⟩ I a w hok hs
  obtain ⟨hk1, hk, hall⟩ := hok
  change St _ _ [Own.box b2 50 zeroEv, Own.row v 3 1 ((numsTo (splitB 32 s) k).map intCell)] _ _ _ at hs
  have hnl := numsTo_len (ws := splitB 32 s) (k := k)
  refine wp_seq <| sr <| hs.m fun hs => hs.m fun hs => ?_
  refine hs.o .ln fun hs => ?_
  refine hs.o .lss fun hs => nn ?_
  refine hs.cd (fun hb1 => ?_) fun hb1 => ?_
  ·try simp only [B] at hb1
   refine wp_skip <| then_n <| wp_seq <| wp_block <| sr <| hs.m fun hs => hs.m fun hs => ?_
   refine hs.o .ix fun hs => ?_
   refine hs.o .l1 fun hs => hs.o (.c1 (c_spec_l45Dec ..)) fun hs => hs.s fun hs => nn <| wp_seq <| sr <| hs.m fun hs => hs.o .lssc fun hs => nn ?_
   refine hs.cd (fun hb2 => ?_) fun hb2 => ?_
   ·try simp only [B] at hb2
    refine sr ?_
    refine hs.o (.bd zc50 Parts.nil) fun hs => ?_
    refine hs.sb 0 fun hs => ?_
    refine hs.sc fun hs => nn <| wp_ret <| then_r <| block_r <| then_r <| then_r <| block_r <| then_r ?_
    refine hs.ret rfl (.cons (.s 0 ty50 rfl rfl (by first | rfl | assumption)) (.cons (.t rfl) ResL.nil)) ?_
    exact ret_tup2 (by rw [readB_bad hk1 hb1 hb2]; rfl) (by rw [readB_bad hk1 hb1 hb2]; rfl)
   ·try simp only [B] at hb2
    refine wp_skip <| then_n <| St.region <| hs.m fun hs => hs.m fun hs => ?_
    refine hs.o (.li [_] zo3 (.v .nil)) fun hs => ?_
    refine hs.append 1 rfl un54 ty3 rfl .tt .r rfl (by simp; omega) fun v30 a w hs => ?_
    change St _ _ [Own.box b2 50 zeroEv, Own.row v30 3 1 ((numsTo (splitB 32 s) k).map intCell ++ [[AV.int (parseB (elt (splitB 32 s) k))]])] _ _ _ at hs
    rw [snoc_int, ← numsTo_succ hk1 hb1] at hs
    refine hs.s fun hs => wpList_nil <| block_n <| then_n <| St.region <| hs.m fun hs => ?_
    refine hs.o .ad fun hs => ?_
    refine hs.s fun hs => nn ?_
    exact hs.ag (k + 1, v30) (⟨by omega, hb1, fun x hx => by rw [numsTo_succ hk1 hb1] at hx; rcases List.mem_append.1 hx with h | h; exact hall x h; simp at h; rw [h]; exact hb2⟩)
  ·try simp only [B] at hb1
   refine wp_exit <| then_x <| then_x <| block_hit <| then_n <| sr ?_
   refine hs.o (.cl (c_spec_l45Names ..)) fun hs => ?_
   refine hs.s fun hs => ?_
   rw [numsTo_all (by omega)] at hs hall
   obtain ⟨I, hs, hf⟩ := hs.freezeRow 1 rfl
   have hs := hs.upd (t := 5) rfl hf
   refine nn <| wp_seq <| sr <| hs.sc fun hs => nn <| wp_block ?_
   refine St.lo (σ := Nat) (3 :: (9 :: (run 19 32 []))) ⟨fun k => [(9, AV.int k)], fun k => [Own.box b2 50 zeroEv, Own.gone], fun k => 2 ≤ k ∧ k ≤ 13 ∧ ∀ i, 2 ≤ i → i < k → elt (splitB 32 s) 0 ≠ elt names i⟩ (fun k => 13 - k) 2 hs ?ok2 ?round2
   case ok2 => exact ⟨by omega, by omega, fun i h1 h2 => by omega⟩
   case round2 =>
    rintro k I a w hok hs
    obtain ⟨hk, hk13, hne⟩ := hok
    refine wp_seq <| sr <| hs.m fun hs => hs.m fun hs => ?_
    refine hs.o .ln fun hs => ?_
    refine hs.o .lss fun hs => nn ?_
    refine hs.cd (fun hb3 => ?_) fun hb3 => ?_
    ·try simp only [B] at hb3
     refine wp_skip <| then_n <| wp_seq <| wp_block <| wp_seq <| hs.dk <| .o .mv ?_
     refine .o .ix ?_
     refine .o .l1 <| .o .mv <| .o .mv ?_
     refine .o .ix ?_
     refine .o .l1 <| .o (ok_eqT .tt .tt) <| .nil ?_
     intro I a w hs
     refine then_n ?_
     refine hs.cd (fun hb4 => ?_) fun hb4 => ?_
     ·try simp only [B] at hb4
      refine sr <| hs.m fun hs => hs.m fun hs => ?_
      refine hs.o (.cl (c_spec_l45Event k hk hb3 _)) fun hs => ?_
      refine hs.o .e fun hs => hs.o .e fun hs => ?_
      refine hs.sb 0 fun hs => ?_
      refine hs.s fun hs => nn <| wp_ret <| block_r <| then_r <| then_r <| block_r <| then_r ?_
      refine hs.ret rfl (.cons (.s 0 ty50 rfl rfl (by first | rfl | assumption)) (.cons (.t rfl) ResL.nil)) ?_
      have er := readB_good hall
      rw [place_first hk (by rw [names_len] at hb3; omega) hne hb4] at er
      exact ret_tup2 (by rw [er]; rfl) (by rw [er]; rfl)
     ·try simp only [B] at hb4
      refine wp_skip <| block_n <| then_n <| St.region <| hs.m fun hs => ?_
      refine hs.o .ad fun hs => ?_
      refine hs.s fun hs => nn ?_
      exact hs.ag (k + 1) (⟨by omega, by rw [names_len] at hb3; omega, fun i h1 h2 => by rcases Nat.lt_succ_iff_lt_or_eq.1 h2 with h | h; exact hne i h1 h; rw [h]; exact hb4⟩) (hμ := by rw [names_len] at hb3; omega)
    ·try simp only [B] at hb3
     refine wp_exit <| then_x <| then_x <| block_hit <| then_n <| sr ?_
     refine hs.o (.bd zc50 Parts.nil) fun hs => ?_
     refine hs.sb 0 fun hs => ?_
     refine hs.sc fun hs => nn <| wp_ret ?_
     refine hs.ret rfl (.cons (.s 0 ty50 rfl rfl (by first | rfl | assumption)) (.cons (.t rfl) ResL.nil)) ?_
     have er := readB_good hall
     rw [placeB_none (fun i h1 h2 => hne i h1 (by rw [names_len] at hb3; omega))] at er
     exact ret_tup2 (by rw [er]; rfl) (by rw [er]; rfl)
theorem fields_len : ∀ {ns : List Int}, (∀ n ∈ ns, i64r n) → (fieldsB ns).length ≤ 22 * ns.length
  | [], _ => by simp [fieldsB]
  | n :: ns, h => by
    have := fields_len (ns := ns) fun m hm => h m (by simp [hm])
    have h1 := dec_len (h n (by simp))
    simp [fieldsB] at this ⊢; omega
theorem names_le (k : Nat) : (elt names k).length ≤ 7 := by
  by_cases h : k < 13
  · have : ∀ k : Fin 13, (elt names k.val).length ≤ 7 := by decide
    exact this ⟨k, h⟩
  · have : elt names k = [] := by
      unfold elt; rw [List.getD_eq_getElem?_getD, List.getElem?_eq_none (by rw [names_len]; omega)]; rfl
    rw [this]; simp
theorem lineB_len {e : Ev} (h : e.Fit) : (lineB e).length ≤ 95 := by
  unfold lineB
  cases hk : evK e with
  | none => simp
  | some p =>
    obtain ⟨k, ns⟩ := p
    have h4 : ns.length ≤ 4 ∧ ∀ n ∈ ns, i64r n := by
      unfold evK at hk
      have hh : ∀ x, x ∈ e.ints → i64r x := h
      simp only [Ev.ints, List.mem_cons, List.not_mem_nil, or_false] at hh
      (repeat' split at hk) <;> simp at hk <;> obtain ⟨_, rfl⟩ := hk <;> refine ⟨by simp, fun n hn => hh n ?_⟩ <;> simp only [List.mem_cons, List.not_mem_nil, or_false] at hn <;> (rcases hn with h | h | h | h <;> simp [h])
    have := fields_len h4.2
    have h7 := names_le k
    simp only [lineOf, List.length_append]
    have e7 : (names.getD k []).length ≤ 7 := h7
    omega
end Go.Proofs.YtkoebplikhlapaaGreatDoor
