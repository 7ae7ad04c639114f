/- Walks: what the program writes, and the law. -/
import Derived.Test.YtblcocjbnjfhkaaDoorWalk7
set_option linter.unusedVariables false
set_option linter.unusedSimpArgs false
set_option maxRecDepth 100000
namespace Go.Proofs.YtblcocjbnjfhkaaDoor
open Go Go.RowKit


theorem At.pt {Γ : Env} {g : Bool} {t : Nat} {x : AV} {v : Value} (h : Env.get t Γ = some (.pin (.tab x) v)) : At Γ g (.tmp t) x := fun I a he _ => (he t _ h).1.1
theorem At.tab2 {Γ : Env} {g : Bool} {t : Nat} {o : Operand} {x y : AV} {v : Value} (h : Env.get t Γ = some (.pin (.tab y) v)) (k : At Γ g o x) : At Γ g o (AV.tab x) := fun I a he hg => ⟨k I a he hg, (he t _ h).1.2⟩
theorem writeEv_len {e : Ev} (h : e.Fit) : (writeEv e).length ≤ 96 := by
  rw [writeEv_eq]; unfold evLine
  have := lineB_len h
  split
  · simp; omega
  · simp
theorem elt_fit {l : List Ev} {k : Nat} (h : ∀ e ∈ l, e.Fit) (hk : k < l.length) : (elt l k).Fit := h _ (by rw [elt, List.getD_eq_getElem?_getD, List.getElem?_eq_getElem hk]; exact List.getElem_mem _)

theorem c_impl_NeckWrite (l : List Ev) (h : ∀ e ∈ l, e.Fit) :
    Fn Tryd.prog 8 [AV.tab (evsAV l)] (AV.text (neckW [] l)) := by
  refine Fn.intro 28 Tryd.func8 rfl Tryd.ntmps8 rfl (by kernel_rfl) (fun W I a hs => ?_)
  have hm0 := hs.step.models
  have h0 := hs.env 0 _ rfl
  have hs := hs.pin (t := 0) rfl
  generalize a.tmps.getD 0 undef = v0 at hs h0
  have hs := hs.le (Γ' := [(0, AV.pin (AV.tab (evsAV l)) v0)]) (Env.le_consE rfl rfl Env.le_nil)
  refine wp_seq ?_
  refine St.region ?_
  refine hs.op rfl rfl rfl (ok_assign .c) fun I a w hs => ?_
  refine wpList_nil ?_
  refine then_n ?_
  refine wp_seq ?_
  refine St.region ?_
  refine hs.alloc rfl ty43 (l := [.val (.pointer none), .val (.slice none 0 0)]) (fun _ => ⟨⟨rfl, rfl⟩, ⟨rfl, rfl⟩, trivial⟩) fun b3 I a w hs => ?_
  have hs := hs.toBuilder
  refine wpList_nil ?_
  refine then_n ?_
  refine wp_seq ?_
  refine wp_seq ?_
  refine St.region ?_
  refine hs.op rfl rfl rfl (ok_move (.t rfl)) fun I a w hs => ?_
  refine hs.op rfl rfl rfl (ok_lenM un25 (.pt rfl)) fun I a w hs => ?_
  refine hs.op rfl rfl rfl (ok_move .c) fun I a w hs => ?_
  refine wpList_nil ?_
  refine then_n ?_
  refine wp_block ?_
  refine St.loopS (σ := Nat × List UInt8 × Value) (2 :: 5 :: 6 :: 9 :: 10 :: 11 :: 12 :: 13 :: 14 :: 15 :: 16 :: 17 :: 18 :: 19 :: 20 :: 21 :: 22 :: 23 :: 24 :: 25 :: 26 :: []) ⟨fun ⟨k, out, v⟩ => [(9, AV.int k)], fun ⟨k, out, v⟩ => [Own.bbox b3 v, Own.bbuf v out], fun ⟨k, out, v⟩ => k ≤ l.length ∧ neckW [] l = neckW out (l.drop k) ∧ out.length ≤ 60000 ∧ l.length ≤ 9223372036854775807⟩ (fun ⟨k, out, v⟩ => l.length - k) (0, [], .slice none 0 0) hs rfl ?ok1 ?env1 ?round1
  case ok1 => exact ⟨by simp, rfl, by simp, rows_le h0.1⟩
  case env1 => exact (Env.le_consE rfl (by rfl) Env.le_nil)
  case round1 =>
    rintro ⟨k, out, v⟩ I a w hok hs
    obtain ⟨hk, he, hol, hll⟩ := hok
    change St _ _ [Own.bbox b3 v, Own.bbuf v out] _ _ _ at hs
    refine wp_seq ?_
    refine St.region ?_
    refine hs.op rfl rfl rfl (ok_lss (.t rfl) (.t rfl)) fun I a w hs => ?_
    refine wpList_nil ?_
    refine then_n ?_
    refine wp_seq ?_
    refine hs.cond (.t rfl) (fun hb1 => ?_) (fun hb1 => ?_)
    · try simp only [decide_eq_true_eq, decide_eq_false_iff_not, Bool.not_eq_true', Bool.not_eq_false', Bool.and_eq_true, Bool.or_eq_true, Bool.and_eq_false_iff, Bool.or_eq_false_iff, beq_iff_eq, bne_iff_ne, bne_eq_false_iff_eq, beq_eq_false_iff_ne, ne_eq, Int.not_lt, Int.not_le, Int.ofNat_lt, Int.ofNat_le] at hb1
      refine wp_skip ?_
      refine then_n ?_
      refine wp_seq ?_
      refine wp_block ?_
      refine wp_seq ?_
      refine St.region ?_
      have hfe := elt_fit h hb1
      have hwl := writeEv_len hfe
      refine hs.op rfl rfl rfl (ok_idxN un25 ty35 (.pt rfl) (.t rfl) (fun _ => hb1)) fun I a w hs => ?_
      refine hs.op rfl rfl rfl ((by first | exact ok_loadA ty35 (.t rfl) rfl | exact ok_loadS ty35 (.t rfl) rfl)) fun I a w hs => ?_
      refine hs.alloc rfl ty35 zc35 fun b5 I a w hs => ?_
      refine hs.storeB 2 ty35 (.t rfl) (.t rfl) rfl (by first | rfl | assumption) rfl fun a w hs => ?_
      obtain ⟨I, hs, hf⟩ := hs.freezeBox 2 rfl
      have hs := hs.upd (t := 5) rfl hf; clear hf
      refine wpList_nil ?_
      refine then_n ?_
      refine wp_seq ?_
      refine St.region ?_
      refine hs.op rfl rfl rfl ((by first | exact ok_loadA ty35 (.t rfl) rfl | exact ok_loadS ty35 (.t rfl) rfl)) fun I a w hs => ?_
      refine hs.op rfl rfl rfl (ok_call (c_impl_writeEvent _ hfe) (args_cons (.tab2 (t := 7) rfl (.t rfl)) args_nil)) fun I a w hs => ?_
      refine hs.op rfl rfl rfl (ok_assign (.t rfl)) fun I a w hs => ?_
      refine wpList_nil ?_
      refine then_n ?_
      refine wp_seq ?_
      refine wp_seq ?_
      refine St.region ?_
      refine hs.op rfl rfl rfl (ok_move (.t rfl)) fun I a w hs => ?_
      refine hs.op rfl rfl rfl (ok_eqT (.t rfl) .c) fun I a w hs => ?_
      refine hs.op rfl rfl rfl (ok_move (.t rfl)) fun I a w hs => ?_
      refine hs.opG (guarded_F rfl rfl rfl) rfl rfl (ok_bLen 0 1 (by decide) (.t rfl) rfl rfl) fun I a w hs => ?_
      refine hs.opG (guarded_F rfl rfl rfl) rfl rfl (ok_move (.t rfl)) fun I a w hs => ?_
      refine hs.opG (guarded_F rfl rfl rfl) rfl rfl (ok_lenT un9 (.g rfl (fun hg => by first | exact hg | exact (Bool.and_eq_true_iff.1 hg).1 | exact (Bool.and_eq_true_iff.1 (Bool.and_eq_true_iff.1 hg).1).1))) fun I a w hs => ?_
      refine hs.opG (guarded_F rfl rfl rfl) rfl rfl (ok_add (.g rfl (fun hg => by first | exact hg | exact (Bool.and_eq_true_iff.1 hg).1 | exact (Bool.and_eq_true_iff.1 (Bool.and_eq_true_iff.1 hg).1).1)) (.g rfl (fun hg => by first | exact hg | exact (Bool.and_eq_true_iff.1 hg).1 | exact (Bool.and_eq_true_iff.1 (Bool.and_eq_true_iff.1 hg).1).1)) (fun hg => by omega)) fun I a w hs => ?_
      refine hs.opG (guarded_F rfl rfl rfl) rfl rfl (ok_gtr (.g rfl (fun hg => by first | exact hg | exact (Bool.and_eq_true_iff.1 hg).1 | exact (Bool.and_eq_true_iff.1 (Bool.and_eq_true_iff.1 hg).1).1)) .c) fun I a w hs => ?_
      refine hs.op rfl rfl rfl (ok_or (.t rfl) .c (by first | exact .t rfl | exact .gc rfl (fun hg => hg) | exact .gc rfl (fun hg => (Bool.and_eq_true_iff.1 hg).1))) fun I a w hs => ?_
      refine wpList_nil ?_
      refine then_n ?_
      refine hs.cond (.t rfl) (fun hb2 => ?_) (fun hb2 => ?_)
      · try simp only [decide_eq_true_eq, decide_eq_false_iff_not, Bool.not_eq_true', Bool.not_eq_false', Bool.and_eq_true, Bool.or_eq_true, Bool.and_eq_false_iff, Bool.or_eq_false_iff, beq_iff_eq, bne_iff_ne, bne_eq_false_iff_eq, beq_eq_false_iff_ne, ne_eq, Int.not_lt, Int.not_le, Int.ofNat_lt, Int.ofNat_le] at hb2
        refine wp_seq ?_
        refine St.region ?_
        refine hs.op rfl rfl rfl (ok_assign .c) fun I a w hs => ?_
        refine wpList_nil ?_
        refine then_n ?_
        refine wp_ret ?_
        refine then_r ?_
        refine block_r ?_
        refine then_r ?_
        refine then_r ?_
        refine block_r ?_
        refine then_r ?_
        refine hs.ret rfl (.cons (.t rfl) ResL.nil) ?_
        exact ret_av (congrArg AV.text (by rw [he, drop_elt hb1, neckW, if_pos]; rw [← writeEv_eq]; exact hb2.imp id (by omega)))
      · try simp only [decide_eq_true_eq, decide_eq_false_iff_not, Bool.not_eq_true', Bool.not_eq_false', Bool.and_eq_true, Bool.or_eq_true, Bool.and_eq_false_iff, Bool.or_eq_false_iff, beq_iff_eq, bne_iff_ne, bne_eq_false_iff_eq, beq_eq_false_iff_ne, ne_eq, Int.not_lt, Int.not_le, Int.ofNat_lt, Int.ofNat_le] at hb2
        refine wp_skip ?_
        refine then_n ?_
        refine St.region ?_
        refine hs.op rfl rfl rfl (ok_move (.t rfl)) fun I a w hs => ?_
        refine hs.bWrite (Γ' := [(9, AV.int k), (8, AV.int l.length), (7, AV.pin (AV.tab (evsAV l)) v0), (3, AV.val (.pointer (some ⟨b3, 0, none⟩))), (0, AV.pin (AV.tab (evsAV l)) v0)]) hm0 0 1 (by decide) rfl rfl (Env.le_consE rfl rfl (Env.le_consE rfl rfl (Env.le_consE rfl rfl (Env.le_consE rfl rfl (Env.le_consE rfl rfl Env.le_nil))))) ?hr25 rfl (.t rfl) (.t rfl) (by omega) fun v25 a w hs => ?_
        case hr25 =>
          intro p hp
          simp only [List.mem_cons, List.not_mem_nil, or_false] at hp
          rcases hp with rfl | rfl | rfl | rfl | rfl <;> first | exact rigid_val | exact rigid_pin h0
        refine wpList_nil ?_
        refine block_n ?_
        refine then_n ?_
        refine St.region ?_
        refine hs.op rfl rfl rfl (ok_add (.t rfl) .c (fun _ => by omega)) fun I a w hs => ?_
        refine hs.op rfl rfl rfl (ok_move (.t rfl)) fun I a w hs => ?_
        refine wpList_nil ?_
        refine then_n ?_
        refine hs.again (k + 1, out ++ writeEv (elt l k), v25) ?mu1 ?ok1001 (by rfl) ?env1001 (by repeat (first | exact Env.le_rfl | refine Env.le_push rfl ?_))
        case mu1 => simp; omega
        case ok1001 => exact ⟨hb1, by rw [he, drop_elt hb1, neckW, writeEv_eq, if_neg]; rw [← writeEv_eq]; exact fun hh => hh.elim hb2.1 (by omega), by simp only [List.length_append]; omega, hll⟩
        case env1001 => exact (Env.le_consE rfl (by first | rfl | (congr 1; done)) Env.le_nil)
    · try simp only [decide_eq_true_eq, decide_eq_false_iff_not, Bool.not_eq_true', Bool.not_eq_false', Bool.and_eq_true, Bool.or_eq_true, Bool.and_eq_false_iff, Bool.or_eq_false_iff, beq_iff_eq, bne_iff_ne, bne_eq_false_iff_eq, beq_eq_false_iff_ne, ne_eq, Int.not_lt, Int.not_le, Int.ofNat_lt, Int.ofNat_le] at hb1
      refine wp_exit ?_
      refine then_x ?_
      refine then_x ?_
      refine block_hit ?_
      refine then_n ?_
      refine wp_seq ?_
      refine St.region ?_
      refine hs.bString hm0 0 1 (by decide) rfl rfl rfl (.t rfl) fun a w hs => ?_
      refine hs.op rfl rfl rfl (ok_assign (.t rfl)) fun I a w hs => ?_
      refine wpList_nil ?_
      refine then_n ?_
      refine wp_ret ?_
      refine hs.ret rfl (.cons (.t rfl) ResL.nil) ?_
      exact ret_av (congrArg AV.text (by rw [he, List.drop_eq_nil_of_le (by omega)]; rfl))

theorem c_laws_FnExactNeckWrite (l : List Ev) (h : ∀ e ∈ l, e.Fit) :
    Fn Tryd.prog 3 [AV.tab (evsAV l)] (AV.bool true) := by
  refine Fn.intro 27 Tryd.func3 rfl Tryd.ntmps3 rfl (by kernel_rfl) (fun W I a hs => ?_)
  refine wp_seq ?_
  refine St.region ?_
  refine hs.op rfl rfl rfl (ok_assign .c) fun I a w hs => ?_
  refine wpList_nil ?_
  refine then_n ?_
  refine wp_seq ?_
  refine St.region ?_
  refine hs.op rfl rfl rfl (ok_assign .c) fun I a w hs => ?_
  refine wpList_nil ?_
  refine then_n ?_
  refine wp_seq ?_
  refine St.region ?_
  refine hs.op rfl rfl rfl (ok_move (.untab rfl)) fun I a w hs => ?_
  refine hs.op rfl rfl rfl (ok_move (.t rfl)) fun I a w hs => ?_
  refine hs.op rfl rfl rfl (ok_call (c_laws_szNeckEventS ..) (args_cons (by first | exact .t rfl | exact .nil (.t rfl)) (args_cons (.t rfl) args_nil))) fun I a w hs => ?_
  refine hs.op rfl rfl rfl (ok_assign (.t rfl)) fun I a w hs => ?_
  refine wpList_nil ?_
  refine then_n ?_
  refine wp_seq ?_
  refine wp_seq ?_
  refine St.region ?_
  refine hs.op rfl rfl rfl (ok_move (.t rfl)) fun I a w hs => ?_
  refine hs.op rfl rfl rfl (ok_lss (.t rfl) .c) fun I a w hs => ?_
  refine wpList_nil ?_
  refine then_n ?_
  refine hs.cond (.t rfl) (fun hb1 => ?_) (fun hb1 => ?_)
  · try simp only [decide_eq_true_eq, decide_eq_false_iff_not, Bool.not_eq_true', Bool.not_eq_false', Bool.and_eq_true, Bool.or_eq_true, Bool.and_eq_false_iff, Bool.or_eq_false_iff, beq_iff_eq, bne_iff_ne, bne_eq_false_iff_eq, beq_eq_false_iff_ne, ne_eq, Int.not_lt, Int.not_le, Int.ofNat_lt, Int.ofNat_le] at hb1
    refine wp_seq ?_
    refine St.region ?_
    refine hs.op rfl rfl rfl (ok_assign .c) fun I a w hs => ?_
    refine wpList_nil ?_
    refine then_n ?_
    refine wp_ret ?_
    refine then_r ?_
    refine hs.ret rfl (.cons (.t rfl) ResL.nil) ?_
    rfl
  · have hlen : l.length ≤ 1048576 := by have := hb1; rw [decide_eq_false_iff_not, leftOf_neg] at this; omega
    refine wp_skip ?_
    refine then_n ?_
    refine wp_seq ?_
    refine St.region ?_
    refine hs.op rfl rfl rfl (ok_move (.untab rfl)) fun I a w hs => ?_
    refine hs.op rfl rfl rfl (ok_call (c_laws_toNeckEventS _ hlen) (args_cons (by first | exact .t rfl | exact .nil (.t rfl)) args_nil)) fun I a w hs => ?_
    refine hs.op rfl rfl rfl (ok_call (c_spec_NeckWrite _ hlen h) (args_cons (by first | exact .t rfl | exact .nil (.t rfl)) args_nil)) fun I a w hs => ?_
    refine hs.op rfl rfl rfl (ok_assign (.t rfl)) fun I a w hs => ?_
    refine wpList_nil ?_
    refine then_n ?_
    refine wp_seq ?_
    refine St.region ?_
    refine hs.op rfl rfl rfl (ok_move (.untab rfl)) fun I a w hs => ?_
    refine hs.op rfl rfl rfl (ok_call (c_laws_toNeckEventS _ hlen) (args_cons (by first | exact .t rfl | exact .nil (.t rfl)) args_nil)) fun I a w hs => ?_
    refine hs.op rfl rfl rfl (ok_assign (.t rfl)) fun I a w hs => ?_
    refine wpList_nil ?_
    refine then_n ?_
    refine wp_seq ?_
    refine St.region ?_
    refine hs.op rfl rfl rfl (ok_move (.t rfl)) fun I a w hs => ?_
    refine hs.op rfl rfl rfl (ok_call (c_impl_NeckWrite _ h) (args_cons (.tab (t := 0) rfl (.t rfl)) args_nil)) fun I a w hs => ?_
    refine hs.op rfl rfl rfl (ok_assign (.t rfl)) fun I a w hs => ?_
    refine wpList_nil ?_
    refine then_n ?_
    refine wp_seq ?_
    refine wp_seq ?_
    refine St.region ?_
    refine hs.op rfl rfl rfl (ok_move (.t rfl)) fun I a w hs => ?_
    refine hs.op rfl rfl rfl (ok_move (.t rfl)) fun I a w hs => ?_
    refine hs.op rfl rfl rfl (ok_neT (.t rfl) (.t rfl)) fun I a w hs => ?_
    refine wpList_nil ?_
    refine then_n ?_
    refine hs.cond (.t rfl) (fun hb2 => ?_) (fun hb2 => ?_)
    · exfalso; simp at hb2
      skip
    · try simp only [decide_eq_true_eq, decide_eq_false_iff_not, Bool.not_eq_true', Bool.not_eq_false', Bool.and_eq_true, Bool.or_eq_true, Bool.and_eq_false_iff, Bool.or_eq_false_iff, beq_iff_eq, bne_iff_ne, bne_eq_false_iff_eq, beq_eq_false_iff_ne, ne_eq, Int.not_lt, Int.not_le, Int.ofNat_lt, Int.ofNat_le] at hb2
      refine wp_skip ?_
      refine then_n ?_
      refine wp_seq ?_
      refine wp_seq ?_
      refine St.region ?_
      refine hs.op rfl rfl rfl (ok_move (.t rfl)) fun I a w hs => ?_
      refine hs.op rfl rfl rfl (ok_move (.untab rfl)) fun I a w hs => ?_
      refine hs.op rfl rfl rfl (ok_call (c_laws_toNeckEventS _ hlen) (args_cons (by first | exact .t rfl | exact .nil (.t rfl)) args_nil)) fun I a w hs => ?_
      refine hs.op rfl rfl rfl (ok_call (c_laws_eqNeckEventS ..) (args_cons (by first | exact .t rfl | exact .nil (.t rfl)) (args_cons (by first | exact .t rfl | exact .nil (.t rfl)) args_nil))) fun I a w hs => ?_
      refine hs.op rfl rfl rfl (ok_not (.t rfl)) fun I a w hs => ?_
      refine wpList_nil ?_
      refine then_n ?_
      refine hs.cond (.t rfl) (fun hb3 => ?_) (fun hb3 => ?_)
      · exfalso; simp at hb3
        skip
      · try simp only [decide_eq_true_eq, decide_eq_false_iff_not, Bool.not_eq_true', Bool.not_eq_false', Bool.and_eq_true, Bool.or_eq_true, Bool.and_eq_false_iff, Bool.or_eq_false_iff, beq_iff_eq, bne_iff_ne, bne_eq_false_iff_eq, beq_eq_false_iff_ne, ne_eq, Int.not_lt, Int.not_le, Int.ofNat_lt, Int.ofNat_le] at hb3
        refine wp_skip ?_
        refine then_n ?_
        refine wp_seq ?_
        refine St.region ?_
        refine hs.op rfl rfl rfl (ok_assign .c) fun I a w hs => ?_
        refine wpList_nil ?_
        refine then_n ?_
        refine wp_ret ?_
        refine hs.ret rfl (.cons (.t rfl) ResL.nil) ?_
        rfl

end Go.Proofs.YtblcocjbnjfhkaaDoor
